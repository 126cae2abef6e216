/- Plain lemmas on the printed functions (BoxSz). -/
import Derived.Test.YtlmohamgfindmacPu0
import Derived.Test.YtlmohamgfindmacPBx0
import Derived.Test.YtlmohamgfindmacPBx1
namespace Go.Proofs.Ytlmohamgfindmac.Pu
open Go.RowKit Go.Proofs.Ytlmohamgfindmac Go.Proofs.Ytlmohamgfindmac.PB Go.Proofs.Ytlmohamgfindmac.Pu Go.Proofs.YtlmohamgfindmacW.PrintWords Go.Proofs.YtlmohamgfindmacW.PrintLast Go.Proofs.YtlmohamgfindmacW.PrintMore
set_option linter.unusedVariables false
set_option linter.unusedSimpArgs false
theorem szBoxS_ev (l : List S56) (hg : ∀ x ∈ l, x.f0.size ≤ 9223372036854775807) (hl : l.length ≤ 9223372036854775807) : ∃ v, Ev (fun k => laws_szBoxS.f k l 1048576) v ∧ (0 ≤ v → l.length ≤ 1048576) := by
  simp only [laws_szBoxS.f]
  rw [wr (by omega)]
  by_cases h : (l.length : Int) ≤ 1048576
  · have key : ∀ i, i ≤ l.length → ∀ a : Int, 0 ≤ a → a ≤ 1048576 → ∃ v, Ev (fun k => laws_szBoxS.l0 k l a (i : Int)) v := by
      refine down ?_ ?_
      · intro a _ _
        refine ⟨a, Ev.step (fun _ => rfl) ?_⟩
        simp only [laws_szBoxS.l0]
        exact ev_f (by omega) (Ev.now _)
      · intro i hi ih a h0 h1
        have hs : (rd_T56 l i).f0.size ≤ 9223372036854775807 := by
          simp only [rd_T56, Int.toNat_natCast, getD_at l z56 hi]
          exact hg _ (List.getElem_mem _)
        by_cases c : a - ((rd_T56 l i).f0.size : Int) < 0
        · refine ⟨-1, Ev.step (fun _ => rfl) ?_⟩
          simp only [laws_szBoxS.l0, laws_szBox.f]
          rw [wr (x := a - ((rd_T56 l i).f0.size : Int)) (by omega), if_pos c]
          exact ev_t (by omega) (ev_t (by omega) (Ev.bind (Ev.now _) (ev_t (by omega) (Ev.now _))))
        · obtain ⟨v, hv⟩ := ih (a - ((rd_T56 l i).f0.size : Int)) (by omega) (by omega)
          refine ⟨v, Ev.step (fun _ => rfl) ?_⟩
          simp only [laws_szBoxS.l0, laws_szBox.f]
          rw [wr (x := a - ((rd_T56 l i).f0.size : Int)) (by omega), if_neg c, wr (x := (i : Int) + 1) (by omega)]
          exact ev_t (by omega) (ev_t (by omega) (Ev.bind (Ev.now _) (ev_f (by omega) hv)))
    obtain ⟨v, hv⟩ := key 0 (Nat.zero_le _) (1048576 - (l.length : Int)) (by omega) (by omega)
    exact ⟨v, ev_f (by omega) hv, fun _ => by omega⟩
  · exact ⟨-1, ev_t (by omega) (Ev.now _), fun h => by omega⟩

end Go.Proofs.Ytlmohamgfindmac.Pu
