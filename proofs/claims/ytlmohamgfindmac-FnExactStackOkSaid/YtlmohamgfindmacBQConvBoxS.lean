/- Plain lemmas on the printed functions (ConvBoxS). -/
import Derived.Test.YtlmohamgfindmacPu0
import Derived.Test.YtlmohamgfindmacPBx0
import Derived.Test.YtlmohamgfindmacPBx5
import Derived.Test.YtlmohamgfindmacPBx9
import Derived.Test.YtlmohamgfindmacPBx10
namespace Go.Proofs.Ytlmohamgfindmac.Pu
open Go.RowKit Go.Proofs.Ytlmohamgfindmac Go.Proofs.Ytlmohamgfindmac.PB Go.Proofs.Ytlmohamgfindmac.Pu Go.Proofs.YtlmohamgfindmacW.PrintWords Go.Proofs.YtlmohamgfindmacW.PrintLast Go.Proofs.YtlmohamgfindmacW.PrintMore
set_option linter.unusedVariables false
set_option linter.unusedSimpArgs false
def cBox (x : S56) : S61 := ⟨x.f0, x.f1, x.f2, x.f3, x.f4, x.f5⟩
theorem toBoxS_ev (l : List S56) (hl : l.length ≤ 5026338869833) : Ev (fun k => laws_toBoxS.f k l) (l.map cBox) := by
  have key : ∀ i, i ≤ l.length → Ev (fun k => laws_toBoxS.l0 k l ((l.take i).map cBox ++ List.replicate (l.length - i) z61) (i : Int)) (l.map cBox) := by
    refine down ?_ ?_
    · rw [fill_all]
      refine Ev.step (fun _ => rfl) ?_
      simp only [laws_toBoxS.l0]
      exact ev_f (by omega) (Ev.now _)
    · intro i hi ih
      refine Ev.step (fun _ => rfl) ?_
      simp only [laws_toBoxS.l0, laws_toBox.f, Option.bind_some]
      refine ev_t (by omega) (ev_t (by omega) (ev_t (by simp; omega) ?_))
      rw [wr (by omega), Int.toNat_natCast, set_fill l cBox z61 i hi _ (by simp [rd_T56, hi, cBox])]
      exact ih
  have h0 := key 0 (Nat.zero_le _)
  rw [fill_none] at h0
  simp only [laws_toBoxS.f]
  refine ev_t (by omega) (ev_t (by omega) ?_)
  simpa using h0
theorem eqBoxS_ev (l : List S61) (hl : l.length ≤ 5026338869833) : Ev (fun k => laws_eqBoxS.f k l l) true := by
  have key : ∀ i, i ≤ l.length → Ev (fun k => laws_eqBoxS.l0 k l l (i : Int)) true := by
    refine down ?_ ?_
    · refine Ev.step (fun _ => rfl) ?_
      simp only [laws_eqBoxS.l0]
      exact ev_f (by omega) (Ev.now _)
    · intro i hi ih
      refine Ev.step (fun _ => rfl) ?_
      simp only [laws_eqBoxS.l0, laws_eqBox.f, if_true, Bool.not_true, bne_self_eq_false, Bool.false_eq_true, if_false, Option.bind_some]
      refine ev_t (by omega) (ev_t (by omega) (ev_t (by omega) ?_))
      rw [wr (by omega)]
      exact ih
  simp only [laws_eqBoxS.f]
  exact ev_t (by first | rfl | trivial) (key 0 (Nat.zero_le _))

end Go.Proofs.Ytlmohamgfindmac.Pu
