/- Plain lemmas on the printed functions (ConvCartS). -/
import Derived.Test.YtlmohamgfindmabPu0
import Derived.Test.YtlmohamgfindmabPBx0
import Derived.Test.YtlmohamgfindmabPBx10
import Derived.Test.YtlmohamgfindmabPBx13
import Derived.Test.YtlmohamgfindmabPBx14
namespace Go.Proofs.Ytlmohamgfindmab.Pu
open Go.RowKit Go.Proofs.Ytlmohamgfindmab Go.Proofs.Ytlmohamgfindmab.PB Go.Proofs.Ytlmohamgfindmab.Pu Go.Proofs.YtlmohamgfindmabW.PrintWords Go.Proofs.YtlmohamgfindmabW.PrintLast Go.Proofs.YtlmohamgfindmabW.PrintMore
set_option linter.unusedVariables false
set_option linter.unusedSimpArgs false
def cCart (x : S146) : S144 := ⟨x.f0, x.f1⟩
theorem toCartS_ev (l : List S146) (hl : l.length ≤ 17592186044416) : Ev (fun k => laws_toCartS.f k l) (l.map cCart) := by
  have key : ∀ i, i ≤ l.length → Ev (fun k => laws_toCartS.l0 k l ((l.take i).map cCart ++ List.replicate (l.length - i) z144) (i : Int)) (l.map cCart) := by
    refine down ?_ ?_
    · rw [fill_all]
      refine Ev.step (fun _ => rfl) ?_
      simp only [laws_toCartS.l0]
      exact ev_f (by omega) (Ev.now _)
    · intro i hi ih
      refine Ev.step (fun _ => rfl) ?_
      simp only [laws_toCartS.l0, laws_toCart.f, Option.bind_some]
      refine ev_t (by omega) (ev_t (by omega) (ev_t (by simp; omega) ?_))
      rw [wr (by omega), Int.toNat_natCast, set_fill l cCart z144 i hi _ (by simp [rd_T146, hi, cCart])]
      exact ih
  have h0 := key 0 (Nat.zero_le _)
  rw [fill_none] at h0
  simp only [laws_toCartS.f]
  refine ev_t (by omega) (ev_t (by omega) ?_)
  simpa using h0
theorem eqCartS_ev (l : List S144) (hl : l.length ≤ 17592186044416) : Ev (fun k => laws_eqCartS.f k l l) true := by
  have key : ∀ i, i ≤ l.length → Ev (fun k => laws_eqCartS.l0 k l l (i : Int)) true := by
    refine down ?_ ?_
    · refine Ev.step (fun _ => rfl) ?_
      simp only [laws_eqCartS.l0]
      exact ev_f (by omega) (Ev.now _)
    · intro i hi ih
      refine Ev.step (fun _ => rfl) ?_
      simp only [laws_eqCartS.l0, laws_eqCart.f, if_true, Bool.not_true, bne_self_eq_false, Bool.false_eq_true, if_false, Option.bind_some]
      refine ev_t (by omega) (ev_t (by omega) (ev_t (by omega) ?_))
      rw [wr (by omega)]
      exact ih
  simp only [laws_eqCartS.f]
  exact ev_t (by first | rfl | trivial) (key 0 (Nat.zero_le _))

end Go.Proofs.Ytlmohamgfindmab.Pu
