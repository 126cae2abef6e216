/- Plain lemmas on the printed functions (ConvPartS). -/
import Derived.Test.YtlmohamgfindmaaPu0
import Derived.Test.YtlmohamgfindmaaPAx0
import Derived.Test.YtlmohamgfindmaaPAx25
import Derived.Test.YtlmohamgfindmaaPAx26
import Derived.Test.YtlmohamgfindmaaPAx27
import Derived.Test.YtlmohamgfindmaaPAx28
namespace Go.Proofs.Ytlmohamgfindmaa.Pu
open Go.RowKit Go.Proofs.Ytlmohamgfindmaa Go.Proofs.Ytlmohamgfindmaa.PA Go.Proofs.Ytlmohamgfindmaa.Pu Go.Proofs.YtlmohamgfindmaaW.PrintWords Go.Proofs.YtlmohamgfindmaaW.PrintLast Go.Proofs.YtlmohamgfindmaaW.PrintMore
set_option linter.unusedVariables false
set_option linter.unusedSimpArgs false
def cPart (x : S132) : S130 := ⟨x.f0, x.f1⟩
theorem toPartS_ev (l : List S132) (hl : l.length ≤ 17592186044416) : Ev (fun k => laws_toPartS.f k l) (l.map cPart) := by
  have key : ∀ i, i ≤ l.length → Ev (fun k => laws_toPartS.l0 k l ((l.take i).map cPart ++ List.replicate (l.length - i) z130) (i : Int)) (l.map cPart) := by
    refine down ?_ ?_
    · rw [fill_all]
      refine Ev.step (fun _ => rfl) ?_
      simp only [laws_toPartS.l0]
      exact ev_f (by omega) (Ev.now _)
    · intro i hi ih
      refine Ev.step (fun _ => rfl) ?_
      simp only [laws_toPartS.l0, laws_toPart.f, Option.bind_some]
      refine ev_t (by omega) (ev_t (by omega) (ev_t (by simp; omega) ?_))
      rw [wr (by omega), Int.toNat_natCast, set_fill l cPart z130 i hi _ (by simp [rd_T132, hi, cPart])]
      exact ih
  have h0 := key 0 (Nat.zero_le _)
  rw [fill_none] at h0
  simp only [laws_toPartS.f]
  refine ev_t (by omega) (ev_t (by omega) ?_)
  simpa using h0
theorem eqPartS_ev (l : List S130) (hl : l.length ≤ 17592186044416) : Ev (fun k => laws_eqPartS.f k l l) true := by
  have key : ∀ i, i ≤ l.length → Ev (fun k => laws_eqPartS.l0 k l l (i : Int)) true := by
    refine down ?_ ?_
    · refine Ev.step (fun _ => rfl) ?_
      simp only [laws_eqPartS.l0]
      exact ev_f (by omega) (Ev.now _)
    · intro i hi ih
      refine Ev.step (fun _ => rfl) ?_
      simp only [laws_eqPartS.l0, laws_eqPart.f, if_true, Bool.not_true, bne_self_eq_false, Bool.false_eq_true, if_false, Option.bind_some]
      refine ev_t (by omega) (ev_t (by omega) (ev_t (by omega) ?_))
      rw [wr (by omega)]
      exact ih
  simp only [laws_eqPartS.f]
  exact ev_t (by first | rfl | trivial) (key 0 (Nat.zero_le _))

end Go.Proofs.Ytlmohamgfindmaa.Pu
