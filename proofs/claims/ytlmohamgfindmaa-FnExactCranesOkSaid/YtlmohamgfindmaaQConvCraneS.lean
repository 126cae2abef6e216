/- Plain lemmas on the printed functions (ConvCraneS). -/
import Derived.Test.YtlmohamgfindmaaPu0
import Derived.Test.YtlmohamgfindmaaPAx0
import Derived.Test.YtlmohamgfindmaaPAx14
import Derived.Test.YtlmohamgfindmaaPAx16
import Derived.Test.YtlmohamgfindmaaPAx17
namespace Go.Proofs.Ytlmohamgfindmaa.Pu
open Go.RowKit Go.Proofs.Ytlmohamgfindmaa Go.Proofs.Ytlmohamgfindmaa.PA Go.Proofs.Ytlmohamgfindmaa.Pu Go.Proofs.YtlmohamgfindmaaW.PrintWords Go.Proofs.YtlmohamgfindmaaW.PrintLast Go.Proofs.YtlmohamgfindmaaW.PrintMore
set_option linter.unusedVariables false
set_option linter.unusedSimpArgs false
def cCrane (x : S125) : S122 := ⟨x.f0, x.f1, x.f2⟩
theorem toCraneS_ev (l : List S125) (hl : l.length ≤ 11728124029610) : Ev (fun k => laws_toCraneS.f k l) (l.map cCrane) := by
  have key : ∀ i, i ≤ l.length → Ev (fun k => laws_toCraneS.l0 k l ((l.take i).map cCrane ++ List.replicate (l.length - i) z122) (i : Int)) (l.map cCrane) := by
    refine down ?_ ?_
    · rw [fill_all]
      refine Ev.step (fun _ => rfl) ?_
      simp only [laws_toCraneS.l0]
      exact ev_f (by omega) (Ev.now _)
    · intro i hi ih
      refine Ev.step (fun _ => rfl) ?_
      simp only [laws_toCraneS.l0, laws_toCrane.f, Option.bind_some]
      refine ev_t (by omega) (ev_t (by omega) (ev_t (by simp; omega) ?_))
      rw [wr (by omega), Int.toNat_natCast, set_fill l cCrane z122 i hi _ (by simp [rd_T125, hi, cCrane])]
      exact ih
  have h0 := key 0 (Nat.zero_le _)
  rw [fill_none] at h0
  simp only [laws_toCraneS.f]
  refine ev_t (by omega) (ev_t (by omega) ?_)
  simpa using h0
theorem eqCraneS_ev (l : List S122) (hl : l.length ≤ 11728124029610) : Ev (fun k => laws_eqCraneS.f k l l) true := by
  have key : ∀ i, i ≤ l.length → Ev (fun k => laws_eqCraneS.l0 k l l (i : Int)) true := by
    refine down ?_ ?_
    · refine Ev.step (fun _ => rfl) ?_
      simp only [laws_eqCraneS.l0]
      exact ev_f (by omega) (Ev.now _)
    · intro i hi ih
      refine Ev.step (fun _ => rfl) ?_
      simp only [laws_eqCraneS.l0, laws_eqCrane.f, if_true, Bool.not_true, bne_self_eq_false, Bool.false_eq_true, if_false, Option.bind_some]
      refine ev_t (by omega) (ev_t (by omega) (ev_t (by omega) ?_))
      rw [wr (by omega)]
      exact ih
  simp only [laws_eqCraneS.f]
  exact ev_t (by first | rfl | trivial) (key 0 (Nat.zero_le _))

end Go.Proofs.Ytlmohamgfindmaa.Pu
