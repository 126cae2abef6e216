/- Plain lemmas on the printed functions (ConvLotS). -/
import Derived.Test.YtfeaabdighopbaaPu0
import Derived.Test.YtfeaabdighopbaaPDx0
import Derived.Test.YtfeaabdighopbaaPDx3
import Derived.Test.YtfeaabdighopbaaPDx6
import Derived.Test.YtfeaabdighopbaaPDx7
namespace Go.Proofs.Ytfeaabdighopbaa.Pu
open Go.RowKit Go.Proofs.Ytfeaabdighopbaa Go.Proofs.Ytfeaabdighopbaa.PD Go.Proofs.Ytfeaabdighopbaa.Pu Go.Proofs.YtfeaabdighopbaaW.PrintWords Go.Proofs.YtfeaabdighopbaaW.PrintLast Go.Proofs.YtfeaabdighopbaaW.PrintMore
set_option linter.unusedVariables false
set_option linter.unusedSimpArgs false
def cLot (x : S144) : S119 := ⟨x.f0, x.f1, x.f2, x.f3, x.f4, x.f5, x.f6⟩
theorem toLotS_ev (l : List S144) (hl : l.length ≤ 5026338869833) : Ev (fun k => laws_toLotS.f k l) (l.map cLot) := by
  have key : ∀ i, i ≤ l.length → Ev (fun k => laws_toLotS.l0 k l ((l.take i).map cLot ++ List.replicate (l.length - i) z119) (i : Int)) (l.map cLot) := by
    refine down ?_ ?_
    · rw [fill_all]
      refine Ev.step (fun _ => rfl) ?_
      simp only [laws_toLotS.l0]
      exact ev_f (by omega) (Ev.now _)
    · intro i hi ih
      refine Ev.step (fun _ => rfl) ?_
      simp only [laws_toLotS.l0, laws_toLot.f, Option.bind_some]
      refine ev_t (by omega) (ev_t (by omega) (ev_t (by simp; omega) ?_))
      rw [wr (by omega), Int.toNat_natCast, set_fill l cLot z119 i hi _ (by simp [rd_T144, hi, cLot])]
      exact ih
  have h0 := key 0 (Nat.zero_le _)
  rw [fill_none] at h0
  simp only [laws_toLotS.f]
  refine ev_t (by omega) (ev_t (by omega) ?_)
  simpa using h0
theorem eqLotS_ev (l : List S119) (hl : l.length ≤ 5026338869833) : Ev (fun k => laws_eqLotS.f k l l) true := by
  have key : ∀ i, i ≤ l.length → Ev (fun k => laws_eqLotS.l0 k l l (i : Int)) true := by
    refine down ?_ ?_
    · refine Ev.step (fun _ => rfl) ?_
      simp only [laws_eqLotS.l0]
      exact ev_f (by omega) (Ev.now _)
    · intro i hi ih
      refine Ev.step (fun _ => rfl) ?_
      simp only [laws_eqLotS.l0, laws_eqLot.f, if_true, Bool.not_true, bne_self_eq_false, Bool.false_eq_true, if_false, Option.bind_some]
      refine ev_t (by omega) (ev_t (by omega) (ev_t (by omega) ?_))
      rw [wr (by omega)]
      exact ih
  simp only [laws_eqLotS.f]
  exact ev_t (by first | rfl | trivial) (key 0 (Nat.zero_le _))

end Go.Proofs.Ytfeaabdighopbaa.Pu
