/- Plain lemmas on the printed functions (ConvClosedS). -/
import Derived.Test.YthbmpegaogfibaaPu0
import Derived.Test.YthbmpegaogfibaaPEx0
import Derived.Test.YthbmpegaogfibaaPEx5
import Derived.Test.YthbmpegaogfibaaPEx11
import Derived.Test.YthbmpegaogfibaaPEx12
namespace Go.Proofs.Ythbmpegaogfibaa.Pu
open Go.RowKit Go.Proofs.Ythbmpegaogfibaa Go.Proofs.Ythbmpegaogfibaa.PE Go.Proofs.Ythbmpegaogfibaa.Pu Go.Proofs.YthbmpegaogfibaaW.PrintWords Go.Proofs.YthbmpegaogfibaaW.PrintLast Go.Proofs.YthbmpegaogfibaaW.PrintMore
set_option linter.unusedVariables false
set_option linter.unusedSimpArgs false
def cClosed (x : S54) : S52 := ⟨x.f0, x.f1, x.f2, x.f3, x.f4, x.f5⟩
theorem toClosedS_ev (l : List S54) (hl : l.length ≤ 5864062014805) : Ev (fun k => laws_toClosedS.f k l) (l.map cClosed) := by
  have key : ∀ i, i ≤ l.length → Ev (fun k => laws_toClosedS.l0 k l ((l.take i).map cClosed ++ List.replicate (l.length - i) z52) (i : Int)) (l.map cClosed) := by
    refine down ?_ ?_
    · rw [fill_all]
      refine Ev.step (fun _ => rfl) ?_
      simp only [laws_toClosedS.l0]
      exact ev_f (by omega) (Ev.now _)
    · intro i hi ih
      refine Ev.step (fun _ => rfl) ?_
      simp only [laws_toClosedS.l0, laws_toClosed.f, Option.bind_some]
      refine ev_t (by omega) (ev_t (by omega) (ev_t (by simp; omega) ?_))
      rw [wr (by omega), Int.toNat_natCast, set_fill l cClosed z52 i hi _ (by simp [rd_T54, hi, cClosed])]
      exact ih
  have h0 := key 0 (Nat.zero_le _)
  rw [fill_none] at h0
  simp only [laws_toClosedS.f]
  refine ev_t (by omega) (ev_t (by omega) ?_)
  simpa using h0
theorem eqClosedS_ev (l : List S52) (hl : l.length ≤ 5864062014805) : Ev (fun k => laws_eqClosedS.f k l l) true := by
  have key : ∀ i, i ≤ l.length → Ev (fun k => laws_eqClosedS.l0 k l l (i : Int)) true := by
    refine down ?_ ?_
    · refine Ev.step (fun _ => rfl) ?_
      simp only [laws_eqClosedS.l0]
      exact ev_f (by omega) (Ev.now _)
    · intro i hi ih
      refine Ev.step (fun _ => rfl) ?_
      simp only [laws_eqClosedS.l0, laws_eqClosed.f, if_true, Bool.not_true, bne_self_eq_false, Bool.false_eq_true, if_false, Option.bind_some]
      refine ev_t (by omega) (ev_t (by omega) (ev_t (by omega) ?_))
      rw [wr (by omega)]
      exact ih
  simp only [laws_eqClosedS.f]
  exact ev_t (by first | rfl | trivial) (key 0 (Nat.zero_le _))

end Go.Proofs.Ythbmpegaogfibaa.Pu
