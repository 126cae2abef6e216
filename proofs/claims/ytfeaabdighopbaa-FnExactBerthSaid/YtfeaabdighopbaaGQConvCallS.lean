/- Plain lemmas on the printed functions (ConvCallS). -/
import Derived.Test.YtfeaabdighopbaaPu0
import Derived.Test.YtfeaabdighopbaaPGx0
import Derived.Test.YtfeaabdighopbaaPGx1
import Derived.Test.YtfeaabdighopbaaPGx2
namespace Go.Proofs.Ytfeaabdighopbaa.Pu
open Go.RowKit Go.Proofs.Ytfeaabdighopbaa Go.Proofs.Ytfeaabdighopbaa.PG Go.Proofs.Ytfeaabdighopbaa.Pu Go.Proofs.YtfeaabdighopbaaW.PrintWords Go.Proofs.YtfeaabdighopbaaW.PrintLast Go.Proofs.YtfeaabdighopbaaW.PrintMore
set_option linter.unusedVariables false
set_option linter.unusedSimpArgs false
def cCall (x : S93) : S91 := ⟨x.f0, x.f1, x.f2, x.f3, x.f4⟩
theorem toCallS_ev (l : List S93) (hl : l.length ≤ 7036874417766) : Ev (fun k => laws_toCallS.f k l) (l.map cCall) := by
  have key : ∀ i, i ≤ l.length → Ev (fun k => laws_toCallS.l0 k l ((l.take i).map cCall ++ List.replicate (l.length - i) z91) (i : Int)) (l.map cCall) := by
    refine down ?_ ?_
    · rw [fill_all]
      refine Ev.step (fun _ => rfl) ?_
      simp only [laws_toCallS.l0]
      exact ev_f (by omega) (Ev.now _)
    · intro i hi ih
      refine Ev.step (fun _ => rfl) ?_
      simp only [laws_toCallS.l0, laws_toCall.f, Option.bind_some]
      refine ev_t (by omega) (ev_t (by omega) (ev_t (by simp; omega) ?_))
      rw [wr (by omega), Int.toNat_natCast, set_fill l cCall z91 i hi _ (by simp [rd_T93, hi, cCall])]
      exact ih
  have h0 := key 0 (Nat.zero_le _)
  rw [fill_none] at h0
  simp only [laws_toCallS.f]
  refine ev_t (by omega) (ev_t (by omega) ?_)
  simpa using h0
theorem eqCallS_ev (l : List S91) (hl : l.length ≤ 7036874417766) : Ev (fun k => laws_eqCallS.f k l l) true := by
  have key : ∀ i, i ≤ l.length → Ev (fun k => laws_eqCallS.l0 k l l (i : Int)) true := by
    refine down ?_ ?_
    · refine Ev.step (fun _ => rfl) ?_
      simp only [laws_eqCallS.l0]
      exact ev_f (by omega) (Ev.now _)
    · intro i hi ih
      refine Ev.step (fun _ => rfl) ?_
      simp only [laws_eqCallS.l0, laws_eqCall.f, if_true, Bool.not_true, bne_self_eq_false, Bool.false_eq_true, if_false, Option.bind_some]
      refine ev_t (by omega) (ev_t (by omega) (ev_t (by omega) ?_))
      rw [wr (by omega)]
      exact ih
  simp only [laws_eqCallS.f]
  exact ev_t (by first | rfl | trivial) (key 0 (Nat.zero_le _))

end Go.Proofs.Ytfeaabdighopbaa.Pu
