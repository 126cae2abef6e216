/- Plain lemmas on the printed functions (ConvTraderS). -/
import Derived.Test.YtfeaabdighopbaaPu0
import Derived.Test.YtfeaabdighopbaaPDx0
import Derived.Test.YtfeaabdighopbaaPDx3
import Derived.Test.YtfeaabdighopbaaPDx8
import Derived.Test.YtfeaabdighopbaaPDx9
namespace Go.Proofs.Ytfeaabdighopbaa.Pu
open Go.RowKit Go.Proofs.Ytfeaabdighopbaa Go.Proofs.Ytfeaabdighopbaa.PD Go.Proofs.Ytfeaabdighopbaa.Pu Go.Proofs.YtfeaabdighopbaaW.PrintWords Go.Proofs.YtfeaabdighopbaaW.PrintLast Go.Proofs.YtfeaabdighopbaaW.PrintMore
set_option linter.unusedVariables false
set_option linter.unusedSimpArgs false
def cTrader (x : S146) : S122 := ⟨x.f0, x.f1, x.f2⟩
theorem toTraderS_ev (l : List S146) (hl : l.length ≤ 11728124029610) : Ev (fun k => laws_toTraderS.f k l) (l.map cTrader) := by
  have key : ∀ i, i ≤ l.length → Ev (fun k => laws_toTraderS.l0 k l ((l.take i).map cTrader ++ List.replicate (l.length - i) z122) (i : Int)) (l.map cTrader) := by
    refine down ?_ ?_
    · rw [fill_all]
      refine Ev.step (fun _ => rfl) ?_
      simp only [laws_toTraderS.l0]
      exact ev_f (by omega) (Ev.now _)
    · intro i hi ih
      refine Ev.step (fun _ => rfl) ?_
      simp only [laws_toTraderS.l0, laws_toTrader.f, Option.bind_some]
      refine ev_t (by omega) (ev_t (by omega) (ev_t (by simp; omega) ?_))
      rw [wr (by omega), Int.toNat_natCast, set_fill l cTrader z122 i hi _ (by simp [rd_T146, hi, cTrader])]
      exact ih
  have h0 := key 0 (Nat.zero_le _)
  rw [fill_none] at h0
  simp only [laws_toTraderS.f]
  refine ev_t (by omega) (ev_t (by omega) ?_)
  simpa using h0
theorem eqTraderS_ev (l : List S122) (hl : l.length ≤ 11728124029610) : Ev (fun k => laws_eqTraderS.f k l l) true := by
  have key : ∀ i, i ≤ l.length → Ev (fun k => laws_eqTraderS.l0 k l l (i : Int)) true := by
    refine down ?_ ?_
    · refine Ev.step (fun _ => rfl) ?_
      simp only [laws_eqTraderS.l0]
      exact ev_f (by omega) (Ev.now _)
    · intro i hi ih
      refine Ev.step (fun _ => rfl) ?_
      simp only [laws_eqTraderS.l0, laws_eqTrader.f, if_true, Bool.not_true, bne_self_eq_false, Bool.false_eq_true, if_false, Option.bind_some]
      refine ev_t (by omega) (ev_t (by omega) (ev_t (by omega) ?_))
      rw [wr (by omega)]
      exact ih
  simp only [laws_eqTraderS.f]
  exact ev_t (by first | rfl | trivial) (key 0 (Nat.zero_le _))

end Go.Proofs.Ytfeaabdighopbaa.Pu
