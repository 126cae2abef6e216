/- Plain lemmas on the printed functions (ConvCargoTankS). -/
import Derived.Test.YtlmohamgfindmaaPu0
import Derived.Test.YtlmohamgfindmaaPAx0
import Derived.Test.YtlmohamgfindmaaPAx34
import Derived.Test.YtlmohamgfindmaaPAx35
import Derived.Test.YtlmohamgfindmaaPAx36
import Derived.Test.YtlmohamgfindmaaPAx37
namespace Go.Proofs.Ytlmohamgfindmaa.Pu
open Go.RowKit Go.Proofs.Ytlmohamgfindmaa Go.Proofs.Ytlmohamgfindmaa.PA Go.Proofs.Ytlmohamgfindmaa.Pu Go.Proofs.YtlmohamgfindmaaW.PrintWords Go.Proofs.YtlmohamgfindmaaW.PrintLast Go.Proofs.YtlmohamgfindmaaW.PrintMore
set_option linter.unusedVariables false
set_option linter.unusedSimpArgs false
def cCargoTank (x : S168) : S166 := ⟨x.f0, x.f1, x.f2, x.f3, x.f4⟩
theorem toCargoTankS_ev (l : List S168) (hl : l.length ≤ 7036874417766) : Ev (fun k => laws_toCargoTankS.f k l) (l.map cCargoTank) := by
  have key : ∀ i, i ≤ l.length → Ev (fun k => laws_toCargoTankS.l0 k l ((l.take i).map cCargoTank ++ List.replicate (l.length - i) z166) (i : Int)) (l.map cCargoTank) := by
    refine down ?_ ?_
    · rw [fill_all]
      refine Ev.step (fun _ => rfl) ?_
      simp only [laws_toCargoTankS.l0]
      exact ev_f (by omega) (Ev.now _)
    · intro i hi ih
      refine Ev.step (fun _ => rfl) ?_
      simp only [laws_toCargoTankS.l0, laws_toCargoTank.f, Option.bind_some]
      refine ev_t (by omega) (ev_t (by omega) (ev_t (by simp; omega) ?_))
      rw [wr (by omega), Int.toNat_natCast, set_fill l cCargoTank z166 i hi _ (by simp [rd_T168, hi, cCargoTank])]
      exact ih
  have h0 := key 0 (Nat.zero_le _)
  rw [fill_none] at h0
  simp only [laws_toCargoTankS.f]
  refine ev_t (by omega) (ev_t (by omega) ?_)
  simpa using h0
theorem eqCargoTankS_ev (l : List S166) (hl : l.length ≤ 7036874417766) : Ev (fun k => laws_eqCargoTankS.f k l l) true := by
  have key : ∀ i, i ≤ l.length → Ev (fun k => laws_eqCargoTankS.l0 k l l (i : Int)) true := by
    refine down ?_ ?_
    · refine Ev.step (fun _ => rfl) ?_
      simp only [laws_eqCargoTankS.l0]
      exact ev_f (by omega) (Ev.now _)
    · intro i hi ih
      refine Ev.step (fun _ => rfl) ?_
      simp only [laws_eqCargoTankS.l0, laws_eqCargoTank.f, if_true, Bool.not_true, bne_self_eq_false, Bool.false_eq_true, if_false, Option.bind_some]
      refine ev_t (by omega) (ev_t (by omega) (ev_t (by omega) ?_))
      rw [wr (by omega)]
      exact ih
  simp only [laws_eqCargoTankS.f]
  exact ev_t (by first | rfl | trivial) (key 0 (Nat.zero_le _))

end Go.Proofs.Ytlmohamgfindmaa.Pu
