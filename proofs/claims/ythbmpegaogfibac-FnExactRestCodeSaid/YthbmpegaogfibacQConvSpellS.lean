/- Plain lemmas on the printed functions (ConvSpellS). -/
import Derived.Test.YthbmpegaogfibacPu0
import Derived.Test.YthbmpegaogfibacPAx0
import Derived.Test.YthbmpegaogfibacPAx6
import Derived.Test.YthbmpegaogfibacPAx10
import Derived.Test.YthbmpegaogfibacPAx11
namespace Go.Proofs.Ythbmpegaogfibac.Pu
open Go.RowKit Go.Proofs.Ythbmpegaogfibac Go.Proofs.Ythbmpegaogfibac.PA Go.Proofs.Ythbmpegaogfibac.Pu Go.Proofs.YthbmpegaogfibacW.PrintWords Go.Proofs.YthbmpegaogfibacW.PrintLast Go.Proofs.YthbmpegaogfibacW.PrintMore
set_option linter.unusedVariables false
set_option linter.unusedSimpArgs false
def cSpell (x : S37) : S33 := ⟨x.f0, x.f1⟩
theorem toSpellS_ev (l : List S37) (hl : l.length ≤ 17592186044416) : Ev (fun k => laws_toSpellS.f k l) (l.map cSpell) := by
  have key : ∀ i, i ≤ l.length → Ev (fun k => laws_toSpellS.l0 k l ((l.take i).map cSpell ++ List.replicate (l.length - i) z33) (i : Int)) (l.map cSpell) := by
    refine down ?_ ?_
    · rw [fill_all]
      refine Ev.step (fun _ => rfl) ?_
      simp only [laws_toSpellS.l0]
      exact ev_f (by omega) (Ev.now _)
    · intro i hi ih
      refine Ev.step (fun _ => rfl) ?_
      simp only [laws_toSpellS.l0, laws_toSpell.f, Option.bind_some]
      refine ev_t (by omega) (ev_t (by omega) (ev_t (by simp; omega) ?_))
      rw [wr (by omega), Int.toNat_natCast, set_fill l cSpell z33 i hi _ (by simp [rd_T37, hi, cSpell])]
      exact ih
  have h0 := key 0 (Nat.zero_le _)
  rw [fill_none] at h0
  simp only [laws_toSpellS.f]
  refine ev_t (by omega) (ev_t (by omega) ?_)
  simpa using h0
theorem eqSpellS_ev (l : List S33) (hl : l.length ≤ 17592186044416) : Ev (fun k => laws_eqSpellS.f k l l) true := by
  have key : ∀ i, i ≤ l.length → Ev (fun k => laws_eqSpellS.l0 k l l (i : Int)) true := by
    refine down ?_ ?_
    · refine Ev.step (fun _ => rfl) ?_
      simp only [laws_eqSpellS.l0]
      exact ev_f (by omega) (Ev.now _)
    · intro i hi ih
      refine Ev.step (fun _ => rfl) ?_
      simp only [laws_eqSpellS.l0, laws_eqSpell.f, if_true, Bool.not_true, bne_self_eq_false, Bool.false_eq_true, if_false, Option.bind_some]
      refine ev_t (by omega) (ev_t (by omega) (ev_t (by omega) ?_))
      rw [wr (by omega)]
      exact ih
  simp only [laws_eqSpellS.f]
  exact ev_t (by first | rfl | trivial) (key 0 (Nat.zero_le _))

end Go.Proofs.Ythbmpegaogfibac.Pu
