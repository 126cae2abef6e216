/- The pure statement of FnExactSpellsOk, proved: for every input that the opening lets in, the printed law comes to true. -/
import Derived.Test.YtjebipmpcabfbaaPu0
import Derived.Test.YtjebipmpcabfbaaPAx0
import Derived.Test.YtjebipmpcabfbaaPAx17
import Derived.Test.YtjebipmpcabfbaaPAx18
import Derived.Test.YtjebipmpcabfbaaPAx19
import Derived.Test.YtjebipmpcabfbaaPAx20
import Derived.Test.YtjebipmpcabfbaaPAx21
import Derived.Test.YtjebipmpcabfbaaPAx22
import Derived.Test.YtjebipmpcabfbaaPAx23
import Derived.Test.YtjebipmpcabfbaaQBase
import Derived.Test.YtjebipmpcabfbaaStFnExactSpellsOk
namespace Go.Proofs.Ytjebipmpcabfbaa.Pure
open Go.RowKit Go.Proofs.Ytjebipmpcabfbaa Go.Proofs.Ytjebipmpcabfbaa.PA Go.Proofs.Ytjebipmpcabfbaa.Pu Go.Proofs.YtjebipmpcabfbaaW.PrintWords Go.Proofs.YtjebipmpcabfbaaW.PrintLast Go.Proofs.YtjebipmpcabfbaaW.PrintMore
set_option linter.unusedVariables false
set_option linter.unusedSimpArgs false
def cSpell (x : S83) : S81 := ⟨x.f0, x.f1⟩
theorem toSpellS_ev (l : List S83) (hl : l.length ≤ 1048576) : Ev (fun k => laws_toSpellS.f k l) (l.map cSpell) := by
  have key : ∀ i, i ≤ l.length → Ev (fun k => laws_toSpellS.l0 k l ((l.take i).map cSpell ++ List.replicate (l.length - i) z81) (i : Int)) (l.map cSpell) := by
    refine down ?_ ?_
    · rw [fill_all]
      refine Ev.step (fun _ => rfl) ?_
      simp only [laws_toSpellS.l0]
      exact ev_f (by omega) (Ev.now _)
    · intro i hi ih
      refine Ev.step (fun _ => rfl) ?_
      simp only [laws_toSpellS.l0, laws_toSpell.f, Option.bind_some]
      refine ev_t (by omega) (ev_t (by omega) (ev_t (by simp; omega) ?_))
      rw [wr (by omega), Int.toNat_natCast, set_fill l cSpell z81 i hi _ (by simp [rd_T83, hi, cSpell])]
      exact ih
  have h0 := key 0 (Nat.zero_le _)
  rw [fill_none] at h0
  simp only [laws_toSpellS.f]
  refine ev_t (by omega) (ev_t (by omega) ?_)
  simpa using h0
theorem eqSpellS_ev (l : List S81) (hl : l.length ≤ 1048576) : Ev (fun k => laws_eqSpellS.f k l l) true := by
  have key : ∀ i, i ≤ l.length → Ev (fun k => laws_eqSpellS.l0 k l l (i : Int)) true := by
    refine down ?_ ?_
    · refine Ev.step (fun _ => rfl) ?_
      simp only [laws_eqSpellS.l0]
      exact ev_f (by omega) (Ev.now _)
    · intro i hi ih
      refine Ev.step (fun _ => rfl) ?_
      simp only [laws_eqSpellS.l0]
      refine ev_t (by omega) (ev_t (by omega) (ev_t (by omega) ?_))
      simp only [laws_eqSpell.f, if_true, Option.bind_some]
      rw [wr (by omega)]
      exact ih
  simp only [laws_eqSpellS.f]
  exact ev_t (by first | rfl | trivial) (key 0 (Nat.zero_le _))
def spellP (l : List S81) (i : Nat) : Bool := inB (rd_T81 l i).f0 0 100000000 && (inB (rd_T81 l i).f1 0 100000000 && (!decide ((rd_T81 l i).f0 ≥ (rd_T81 l i).f1) && !(decide (0 < i) && decide ((rd_T81 l i).f0 < (rd_T81 l ((i : Int) - 1)).f1))))
theorem spellsok1 (l : List S81) (hl : l.length ≤ 1048576) : Ev (fun k => spec_SpellsOk.f k l) (allFrom (spellP l) 0 l.length && decide ((l.length : Int) ≤ 100)) := by
  simp only [spec_SpellsOk.f]
  refine ev_all (g := fun k i => spec_SpellsOk.l0 k l i) (spellP l) _ ?_ ?_
  · refine Ev.step (fun _ => rfl) ?_
    simp only [spec_SpellsOk.l0]
    exact ev_f (by omega) (Ev.now _)
  · intro i hi r ih
    refine Ev.step (fun _ => rfl) ?_
    simp only [spec_SpellsOk.l0, spec_l1Minute.f, l1In_eq, Option.bind_some]
    refine ev_t (by omega) (ev_t (by omega) ?_)
    unfold spellP
    cases inB (rd_T81 l i).f0 0 100000000 with
    | false => exact Ev.now false
    | true =>
    cases inB (rd_T81 l i).f1 0 100000000 with
    | false => exact Ev.now false
    | true =>
    refine ev_t rfl (ev_t rfl ?_)
    by_cases h3 : (rd_T81 l i).f0 ≥ (rd_T81 l i).f1
    · simpa [h3] using Ev.now false
    refine ev_f h3 ?_
    by_cases h4 : 0 < i
    · refine ev_t (by omega) ?_
      rw [wr (by omega), wr (by omega)]
      refine ev_t (by omega) (ev_t (by omega) ?_)
      by_cases h5 : (rd_T81 l i).f0 < (rd_T81 l ((i : Int) - 1)).f1
      · refine ev_t h5 ?_
        simpa [h3, h4, h5] using Ev.now false
      · refine ev_f h5 ?_
        simpa [h3, h4, h5] using ih
    · refine ev_f (by omega) ?_
      rw [wr (by omega)]
      simpa [h3, h4] using ih
theorem spellsok2 (l : List S81) (hl : l.length ≤ 1048576) : Ev (fun k => impl_SpellsOk.f k l) (allFrom (spellP l) 0 l.length && decide ((l.length : Int) ≤ 100)) := by
  simp only [impl_SpellsOk.f]
  by_cases h0 : (l.length : Int) > 100
  · refine ev_t h0 ?_
    rw [decide_eq_false (by omega : ¬ (l.length : Int) ≤ 100), Bool.and_false]
    exact Ev.now _
  refine ev_f h0 ?_
  rw [decide_eq_true (by omega : (l.length : Int) ≤ 100)]
  refine ev_all (g := fun k i => impl_SpellsOk.l0 k l l (l.length : Int) i) (spellP l) _ ?_ ?_
  · refine Ev.step (fun _ => rfl) ?_
    simp only [impl_SpellsOk.l0]
    exact ev_f (by omega) (Ev.now _)
  · intro i hi r ih
    refine Ev.step (fun _ => rfl) ?_
    simp only [impl_SpellsOk.l0, impl_minuteOk.f, in_eq, Option.bind_some]
    refine ev_t (by omega) (ev_t (by omega) (ev_t (by omega) ?_))
    unfold spellP
    cases inB (rd_T81 l i).f0 0 100000000 with
    | false => exact Ev.now false
    | true =>
    cases inB (rd_T81 l i).f1 0 100000000 with
    | false => exact Ev.now false
    | true =>
    refine ev_t rfl (ev_t rfl ?_)
    by_cases h3 : (rd_T81 l i).f0 ≥ (rd_T81 l i).f1
    · simpa [h3] using Ev.now false
    refine ev_f h3 ?_
    by_cases h4 : 0 < i
    · refine ev_t (by omega) ?_
      rw [wr (by omega), wr (by omega)]
      refine ev_t (by omega) (ev_t (by omega) ?_)
      by_cases h5 : (rd_T81 l i).f0 < (rd_T81 l ((i : Int) - 1)).f1
      · refine ev_t h5 ?_
        simpa [h3, h4, h5] using Ev.now false
      · refine ev_f h5 ?_
        simpa [h3, h4, h5] using ih
    · refine ev_f (by omega) ?_
      rw [wr (by omega)]
      simpa [h3, h4] using ih
theorem Pure_SpellsOk (l : List S83) (hl : l.length ≤ maxLen) : ∃ k, laws_FnExactSpellsOk.f k l = some true := by
  refine Ev.rounds ?_
  unfold maxLen at hl
  simp only [laws_FnExactSpellsOk.f, laws_szSpellS.f]
  rw [wr (by omega)]
  by_cases h : (l.length : Int) ≤ 1048576
  · rw [if_neg (by omega)]
    simp only [Option.bind_some]
    have h' : (l.map cSpell).length ≤ 1048576 := by simp; omega
    exact ev_f (by omega) (Ev.bind (toSpellS_ev l (by omega)) (Ev.bind (spellsok1 _ h') (Ev.bind (toSpellS_ev l (by omega)) (Ev.bind (spellsok2 _ h') (ev_f (by simp) (Ev.bind (toSpellS_ev l (by omega)) (Ev.bind (eqSpellS_ev _ h') (ev_t rfl (Ev.now _)))))))))
  · rw [if_pos (by omega)]
    simp only [Option.bind_some]
    exact ev_t (by omega) (Ev.now _)
theorem FnExactSpellsOk : laws_FnExactSpellsOk.Pure := fun l g => Pure_SpellsOk l g.1

end Go.Proofs.Ytjebipmpcabfbaa.Pure
