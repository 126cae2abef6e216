/- Plain lemmas on the printed functions (Spells). -/
import Derived.Test.YthbmpegaogfibacPu0
import Derived.Test.YthbmpegaogfibacPAx0
import Derived.Test.YthbmpegaogfibacPAx1
import Derived.Test.YthbmpegaogfibacPAx2
import Derived.Test.YthbmpegaogfibacPAx6
import Derived.Test.YthbmpegaogfibacPAx7
import Derived.Test.YthbmpegaogfibacQBase
namespace Go.Proofs.Ythbmpegaogfibac.Pu
open Go.RowKit Go.Proofs.Ythbmpegaogfibac Go.Proofs.Ythbmpegaogfibac.PA Go.Proofs.Ythbmpegaogfibac.Pu Go.Proofs.YthbmpegaogfibacW.PrintWords Go.Proofs.YthbmpegaogfibacW.PrintLast Go.Proofs.YthbmpegaogfibacW.PrintMore
set_option linter.unusedVariables false
set_option linter.unusedSimpArgs false
def spellP (l : List S33) (i : Nat) : Bool := inB (rd_T33 l i).f0 0 100000000 && (inB (rd_T33 l i).f1 0 100000000 && (!decide ((rd_T33 l i).f0 ≥ (rd_T33 l i).f1) && !(decide (0 < i) && decide ((rd_T33 l i).f0 < (rd_T33 l ((i : Int) - 1)).f1))))
theorem spellsok1 (l : List S33) (hl : l.length ≤ 1048576) : Ev (fun k => spec_SpellsOk.f k l) (allFrom (spellP l) 0 l.length && decide ((l.length : Int) ≤ 100)) := by
  simp only [spec_SpellsOk.f]
  refine ev_all (g := fun k i => spec_SpellsOk.l0 k l i) (spellP l) _ ?_ ?_
  · refine Ev.step (fun _ => rfl) ?_
    simp only [spec_SpellsOk.l0]
    exact ev_f (by omega) (Ev.now _)
  · intro i hi r ih
    have jf : ∀ b, Ev (fun k => spec_SpellsOk.j1 k l i b) (!b && r) := by
      intro b
      refine Ev.step (fun _ => rfl) ?_
      simp only [spec_SpellsOk.j1]
      rw [wr (by omega)]
      cases b with
      | true => exact Ev.now _
      | false => simpa using ih
    refine Ev.step (fun _ => rfl) ?_
    simp only [spec_SpellsOk.l0, spec_l1Minute.f, l1In_eq, Option.bind_some]
    refine ev_t (by omega) (ev_t (by omega) ?_)
    unfold spellP
    cases inB (rd_T33 l i).f0 0 100000000 with
    | false => simpa using jf true
    | true =>
    cases inB (rd_T33 l i).f1 0 100000000 with
    | false => simpa using jf true
    | true =>
    refine ev_t rfl (ev_t rfl ?_)
    by_cases h3 : (rd_T33 l i).f0 ≥ (rd_T33 l i).f1
    · refine ev_t h3 ?_
      simpa [h3] using jf true
    refine ev_f h3 ?_
    by_cases h4 : 0 < i
    · refine ev_t (by omega) ?_
      rw [wr (by omega)]
      refine ev_t (by omega) (ev_t (by omega) ?_)
      simpa [h3, h4] using jf (decide ((rd_T33 l i).f0 < (rd_T33 l ((i : Int) - 1)).f1))
    · refine ev_f (by omega) ?_
      simpa [h3, h4] using jf false
theorem spellsok2 (l : List S33) (hl : l.length ≤ 1048576) : Ev (fun k => impl_SpellsOk.f k l) (allFrom (spellP l) 0 l.length && decide ((l.length : Int) ≤ 100)) := by
  simp only [impl_SpellsOk.f]
  by_cases h0 : (l.length : Int) > 100
  · refine ev_t h0 ?_
    rw [decide_eq_false (by omega : ¬ (l.length : Int) ≤ 100), Bool.and_false]
    exact Ev.now _
  refine ev_f h0 ?_
  rw [decide_eq_true (by omega : (l.length : Int) ≤ 100)]
  refine ev_all (g := fun k i => impl_SpellsOk.l0 k l l (l.length : Int) i) (spellP l) _ ?_ ?_
  · refine Ev.step (fun _ => rfl) ?_
    simp only [impl_SpellsOk.l0]
    exact ev_f (by omega) (Ev.now _)
  · intro i hi r ih
    have jf : ∀ b, Ev (fun k => impl_SpellsOk.j1 k l l l.length i b) (!b && r) := by
      intro b
      refine Ev.step (fun _ => rfl) ?_
      simp only [impl_SpellsOk.j1]
      rw [wr (by omega)]
      cases b with
      | true => exact Ev.now _
      | false => simpa using ih
    refine Ev.step (fun _ => rfl) ?_
    simp only [impl_SpellsOk.l0, impl_minuteOk.f, in_eq, Option.bind_some]
    refine ev_t (by omega) (ev_t (by omega) (ev_t (by omega) ?_))
    unfold spellP
    cases inB (rd_T33 l i).f0 0 100000000 with
    | false => simpa using jf true
    | true =>
    cases inB (rd_T33 l i).f1 0 100000000 with
    | false => simpa using jf true
    | true =>
    refine ev_t rfl (ev_t rfl ?_)
    by_cases h3 : (rd_T33 l i).f0 ≥ (rd_T33 l i).f1
    · refine ev_t h3 ?_
      simpa [h3] using jf true
    refine ev_f h3 ?_
    by_cases h4 : 0 < i
    · refine ev_t (by omega) ?_
      rw [wr (by omega)]
      refine ev_t (by omega) (ev_t (by omega) ?_)
      simpa [h3, h4] using jf (decide ((rd_T33 l i).f0 < (rd_T33 l ((i : Int) - 1)).f1))
    · refine ev_f (by omega) ?_
      simpa [h3, h4] using jf false
def spellsB (l : List S33) : Bool := allFrom (spellP l) 0 l.length && decide ((l.length : Int) ≤ 100)
theorem spellsB_t {l : List S33} (h : spellsB l = true) : l.length ≤ 100 ∧ ∀ i : Nat, i < l.length → 0 ≤ (rd_T33 l i).f0 ∧ (rd_T33 l i).f0 < (rd_T33 l i).f1 ∧ (rd_T33 l i).f1 ≤ 100000000 ∧ (0 < i → (rd_T33 l ((i : Int) - 1)).f1 ≤ (rd_T33 l i).f0) := by
  simp only [spellsB, Bool.and_eq_true, decide_eq_true_eq, allFrom_iff] at h
  refine ⟨by omega, fun i hi => ?_⟩
  have := h.1 i (by omega) (by omega)
  simp only [spellP, Bool.and_eq_true, inB_t, Bool.not_eq_true', decide_eq_false_iff_not, Bool.and_eq_false_iff] at this
  omega

end Go.Proofs.Ythbmpegaogfibac.Pu
