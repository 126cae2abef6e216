/- The pure statement of FnExactWorkIn, proved: for every input that the opening lets in, the printed law comes to true. -/
import Derived.Test.YtlmohamgfindmaaPu0
import Derived.Test.YtlmohamgfindmaaPAx0
import Derived.Test.YtlmohamgfindmaaPAx44
import Derived.Test.YtlmohamgfindmaaPAx52
import Derived.Test.YtlmohamgfindmaaPAx53
import Derived.Test.YtlmohamgfindmaaPAx54
import Derived.Test.YtlmohamgfindmaaPAx56
import Derived.Test.YtlmohamgfindmaaPAx57
import Derived.Test.YtlmohamgfindmaaPAx59
import Derived.Test.YtlmohamgfindmaaQBase
import Derived.Test.YtlmohamgfindmaaQSpells
import Derived.Test.YtlmohamgfindmaaQConvSpellS
import Derived.Test.YtlmohamgfindmaaStFnExactWorkIn
namespace Go.Proofs.Ytlmohamgfindmaa.Pure
open Go.RowKit Go.Proofs.Ytlmohamgfindmaa Go.Proofs.Ytlmohamgfindmaa.PA Go.Proofs.Ytlmohamgfindmaa.Pu Go.Proofs.YtlmohamgfindmaaW.PrintWords Go.Proofs.YtlmohamgfindmaaW.PrintLast Go.Proofs.YtlmohamgfindmaaW.PrintMore
set_option linter.unusedVariables false
set_option linter.unusedSimpArgs false
theorem work_l0 (l : List S183) (a b : Int) (hs : spellsB l = true) (ha : 0 ≤ a ∧ a ≤ 100000000) (hb : 0 ≤ b ∧ b ≤ 100000000) : ∀ i : Nat, i ≤ l.length → ∀ s : Int, 0 ≤ s → s ≤ i * 100000000 → ∃ v, Ev (fun k => spec_l10Work.l0 k l a b s i) v ∧ Ev (fun k => impl_WorkIn.l0 k a b s l l.length i) v := by
  obtain ⟨h100, hsp⟩ := spellsB_t hs
  refine down ?_ ?_
  · intro s _ _
    refine ⟨s, Ev.step (fun _ => rfl) ?_, Ev.step (fun _ => rfl) ?_⟩
    · simp only [spec_l10Work.l0]; exact ev_f (by omega) (Ev.now _)
    · simp only [impl_WorkIn.l0]; exact ev_f (by omega) (Ev.now _)
  · intro i hi ih s h0 h1
    obtain ⟨p1, p2, p3, _⟩ := hsp i hi
    obtain ⟨x, hx⟩ : ∃ x, x = (rd_T183 l i).f0 := ⟨_, rfl⟩
    obtain ⟨y, hy⟩ : ∃ y, y = (rd_T183 l i).f1 := ⟨_, rfl⟩
    rw [← hx, ← hy] at p2; rw [← hx] at p1; rw [← hy] at p3
    have hm : ∃ w, w = mx 0 (mn b y - mx a x) := ⟨_, rfl⟩
    obtain ⟨w, hw⟩ := hm
    have hw0 : 0 ≤ w ∧ w ≤ 100000000 := by
      rw [hw]; unfold mx mn; split <;> split <;> split <;> omega
    obtain ⟨v, v1, v2⟩ := ih (s + w) (by omega) (by omega)
    refine ⟨v, Ev.step (fun _ => rfl) ?_, Ev.step (fun _ => rfl) ?_⟩
    · have jf : ∀ c : Int, c = mx a x → Ev (fun k => spec_l10Work.j1 k l a b s i c y) v := by
        intro c hc
        refine Ev.step (fun _ => rfl) ?_
        simp only [spec_l10Work.j1]
        rw [wr (x := (i : Int) + 1) (by omega)]
        have hc2 : c = if a < x then x else a := hc
        have hw2 : w = if 0 < (if y < b then y else b) - c then (if y < b then y else b) - c else 0 := by rw [hw, hc]; rfl
        by_cases e1 : y > b
        · refine ev_t e1 ?_
          rw [if_neg (show ¬ y < b by omega)] at hw2
          by_cases e2 : c < b
          · refine ev_t e2 ?_
            rw [if_pos (show 0 < b - c by omega)] at hw2
            rw [wr (x := s + b) (by omega), wr (x := s + b - c) (by split at hc2 <;> omega), show s + b - c = s + w by omega]
            exact v1
          · refine ev_f e2 ?_
            rw [if_neg (show ¬ 0 < b - c by omega)] at hw2
            rw [hw2, Int.add_zero] at v1
            exact v1
        · refine ev_f e1 ?_
          have hyb : (if y < b then y else b) = y := by split <;> omega
          rw [hyb] at hw2
          by_cases e2 : c < y
          · refine ev_t e2 ?_
            rw [if_pos (show 0 < y - c by omega)] at hw2
            rw [wr (x := s + y) (by omega), wr (x := s + y - c) (by split at hc2 <;> omega), show s + y - c = s + w by omega]
            exact v1
          · refine ev_f e2 ?_
            rw [if_neg (show ¬ 0 < y - c by omega)] at hw2
            rw [hw2, Int.add_zero] at v1
            exact v1
      simp only [spec_l10Work.l0]
      rw [← hx, ← hy]
      refine ev_t (by omega) (ev_t (by omega) ?_)
      by_cases e : x < a
      · exact ev_t e (jf a (by unfold mx; split <;> omega))
      · exact ev_f e (jf x (by unfold mx; split <;> omega))
    · simp only [impl_WorkIn.l0]
      rw [← hx, ← hy, wr (x := (i : Int) + 1) (by omega), wr (x := mn b y - mx a x) (by unfold mx mn; split <;> split <;> omega), ← hw, wr (x := s + w) (by omega)]
      exact ev_t (by omega) (ev_t (by omega) (ev_t (by omega) v2))
theorem work_same (l : List S183) (a b : Int) (hl : l.length ≤ 1048576) : ∃ v, Ev (fun k => spec_WorkIn.f k l a b) v ∧ Ev (fun k => impl_WorkIn.f k l a b) v := by
  have s1 := spellsok1 l hl
  have s2 := spellsok2 l hl
  have e0 : Ev (fun k => impl_WorkIn.j0 k l a b true) 0 := Ev.step (fun _ => rfl) (by simp only [impl_WorkIn.j0]; exact Ev.now _)
  simp only [spec_WorkIn.f, impl_WorkIn.f, spec_l1Minute.f, impl_minuteOk.f, l1In_eq, in_eq, Option.bind_some]
  change Ev (fun k => spec_SpellsOk.f k l) (spellsB l) at s1
  change Ev (fun k => impl_SpellsOk.f k l) (spellsB l) at s2
  cases h1 : inB a 0 100000000 with
  | false =>
    refine ⟨0, Ev.bind s1 ?_, by simpa using e0⟩
    cases spellsB l <;> exact Ev.now _
  | true =>
  cases h2 : inB b 0 100000000 with
  | false =>
    refine ⟨0, Ev.bind s1 ?_, by simpa using e0⟩
    cases spellsB l <;> exact Ev.now _
  | true =>
  by_cases h3 : a > b
  · refine ⟨0, Ev.bind s1 ?_, ev_t rfl (ev_t rfl (ev_t h3 e0))⟩
    cases spellsB l
    · exact Ev.now _
    · exact ev_t rfl (ev_t rfl (ev_t rfl (ev_t h3 (Ev.now _))))
  cases h4 : spellsB l with
  | false =>
    rw [h4] at s1 s2
    exact ⟨0, Ev.bind s1 (ev_f (by simp) (Ev.now _)), ev_t rfl (ev_t rfl (ev_f h3 (Ev.bind s2 (by simpa using e0))))⟩
  | true =>
    rw [h4] at s1 s2
    obtain ⟨v, v1, v2⟩ := work_l0 l a b h4 (inB_t.1 h1) (inB_t.1 h2) 0 (Nat.zero_le _) 0 (by omega) (by omega)
    refine ⟨v, Ev.bind s1 (ev_t rfl (ev_t rfl (ev_t rfl (ev_f h3 (Ev.bind (by simp only [spec_l10Work.f]; exact v1) (Ev.now _)))))), ev_t rfl (ev_t rfl (ev_f h3 (Ev.bind s2 (Ev.step (fun _ => rfl) ?_))))⟩
    simp only [impl_WorkIn.j0]
    exact ev_f (by simp) v2
theorem P_WorkIn : ∀ (l : List S185) (a b : Int), l.length ≤ maxLen → ∃ k, laws_FnExactWorkIn.f k l a b = some true := by
  intro l a b hl
  refine Ev.rounds ?_
  unfold maxLen at hl
  simp only [laws_FnExactWorkIn.f, laws_szSpellS.f]
  rw [wr (by omega)]
  by_cases h : (l.length : Int) ≤ 1048576
  · rw [if_neg (by omega)]
    simp only [Option.bind_some]
    have ht := toSpellS_ev l (by omega)
    have h' : (l.map cSpell).length ≤ 1048576 := by simp; omega
    obtain ⟨v, v1, v2⟩ := work_same (l.map cSpell) a b h'
    exact ev_f (by omega) (Ev.bind ht (Ev.bind v1 (Ev.bind ht (Ev.bind v2 (ev_t rfl (Ev.bind ht (Ev.bind (eqSpellS_ev _ (by omega)) (ev_t rfl (Ev.now _)))))))))
  · rw [if_pos (by omega)]
    simp only [Option.bind_some]
    exact ev_t (by omega) (Ev.now _)
theorem FnExactWorkIn : laws_FnExactWorkIn.Pure := fun l a b h _ _ => P_WorkIn l a b h.1

end Go.Proofs.Ytlmohamgfindmaa.Pure
