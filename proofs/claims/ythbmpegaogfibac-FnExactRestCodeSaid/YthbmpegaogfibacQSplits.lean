/- Plain lemmas on the printed functions (Splits). -/
import Derived.Test.YthbmpegaogfibacPu0
import Derived.Test.YthbmpegaogfibacPAx0
import Derived.Test.YthbmpegaogfibacPAx4
import Derived.Test.YthbmpegaogfibacPAx9
import Derived.Test.YthbmpegaogfibacQBase
import Derived.Test.YthbmpegaogfibacQSpells
import Derived.Test.YthbmpegaogfibacQWorks
namespace Go.Proofs.Ythbmpegaogfibac.Pu
open Go.RowKit Go.Proofs.Ythbmpegaogfibac Go.Proofs.Ythbmpegaogfibac.PA Go.Proofs.Ythbmpegaogfibac.Pu Go.Proofs.YthbmpegaogfibacW.PrintWords Go.Proofs.YthbmpegaogfibacW.PrintLast Go.Proofs.YthbmpegaogfibacW.PrintMore
set_option linter.unusedVariables false
set_option linter.unusedSimpArgs false
/-- No minute of [a, a + 360) lies in a spell. -/
def freeAt (l : List S33) (a : Int) : Prop := ∀ s ∈ l, s.f1 ≤ a ∨ a + 360 ≤ s.f0
def splitP (frm to_ : Int) : List S33 → Int → Bool
  | [], free => decide (to_ - free ≥ 360)
  | s :: l, free => if s.f1 ≤ frm then splitP frm to_ l free else if s.f0 ≥ to_ then decide (to_ - free ≥ 360) else if s.f0 - free ≥ 360 then true else splitP frm to_ l s.f1
theorem split_iff (frm to_ : Int) : ∀ (l : List S33) (free : Int), Srt l → frm ≤ free → (∀ s ∈ l, s.f1 ≤ frm ∨ free ≤ s.f1) → (splitP frm to_ l free = true ↔ ∃ a, free ≤ a ∧ a + 360 ≤ to_ ∧ freeAt l a)
  | [], free, _, _, _ => by
    rw [splitP, decide_eq_true_iff]
    constructor
    · intro h; exact ⟨free, Int.le_refl _, by omega, fun s hs => by simp at hs⟩
    · rintro ⟨a, h1, h2, _⟩; omega
  | s :: l, free, h, hf, hI => by
    obtain ⟨h1, h2, h3, h4, h5⟩ := srt_tail h
    rw [splitP]
    by_cases c1 : s.f1 ≤ frm
    · rw [if_pos c1, split_iff frm to_ l free h1 hf fun t ht => hI t (List.mem_cons_of_mem _ ht)]
      constructor
      · rintro ⟨a, e1, e2, e3⟩
        refine ⟨a, e1, e2, fun t ht => ?_⟩
        rcases List.mem_cons.1 ht with rfl | ht
        · left; omega
        · exact e3 t ht
      · rintro ⟨a, e1, e2, e3⟩
        exact ⟨a, e1, e2, fun t ht => e3 t (List.mem_cons_of_mem _ ht)⟩
    rw [if_neg c1]
    by_cases c2 : s.f0 ≥ to_
    · rw [if_pos c2, decide_eq_true_iff]
      constructor
      · intro h6
        refine ⟨free, Int.le_refl _, by omega, fun t ht => ?_⟩
        rcases List.mem_cons.1 ht with rfl | ht
        · right; omega
        · have := h2 t ht; right; omega
      · rintro ⟨a, e1, e2, _⟩; omega
    rw [if_neg c2]
    by_cases c3 : s.f0 - free ≥ 360
    · rw [if_pos c3]
      refine ⟨fun _ => ⟨free, Int.le_refl _, by omega, fun t ht => ?_⟩, fun _ => rfl⟩
      rcases List.mem_cons.1 ht with rfl | ht
      · right; omega
      · have := h2 t ht; right; omega
    rw [if_neg c3, split_iff frm to_ l s.f1 h1 (by omega) fun t ht => .inr (by have := h2 t ht; have := (h1.2 t ht).2.1; omega)]
    have hfs : free ≤ s.f1 := (hI s List.mem_cons_self).resolve_left c1
    constructor
    · rintro ⟨a, e1, e2, e3⟩
      refine ⟨a, by omega, e2, fun t ht => ?_⟩
      rcases List.mem_cons.1 ht with rfl | ht
      · left; omega
      · exact e3 t ht
    · rintro ⟨a, e1, e2, e3⟩
      refine ⟨a, ?_, e2, fun t ht => e3 t (List.mem_cons_of_mem _ ht)⟩
      rcases e3 s List.mem_cons_self with h6 | h6
      · exact h6
      · omega
theorem split_ev (l : List S33) (hs : Srt l) (hl : l.length ≤ 100) (a b : Int) (ha : 0 ≤ a ∧ a ≤ 30000) (hb : 0 ≤ b ∧ b ≤ 30000) (hf : ∀ s ∈ l, s.f1 ≤ 30000) : Ev (fun k => spec_l10Split.f k l a b) (splitP a b l a) := by
  have key : ∀ i : Nat, i ≤ l.length → ∀ free : Int, 0 ≤ free → free ≤ 30000 → Ev (fun k => spec_l10Split.l0 k l a b free i) (splitP a b (l.drop i) free) := by
    refine down ?_ ?_
    · intro free f0 f1
      rw [List.drop_length, splitP]
      refine Ev.step (fun _ => rfl) ?_
      simp only [spec_l10Split.l0]
      rw [wr (x := b - free) (by omega)]
      exact ev_f (by omega) (Ev.now _)
    · intro i hi ih free f0 f1
      have hmem : l[i] ∈ l := List.getElem_mem _
      obtain ⟨p1, p2, _⟩ := hs.2 _ hmem
      have p3 := hf _ hmem
      have hx : rd_T33 l (i : Int) = l[i] := by simp [rd_T33, hi]
      rw [List.drop_eq_getElem_cons hi, splitP]
      refine Ev.step (fun _ => rfl) ?_
      simp only [spec_l10Split.l0]
      rw [hx, wr (x := (i : Int) + 1) (by omega), wr (x := b - free) (by omega), wr (x := l[i].f0 - free) (by omega)]
      refine ev_t (by omega) (ev_t (by omega) ?_)
      by_cases c1 : l[i].f1 ≤ a
      · rw [if_pos c1]; exact ev_t c1 (ih free f0 f1)
      rw [if_neg c1]
      refine ev_f c1 ?_
      by_cases c2 : l[i].f0 ≥ b
      · rw [if_pos c2]; exact ev_t c2 (Ev.now _)
      rw [if_neg c2]
      refine ev_f c2 ?_
      by_cases c3 : l[i].f0 - free ≥ 360
      · rw [if_pos c3]; exact ev_t c3 (Ev.now _)
      rw [if_neg c3]
      exact ev_f c3 (ih l[i].f1 (by omega) p3)
  simp only [spec_l10Split.f]
  exact key 0 (Nat.zero_le _) a ha.1 ha.2
theorem rests_eq (l : List S33) (hs : Srt l) (t : Int) (ht : 1440 ≤ t ∧ t ≤ 30000) : impl_RestCode.rests l t = splitP (t - 1440) t l (t - 1440) := by
  rw [Bool.eq_iff_iff, split_iff (t - 1440) t l (t - 1440) hs (Int.le_refl _) (fun s _ => by omega)]
  unfold impl_RestCode.rests
  rw [List.any_eq_true]
  simp only [List.mem_range, decide_eq_true_eq, ge_iff_le]
  have hA : ∀ x : Int, impl_RestCode.at_ l x = false ↔ ∀ s ∈ l, ¬ (s.f0 ≤ x ∧ x < s.f1) := fun x => by
    unfold impl_RestCode.at_
    rw [List.any_eq_false]
    simp only [impl_RestCode.cov, Bool.and_eq_true, decide_eq_true_eq]
  constructor
  · rintro ⟨d, hd, h⟩
    have h1 := (Fr_iff l ((t - 1080).toNat + d) (by omega) 360).1 h
    refine ⟨(((t - 1080).toNat + d - 360 : Nat) : Int), by omega, by omega, fun s hs2 => ?_⟩
    obtain ⟨p1, p2, _⟩ := hs.2 s hs2
    by_cases c1 : s.f1 ≤ (((t - 1080).toNat + d - 360 : Nat) : Int)
    · exact .inl c1
    · right
      by_cases c2 : (((t - 1080).toNat + d - 360 : Nat) : Int) + 360 ≤ s.f0
      · exact c2
      · exfalso
        by_cases c3 : s.f0 ≤ (((t - 1080).toNat + d - 360 : Nat) : Int)
        · have h2 := h1.2 ((t - 1080).toNat + d - 360) (by omega) (by omega)
          exact (hA _).1 h2 s hs2 ⟨c3, by omega⟩
        · have h2 := h1.2 s.f0.toNat (by omega) (by omega)
          rw [show ((s.f0.toNat : Nat) : Int) = s.f0 by omega] at h2
          exact (hA _).1 h2 s hs2 ⟨Int.le_refl _, p2⟩
  · rintro ⟨a, h1, h2, h3⟩
    refine ⟨(a + 360 - (t - 1080)).toNat, by omega, (Fr_iff l _ (by omega) 360).2 ⟨by omega, fun x hx1 hx2 => ?_⟩⟩
    rw [hA]
    rintro s hs2 ⟨e1, e2⟩
    rcases h3 s hs2 with h | h <;> omega

end Go.Proofs.Ythbmpegaogfibac.Pu
