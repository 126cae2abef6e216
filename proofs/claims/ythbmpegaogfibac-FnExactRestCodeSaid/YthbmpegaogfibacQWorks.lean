/- Plain lemmas on the printed functions (Works). -/
import Derived.Test.YthbmpegaogfibacPu0
import Derived.Test.YthbmpegaogfibacPAx0
import Derived.Test.YthbmpegaogfibacPAx3
import Derived.Test.YthbmpegaogfibacPAx9
import Derived.Test.YthbmpegaogfibacQBase
import Derived.Test.YthbmpegaogfibacQSpells
namespace Go.Proofs.Ythbmpegaogfibac.Pu
open Go.RowKit Go.Proofs.Ythbmpegaogfibac Go.Proofs.Ythbmpegaogfibac.PA Go.Proofs.Ythbmpegaogfibac.Pu Go.Proofs.YthbmpegaogfibacW.PrintWords Go.Proofs.YthbmpegaogfibacW.PrintLast Go.Proofs.YthbmpegaogfibacW.PrintMore
set_option linter.unusedVariables false
set_option linter.unusedSimpArgs false
/-- The spells are in order, and none overlaps another one. -/
def Srt (l : List S33) : Prop := l.Pairwise (fun s t => s.f1 ≤ t.f0) ∧ ∀ s ∈ l, 0 ≤ s.f0 ∧ s.f0 < s.f1 ∧ s.f1 ≤ 100000000
theorem srt_of {l : List S33} (h : spellsB l = true) : Srt l ∧ l.length ≤ 100 := by
  obtain ⟨h1, h2⟩ := spellsB_t h
  have hrd : ∀ i : Nat, (hi : i < l.length) → rd_T33 l (i : Int) = l[i] := fun i hi => by simp [rd_T33, hi]
  refine ⟨⟨?_, fun s hs => ?_⟩, h1⟩
  · rw [List.pairwise_iff_getElem]
    intro i j hi hj hij
    obtain ⟨d, rfl⟩ : ∃ d, j = i + 1 + d := ⟨j - i - 1, by omega⟩
    clear hij
    induction d with
    | zero =>
      have h3 := (h2 (i + 1) hj).2.2.2 (by omega)
      rw [show (((i + 1 : Nat) : Int) - 1) = (i : Int) by omega, hrd i hi, hrd (i + 1) hj] at h3
      exact h3
    | succ d ih =>
      have hj' : i + 1 + d < l.length := by omega
      have h3 := ih hj'
      have h4 := (h2 (i + 1 + d + 1) hj).2.2.2 (by omega)
      have h5 := (h2 (i + 1 + d) hj').2.1
      rw [show (((i + 1 + d + 1 : Nat) : Int) - 1) = ((i + 1 + d : Nat) : Int) by omega, hrd (i + 1 + d) hj', hrd (i + 1 + d + 1) hj] at h4
      rw [hrd (i + 1 + d) hj'] at h5
      show l[i].f1 ≤ l[i + 1 + d + 1].f0
      omega
  · obtain ⟨i, hi, rfl⟩ := List.getElem_of_mem hs
    have h3 := h2 i hi
    rw [hrd i hi] at h3
    exact ⟨h3.1, h3.2.1, h3.2.2.1⟩
theorem srt_tail {s : S33} {l : List S33} (h : Srt (s :: l)) : Srt l ∧ (∀ t ∈ l, s.f1 ≤ t.f0) ∧ 0 ≤ s.f0 ∧ s.f0 < s.f1 ∧ s.f1 ≤ 100000000 :=
  ⟨⟨(List.pairwise_cons.1 h.1).2, fun t ht => h.2 t (List.mem_cons_of_mem _ ht)⟩, (List.pairwise_cons.1 h.1).1, h.2 s List.mem_cons_self⟩
/-- The minutes of s ahead of m. -/
def cntS (s : S33) (m : Int) : Int := if m ≤ s.f0 then 0 else if m ≤ s.f1 then m - s.f0 else s.f1 - s.f0
def sumC (l : List S33) (m : Int) : Int := (l.map fun s => cntS s m).sum
theorem cnt_next (s : S33) (h : s.f0 < s.f1) (m : Int) : cntS s (m + 1) = cntS s m + if impl_RestCode.cov s m = true then 1 else 0 := by
  unfold cntS impl_RestCode.cov
  simp only [Bool.and_eq_true, decide_eq_true_eq]
  (repeat' split) <;> omega
theorem sum_next : ∀ (l : List S33), Srt l → ∀ m : Int, sumC l (m + 1) = sumC l m + if impl_RestCode.at_ l m = true then 1 else 0
  | [], _, m => by simp [sumC, impl_RestCode.at_]
  | s :: l, h, m => by
    obtain ⟨h1, h2, h3, h4, h5⟩ := srt_tail h
    have ih := sum_next l h1 m
    have hc := cnt_next s h4 m
    have hs : ∀ n, sumC (s :: l) n = cntS s n + sumC l n := fun n => by simp [sumC]
    rw [hs, hs, ih, hc]
    have ha : impl_RestCode.at_ (s :: l) m = (impl_RestCode.cov s m || impl_RestCode.at_ l m) := by simp [impl_RestCode.at_]
    rw [ha]
    cases c : impl_RestCode.cov s m with
    | false => simp only [Bool.false_or, Bool.false_eq_true, if_false]; omega
    | true =>
      have hno : impl_RestCode.at_ l m = false := by
        unfold impl_RestCode.at_
        rw [List.any_eq_false]
        intro t ht ht2
        have h6 := h2 t ht
        simp only [impl_RestCode.cov, Bool.and_eq_true, decide_eq_true_eq] at c ht2
        omega
      rw [hno]
      simp only [Bool.true_or, if_true, Bool.false_eq_true, if_false]
      omega
theorem sum_zero : ∀ (l : List S33), Srt l → sumC l 0 = 0
  | [], _ => rfl
  | s :: l, h => by
    obtain ⟨h1, h2, h3, h4, h5⟩ := srt_tail h
    have ih := sum_zero l h1
    have hs : sumC (s :: l) 0 = cntS s 0 + sumC l 0 := by simp [sumC]
    rw [hs, ih, cntS, if_pos h3]
    rfl
theorem W_eq (l : List S33) (h : Srt l) : ∀ m : Nat, m ≤ 30000 → impl_RestCode.W l m = sumC l (m : Int) ∧ 0 ≤ impl_RestCode.W l m ∧ impl_RestCode.W l m ≤ m
  | 0, _ => ⟨(sum_zero l h).symm, Int.le_refl _, Int.le_refl _⟩
  | m + 1, hm => by
    obtain ⟨i1, i2, i3⟩ := W_eq l h m (by omega)
    have hn := sum_next l h (m : Int)
    rw [show ((m + 1 : Nat) : Int) = (m : Int) + 1 by omega, hn, ← i1, show impl_RestCode.W l (m + 1) = if impl_RestCode.at_ l (m : Int) = true then wrap64 (impl_RestCode.W l m + 1) else impl_RestCode.W l m from rfl]
    by_cases c : impl_RestCode.at_ l (m : Int) = true
    · rw [if_pos c, if_pos c, wr (by omega)]; exact ⟨rfl, by omega, by omega⟩
    · rw [if_neg c, if_neg c]; exact ⟨by omega, by omega, by omega⟩
theorem Fr_bd (l : List S33) : ∀ m : Nat, m ≤ 30000 → 0 ≤ impl_RestCode.Fr l m ∧ impl_RestCode.Fr l m ≤ m
  | 0, _ => ⟨Int.le_refl _, Int.le_refl _⟩
  | m + 1, hm => by
    obtain ⟨i1, i2⟩ := Fr_bd l m (by omega)
    unfold impl_RestCode.Fr
    by_cases c : impl_RestCode.at_ l (m : Int) = true
    · rw [if_pos c]; omega
    · rw [if_neg c, wr (by omega)]; omega
theorem Fr_iff (l : List S33) : ∀ (m : Nat), m ≤ 30000 → ∀ c : Nat, (c : Int) ≤ impl_RestCode.Fr l m ↔ c ≤ m ∧ ∀ x : Nat, m ≤ x + c → x < m → impl_RestCode.at_ l (x : Int) = false
  | 0, _, c => by
    show (c : Int) ≤ 0 ↔ _
    constructor
    · intro h; exact ⟨by omega, fun x _ hx => by omega⟩
    · rintro ⟨h, _⟩; omega
  | m + 1, hm, c => by
    have ih := Fr_iff l m (by omega)
    have hb := Fr_bd l m (by omega)
    unfold impl_RestCode.Fr
    by_cases a : impl_RestCode.at_ l (m : Int) = true
    · rw [if_pos a]
      constructor
      · intro h; exact ⟨by omega, fun x h1 h2 => by omega⟩
      · rintro ⟨_, h⟩
        by_cases c0 : c = 0
        · omega
        · have h1 := h m (by omega) (by omega)
          rw [a] at h1; cases h1
    · rw [if_neg a, wr (by omega)]
      by_cases c0 : c = 0
      · subst c0
        constructor
        · intro _; exact ⟨by omega, fun x h1 h2 => by omega⟩
        · intro _; omega
      · obtain ⟨c', rfl⟩ : ∃ c', c = c' + 1 := ⟨c - 1, by omega⟩
        have hi := ih c'
        constructor
        · intro h
          obtain ⟨h1, h2⟩ := hi.1 (by omega)
          refine ⟨by omega, fun x h3 h4 => ?_⟩
          by_cases e : x = m
          · subst e; simpa using a
          · exact h2 x (by omega) (by omega)
        · rintro ⟨h1, h2⟩
          have := hi.2 ⟨by omega, fun x h3 h4 => h2 x (by omega) (by omega)⟩
          omega
theorem work_ev (l : List S33) (hs : Srt l) (hl : l.length ≤ 100) (a b : Int) (ha : 0 ≤ a) (hab : a ≤ b) (hb : b ≤ 30000) (hf : ∀ s ∈ l, s.f1 ≤ 30000) : Ev (fun k => spec_l10Work.f k l a b) (sumC l b - sumC l a) := by
  have key : ∀ i : Nat, i ≤ l.length → ∀ s : Int, 0 ≤ s → s ≤ i * 30000 → Ev (fun k => spec_l10Work.l0 k l a b s i) (s + (sumC (l.drop i) b - sumC (l.drop i) a)) := by
    refine down ?_ ?_
    · intro s _ _
      refine Ev.step (fun _ => rfl) ?_
      simp only [spec_l10Work.l0]
      refine ev_f (by omega) ?_
      simpa [sumC] using Ev.now s
    · intro i hi ih s h0 h1
      have hmem : l[i] ∈ l := List.getElem_mem _
      obtain ⟨p1, p2, _⟩ := hs.2 _ hmem
      have p3 := hf _ hmem
      have hx : rd_T33 l (i : Int) = l[i] := by simp [rd_T33, hi]
      have hd : ∀ n, sumC (l.drop i) n = cntS l[i] n + sumC (l.drop (i + 1)) n := fun n => by rw [List.drop_eq_getElem_cons hi]; simp only [sumC, List.map_cons, List.sum_cons]
      rw [hd, hd]
      generalize sumC (l.drop (i + 1)) b = sb at ih ⊢
      generalize sumC (l.drop (i + 1)) a = sa at ih ⊢
      generalize l[i] = y at hx p1 p2 p3
      have fin : ∀ w : Int, w = cntS y b - cntS y a → 0 ≤ w → w ≤ 30000 → Ev (fun k => spec_l10Work.l0 k l a b (s + w) ((i : Int) + 1)) (s + (cntS y b + sb - (cntS y a + sa))) := fun w hw w0 w1 => by
        have h2 := ih (s + w) (by omega) (by omega)
        rw [show s + (cntS y b + sb - (cntS y a + sa)) = s + w + (sb - sa) by omega]
        exact h2
      have jf : ∀ c : Int, c = (if y.f0 < a then a else y.f0) → Ev (fun k => spec_l10Work.j1 k l a b s i c y.f1) (s + (cntS y b + sb - (cntS y a + sa))) := by
        intro c hc
        refine Ev.step (fun _ => rfl) ?_
        simp only [spec_l10Work.j1]
        rw [wr (x := (i : Int) + 1) (by omega)]
        by_cases e1 : y.f1 > b
        · refine ev_t e1 ?_
          by_cases e2 : c < b
          · refine ev_t e2 ?_
            rw [wr (x := s + b) (by omega), wr (x := s + b - c) (by split at hc <;> omega), show s + b - c = s + (b - c) by omega]
            refine fin _ ?_ (by omega) (by split at hc <;> omega)
            unfold cntS
            split at hc
            · rw [if_neg (by omega), if_pos (by omega), if_neg (by omega), if_pos (by omega)]; omega
            · rw [if_neg (by omega), if_pos (by omega), if_pos (by omega)]; omega
          · refine ev_f e2 ?_
            have := fin 0 ?_ (Int.le_refl _) (by omega)
            · simpa using this
            · unfold cntS
              split at hc
              · have : a = b := by omega
                rw [this]; omega
              · rw [if_pos (by omega), if_pos (by omega)]; rfl
        · refine ev_f e1 ?_
          by_cases e2 : c < y.f1
          · refine ev_t e2 ?_
            rw [wr (x := s + y.f1) (by omega), wr (x := s + y.f1 - c) (by split at hc <;> omega), show s + y.f1 - c = s + (y.f1 - c) by omega]
            refine fin _ ?_ (by omega) (by split at hc <;> omega)
            unfold cntS
            split at hc
            · by_cases e3 : b ≤ y.f1
              · rw [if_neg (by omega), if_pos e3, if_neg (by omega), if_pos (by omega)]; omega
              · rw [if_neg (by omega), if_neg e3, if_neg (by omega), if_pos (by omega)]; omega
            · by_cases e3 : b ≤ y.f1
              · rw [if_neg (by omega), if_pos e3, if_pos (by omega)]; omega
              · rw [if_neg (by omega), if_neg e3, if_pos (by omega)]; omega
          · refine ev_f e2 ?_
            have := fin 0 ?_ (Int.le_refl _) (by omega)
            · simpa using this
            · unfold cntS
              split at hc
              · by_cases e3 : b ≤ y.f1
                · have : a = b := by omega
                  rw [this]; omega
                · rw [if_neg (by omega), if_neg e3, if_neg (by omega)]
                  by_cases e4 : a ≤ y.f1
                  · rw [if_pos e4]; omega
                  · rw [if_neg e4]; omega
              · omega
      refine Ev.step (fun _ => rfl) ?_
      simp only [spec_l10Work.l0]
      rw [hx]
      refine ev_t (by omega) (ev_t (by omega) ?_)
      by_cases e : y.f0 < a
      · exact ev_t e (jf a (by rw [if_pos e]))
      · exact ev_f e (jf y.f0 (by rw [if_neg e]))
  have h0 := key 0 (Nat.zero_le _) 0 (Int.le_refl _) (by omega)
  simp only [spec_l10Work.f]
  simpa using h0

end Go.Proofs.Ythbmpegaogfibac.Pu
