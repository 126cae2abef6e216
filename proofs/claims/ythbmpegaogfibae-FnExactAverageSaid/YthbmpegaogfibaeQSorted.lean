/- Plain lemmas on the printed functions (Sorted). -/
import Derived.Test.YthbmpegaogfibaePu0
import Derived.Test.YthbmpegaogfibaePAx4
import Derived.Test.YthbmpegaogfibaeQBase
import Derived.Test.YthbmpegaogfibaeQSort
namespace Go.Proofs.Ythbmpegaogfibae.Pu
open Go.RowKit Go.Proofs.Ythbmpegaogfibae Go.Proofs.Ythbmpegaogfibae.PA Go.Proofs.Ythbmpegaogfibae.Pu Go.Proofs.YthbmpegaogfibaeW.PrintWords Go.Proofs.YthbmpegaogfibaeW.PrintLast Go.Proofs.YthbmpegaogfibaeW.PrintMore
set_option linter.unusedVariables false
set_option linter.unusedSimpArgs false
open impl_Average (sw insI insO swR rot bs upS dnS symR symM stA stB stC lastM stabM)
section
variable (cf : Int → Int → Int) (R : Int → Int → Prop)
/-- x stands ahead of y: what the compare says of them is right. -/
def Cp (x y : Int) : Prop := (cf y x < 0 → R y x) ∧ (¬ cf y x < 0 → R x y)
def Srt (a b : Nat) (g : Nat → Int) : Prop := ∀ s t, a ≤ s → s < t → t < b → R (g s) (g t)
variable {cf R}
theorem Srt.of_out {a b c d : Nat} {g g' : Nat → Int} (h : Srt R a b g) (k : Sh c d g g') (hd : b ≤ c ∨ d ≤ a) : Srt R a b g' := fun s t h1 h2 h3 => by
  rw [k.out s (by omega), k.out t (by omega)]
  exact h s t h1 h2 h3
/-- Two sorted parts of which the one is ahead of the other. -/
theorem Srt.join {a m b : Nat} {g : Nat → Int} (h1 : Srt R a m g) (h2 : Srt R m b g) (h : ∀ s t, a ≤ s → s < m → m ≤ t → t < b → R (g s) (g t)) : Srt R a b g := fun s t k1 k2 k3 => by
  by_cases c1 : t < m
  · exact h1 s t k1 k2 c1
  · by_cases c2 : s < m
    · exact h s t k1 c2 (by omega) k3
    · exact h2 s t (by omega) k2 k3
theorem insI_ok (htr : ∀ x y z, R x y → R y z → R x z) (a e : Nat) : ∀ (j : Nat) (g : Nat → Int), a ≤ j → j ≤ e → Srt R a j g → Srt R (j + 1) (e + 1) g → (∀ t, j < t → t ≤ e → R (g j) (g t)) → (∀ s t, a ≤ s → s < j → j < t → t ≤ e → R (g s) (g t)) → (∀ s, a ≤ s → s < j → Cp cf R (g s) (g j)) → Srt R a (e + 1) (insI cf a j g) ∧ Sh a (e + 1) g (insI cf a j g)
  | 0, g, h1, h2, h3, h4, h5, h6, h7 => by
    rw [insI]
    refine ⟨fun s t k1 k2 k3 => ?_, Sh.refl _ _ _⟩
    by_cases c : s = 0
    · subst c; exact h5 t k2 (by omega)
    · exact h4 s t (by omega) k2 k3
  | j + 1, g, h1, h2, h3, h4, h5, h6, h7 => by
    rw [insI]
    have stop : (∀ s, a ≤ s → s < j + 1 → R (g s) (g (j + 1))) → Srt R a (e + 1) g := fun hs s t k1 k2 k3 => by
      by_cases c1 : t < j + 1
      · exact h3 s t k1 k2 c1
      · by_cases c2 : s < j + 1
        · by_cases c3 : t = j + 1
          · rw [c3]; exact hs s k1 c2
          · exact h6 s t k1 c2 (by omega) (by omega)
        · by_cases c4 : s = j + 1
          · rw [c4]; exact h5 t (by omega) (by omega)
          · exact h4 s t (by omega) k2 k3
    by_cases c : a < j + 1
    · by_cases d : cf (g (j + 1)) (g j) < 0
      · rw [if_pos ⟨c, d⟩]
        have hx : R (g (j + 1)) (g j) := (h7 j (by omega) (by omega)).1 d
        have e1 : sw g (j + 1) j j = g (j + 1) := by unfold impl_Average.sw; rw [if_pos rfl]
        have e2 : sw g (j + 1) j (j + 1) = g j := by unfold impl_Average.sw; rw [if_neg (by omega), if_pos rfl]
        have e3 : ∀ t, t ≠ j → t ≠ j + 1 → sw g (j + 1) j t = g t := fun t k1 k2 => by unfold impl_Average.sw; rw [if_neg k1, if_neg k2]
        have ih := insI_ok htr a e j (sw g (j + 1) j) (by omega) (by omega)
          (fun s t k1 k2 k3 => by rw [e3 s (by omega) (by omega), e3 t (by omega) (by omega)]; exact h3 s t k1 k2 (by omega))
          (fun s t k1 k2 k3 => by
            rw [e3 t (by omega) (by omega)]
            by_cases c3 : s = j + 1
            · rw [c3, e2]; exact h6 j t (by omega) (by omega) (by omega) (by omega)
            · rw [e3 s (by omega) c3]; exact h4 s t (by omega) k2 k3)
          (fun t k1 k2 => by
            rw [e1]
            by_cases c3 : t = j + 1
            · rw [c3, e2]; exact hx
            · rw [e3 t (by omega) c3]; exact h5 t (by omega) k2)
          (fun s t k1 k2 k3 k4 => by
            rw [e3 s (by omega) (by omega)]
            by_cases c3 : t = j + 1
            · rw [c3, e2]; exact h3 s j k1 k2 (by omega)
            · rw [e3 t (by omega) c3]; exact h6 s t k1 (by omega) (by omega) k4)
          (fun s k1 k2 => by rw [e1, e3 s (by omega) (by omega)]; exact h7 s k1 (by omega))
        exact ⟨ih.1, (Sh.sw g (j + 1) j (by omega) (by omega) (by omega) (by omega)).trans ih.2⟩
      · rw [if_neg (fun h => d h.2)]
        refine ⟨stop fun s k1 k2 => ?_, Sh.refl _ _ _⟩
        have hj := (h7 j (by omega) (by omega)).2 d
        by_cases c3 : s = j
        · rw [c3]; exact hj
        · exact htr _ _ _ (h3 s j k1 (by omega) (by omega)) hj
    · rw [if_neg (fun h => c h.1)]
      exact ⟨stop fun s k1 k2 => by omega, Sh.refl _ _ _⟩
theorem insO_ok (htr : ∀ x y z, R x y → R y z → R x z) (a b : Nat) : ∀ (c i : Nat) (g : Nat → Int), a ≤ i → i + c = b ∨ c = 0 → i ≤ b → Srt R a i g → (∀ s t, a ≤ s → s < t → i ≤ t → t < b → Cp cf R (g s) (g t)) → Srt R a (i + c) (insO cf a c i g) ∧ Sh a b g (insO cf a c i g)
  | 0, i, g, h1, h2, h3, h4, h5 => ⟨h4, Sh.refl _ _ _⟩
  | c + 1, i, g, h1, h2, h3, h4, h5 => by
    rw [insO]
    obtain ⟨k1, k2⟩ := insI_ok htr a i i g h1 (Nat.le_refl _) h4 (fun s t _ _ _ => by omega) (fun t _ _ => by omega) (fun s t _ _ _ _ => by omega) (fun s s1 s2 => h5 s i s1 s2 (Nat.le_refl _) (by omega))
    obtain ⟨m1, m2⟩ := insO_ok htr a b c (i + 1) _ (by omega) (by omega) (by omega) k1 (fun s t s1 s2 s3 s4 => by
      rw [k2.out t (by omega)]
      by_cases d : s < i + 1
      · obtain ⟨u, u1, u2, u3⟩ := k2.sub s s1 d
        rw [u3]
        exact h5 u t u1 (by omega) (by omega) s4
      · rw [k2.out s (by omega)]
        exact h5 s t s1 s2 (by omega) s4)
    rw [show i + (c + 1) = i + 1 + c by omega]
    exact ⟨m1, (k2.wide (Nat.le_refl _) (by omega)).trans m2⟩
theorem sym1_ok (htr : ∀ x y z, R x y → R y z → R x z) (a m b : Nat) (g : Nat → Int) (h1 : m = a + 1) (h2 : m < b) (hs : Srt R m b g) (hc : ∀ t, m ≤ t → t < b → Cp cf R (g a) (g t)) (s : Nat) (s1 : m ≤ s) (s2 : s ≤ b) (s3 : s < b → ¬ cf (g s) (g a) < 0) (s4 : m < s → cf (g (s - 1)) (g a) < 0) : Srt R a b (upS (s - 1 - a) a g) ∧ Sh a b g (upS (s - 1 - a) a g) := by
  refine ⟨fun u t k1 k2 k3 => ?_, upS_sh a b _ _ g (Nat.le_refl _) (by omega)⟩
  rw [upS_at, upS_at, if_neg (show ¬ u < a by omega), if_neg (show ¬ t < a by omega), show a + (s - 1 - a) = s - 1 by omega]
  have lo : ∀ u, m ≤ u → u ≤ s - 1 → R (g u) (g a) := fun u u1 u2 => by
    have h5 := (hc (s - 1) (by omega) (by omega)).1 (s4 (by omega))
    by_cases c : u = s - 1
    · rw [c]; exact h5
    · exact htr _ _ _ (hs u (s - 1) u1 (by omega) (by omega)) h5
  have hi : ∀ t, s ≤ t → t < b → R (g a) (g t) := fun t t1 t2 => by
    have h5 := (hc s (by omega) (by omega)).2 (s3 (by omega))
    by_cases c : t = s
    · rw [c]; exact h5
    · exact htr _ _ _ h5 (hs s t (by omega) (by omega) t2)
  by_cases c1 : u < s - 1
  · rw [if_pos c1]
    by_cases c2 : t < s - 1
    · rw [if_pos c2]; exact hs _ _ (by omega) (by omega) (by omega)
    · rw [if_neg c2]
      by_cases c3 : t = s - 1
      · rw [if_pos c3]; exact lo _ (by omega) (by omega)
      · rw [if_neg c3]; exact hs _ _ (by omega) (by omega) k3
  · rw [if_neg c1, if_neg (show ¬ t < s - 1 by omega), if_neg (show ¬ t = s - 1 by omega)]
    by_cases c3 : u = s - 1
    · rw [if_pos c3]; exact hi t (by omega) k3
    · rw [if_neg c3]; exact hs _ _ (by omega) k2 k3
theorem sym2_ok (htr : ∀ x y z, R x y → R y z → R x z) (a m b : Nat) (g : Nat → Int) (h1 : b = m + 1) (h2 : a < m) (hs : Srt R a m g) (hc : ∀ t, a ≤ t → t < m → Cp cf R (g t) (g m)) (s : Nat) (s1 : a ≤ s) (s2 : s ≤ m) (s3 : s < m → cf (g m) (g s) < 0) (s4 : a < s → ¬ cf (g m) (g (s - 1)) < 0) : Srt R a b (dnS (m - s) m g) ∧ Sh a b g (dnS (m - s) m g) := by
  refine ⟨fun u t k1 k2 k3 => ?_, dnS_sh a b _ _ g (by omega) (by omega)⟩
  rw [dnS_at _ _ _ _ (by omega), dnS_at _ _ _ _ (by omega), show m - (m - s) = s by omega, if_pos (show u ≤ m by omega), if_pos (show t ≤ m by omega)]
  have lo : ∀ u, a ≤ u → u < s → R (g u) (g m) := fun u u1 u2 => by
    have h5 := (hc (s - 1) (by omega) (by omega)).2 (s4 (by omega))
    by_cases c : u = s - 1
    · rw [c]; exact h5
    · exact htr _ _ _ (hs u (s - 1) u1 (by omega) (by omega)) h5
  have hi : ∀ t, s ≤ t → t < m → R (g m) (g t) := fun t t1 t2 => by
    have h5 := (hc s (by omega) (by omega)).1 (s3 (by omega))
    by_cases c : t = s
    · rw [c]; exact h5
    · exact htr _ _ _ h5 (hs s t (by omega) (by omega) t2)
  by_cases c1 : u < s
  · rw [if_pos c1]
    by_cases c2 : t < s
    · rw [if_pos c2]; exact hs _ _ k1 k2 (by omega)
    · rw [if_neg c2]
      by_cases c3 : t = s
      · rw [if_pos c3]; exact lo _ k1 c1
      · rw [if_neg c3]; exact hs _ _ k1 (by omega) (by omega)
  · rw [if_neg c1, if_neg (show ¬ t < s by omega), if_neg (show ¬ t = s by omega)]
    by_cases c3 : u = s
    · rw [if_pos c3]; exact hi _ (by omega) (by omega)
    · rw [if_neg c3]; exact hs _ _ (by omega) (by omega) (by omega)
/-- The merge of two sorted parts, the search's place known. -/
theorem symR_ok (htr : ∀ x y z, R x y → R y z → R x z) (rec : Nat → Nat → Nat → (Nat → Int) → Nat → Int) (a m b mid s e : Nat) (g : Nat → Int) (ham : a < m) (hmb : m < b) (hmid : mid = (a + b) / 2)
    (hrec : ∀ (x y z : Nat) (g : Nat → Int), x < y → y < z → z - x < b - a → Srt R x y g → Srt R y z g → (∀ s t, x ≤ s → s < y → y ≤ t → t < z → Cp cf R (g s) (g t)) → Srt R x z (rec x y z g) ∧ Sh x z g (rec x y z g))
    (s1 : a ≤ s) (s2 : s ≤ m) (s3 : s ≤ mid) (he : e = mid + m - s) (e1 : e ≤ b) (p1 : a < s → e < b → R (g (s - 1)) (g e)) (p2 : s < m → m < e → R (g (e - 1)) (g s))
    (hL : Srt R a m g) (hR : Srt R m b g) (hC : ∀ s t, a ≤ s → s < m → m ≤ t → t < b → Cp cf R (g s) (g t)) : Srt R a b (symR rec a m b mid s g) ∧ Sh a b g (symR rec a m b mid s g) := by
  obtain ⟨g1, hg1⟩ : ∃ g1, g1 = if s < m ∧ m < e then rot m (e - s) (m - s) (e - m) g else g := ⟨_, rfl⟩
  obtain ⟨g2, hg2⟩ : ∃ g2, g2 = if a < s ∧ s < mid then rec a s mid g1 else g1 := ⟨_, rfl⟩
  obtain ⟨g3, hg3⟩ : ∃ g3, g3 = if mid < e ∧ e < b then rec mid e b g2 else g2 := ⟨_, rfl⟩
  rw [impl_Average.symR_of rec a m b mid s g g1 g2 g3 e he hg1 hg2 hg3]
  have sh1 : Sh a b g g1 := by
    rw [hg1]
    by_cases c : s < m ∧ m < e
    · rw [if_pos c]; exact rot_sh a b m _ _ _ g (by omega) (by omega)
    · rw [if_neg c]; exact Sh.refl _ _ _
  have v : ∀ t, a ≤ t → t < b → g1 t = if t < s then g t else if t < mid then g (t + (m - s)) else if t < e then g (t - (e - m)) else g t := fun t t1 t2 => by
    rw [hg1]
    by_cases c : s < m ∧ m < e
    · rw [if_pos c, rot_at m _ _ _ g t (by omega) (by omega) (by omega) (by omega)]
      by_cases c1 : t < s
      · rw [if_neg (by omega), if_neg (by omega), if_pos c1]
      · rw [if_neg c1]
        by_cases c2 : t < mid
        · rw [if_pos (by omega), if_pos c2]
        · rw [if_neg (by omega), if_neg c2]
          by_cases c3 : t < e
          · rw [if_pos (by omega), if_pos c3]
          · rw [if_neg (by omega), if_neg c3]
    · rw [if_neg c]
      by_cases c1 : t < s
      · rw [if_pos c1]
      · rw [if_neg c1]
        by_cases c2 : t < mid
        · rw [if_pos c2]; congr 1; omega
        · rw [if_neg c2]
          by_cases c3 : t < e
          · rw [if_pos c3]; congr 1; omega
          · rw [if_neg c3]
  have vA1 : ∀ t, a ≤ t → t < s → g1 t = g t := fun t t1 t2 => by rw [v t t1 (by omega), if_pos t2]
  have vB1 : ∀ t, s ≤ t → t < mid → g1 t = g (t + (m - s)) := fun t t1 t2 => by rw [v t (by omega) (by omega), if_neg (by omega), if_pos t2]
  have vA2 : ∀ t, mid ≤ t → t < e → g1 t = g (t - (e - m)) := fun t t1 t2 => by rw [v t (by omega) (by omega), if_neg (by omega), if_neg (by omega), if_pos t2]
  have vB2 : ∀ t, e ≤ t → t < b → g1 t = g t := fun t t1 t2 => by rw [v t (by omega) t2, if_neg (by omega), if_neg (by omega), if_neg (by omega)]
  have cross : ∀ u t, a ≤ u → u < mid → mid ≤ t → t < b → R (g1 u) (g1 t) := fun u t u1 u2 t1 t2 => by
    by_cases c1 : u < s
    · rw [vA1 u u1 c1]
      by_cases c2 : t < e
      · rw [vA2 t t1 c2]; exact hL _ _ u1 (by omega) (by omega)
      · rw [vB2 t (by omega) t2]
        have h5 := p1 (by omega) (by omega)
        have h6 : R (g u) (g e) := by
          by_cases d : u = s - 1
          · rw [d]; exact h5
          · exact htr _ _ _ (hL u (s - 1) u1 (by omega) (by omega)) h5
        by_cases d : t = e
        · rw [d]; exact h6
        · exact htr _ _ _ h6 (hR e t (by omega) (by omega) t2)
    · rw [vB1 u (by omega) u2]
      by_cases c2 : t < e
      · rw [vA2 t t1 c2]
        have h5 := p2 (by omega) (by omega)
        have h6 : R (g (u + (m - s))) (g s) := by
          by_cases d : u + (m - s) = e - 1
          · rw [d]; exact h5
          · exact htr _ _ _ (hR (u + (m - s)) (e - 1) (by omega) (by omega) (by omega)) h5
        by_cases d : t - (e - m) = s
        · rw [d]; exact h6
        · exact htr _ _ _ h6 (hL s (t - (e - m)) (by omega) (by omega) (by omega))
      · rw [vB2 t (by omega) t2]; exact hR _ _ (by omega) (by omega) t2
  have l1 : Srt R a s g1 := fun u t u1 u2 u3 => by rw [vA1 u u1 (by omega), vA1 t (by omega) u3]; exact hL u t u1 u2 (by omega)
  have l2 : Srt R s mid g1 := fun u t u1 u2 u3 => by rw [vB1 u u1 (by omega), vB1 t (by omega) u3]; exact hR _ _ (by omega) (by omega) (by omega)
  have l3 : Srt R mid e g1 := fun u t u1 u2 u3 => by rw [vA2 u u1 (by omega), vA2 t (by omega) u3]; exact hL _ _ (by omega) (by omega) (by omega)
  have l4 : Srt R e b g1 := fun u t u1 u2 u3 => by rw [vB2 u u1 (by omega), vB2 t (by omega) u3]; exact hR u t (by omega) u2 u3
  have k2 : Srt R a mid g2 ∧ Sh a mid g1 g2 := by
    rw [hg2]
    by_cases c : a < s ∧ s < mid
    · rw [if_pos c]
      exact hrec a s mid g1 c.1 c.2 (by omega) l1 l2 fun u t u1 u2 t1 t2 => by rw [vA1 u u1 u2, vB1 t t1 t2]; exact hC _ _ u1 (by omega) (by omega) (by omega)
    · rw [if_neg c]
      refine ⟨fun u t u1 u2 u3 => ?_, Sh.refl _ _ _⟩
      by_cases d : a < s
      · exact l1 u t u1 u2 (by omega)
      · exact l2 u t (by omega) u2 u3
  have k3 : Srt R mid b g3 ∧ Sh mid b g2 g3 := by
    rw [hg3]
    have o := fun t (ht : mid ≤ t) => k2.2.out t (.inr ht)
    by_cases c : mid < e ∧ e < b
    · rw [if_pos c]
      exact hrec mid e b g2 c.1 c.2 (by omega) (l3.of_out k2.2 (.inr (Nat.le_refl _))) (l4.of_out k2.2 (.inr (by omega))) fun u t u1 u2 t1 t2 => by rw [o u u1, o t (by omega), vA2 u u1 u2, vB2 t t1 t2]; exact hC _ _ (by omega) (by omega) (by omega) t2
    · rw [if_neg c]
      refine ⟨fun u t u1 u2 u3 => ?_, Sh.refl _ _ _⟩
      rw [o u u1, o t (by omega)]
      by_cases d : mid < e
      · exact l3 u t u1 u2 (by omega)
      · exact l4 u t (by omega) u2 u3
  refine ⟨Srt.join (m := mid) (k2.1.of_out k3.2 (.inl (Nat.le_refl _))) k3.1 fun u t u1 u2 t1 t2 => ?_, (sh1.trans (k2.2.wide (Nat.le_refl _) (by omega))).trans (k3.2.wide (by omega) (Nat.le_refl _))⟩
  rw [k3.2.out u (.inl u2)]
  obtain ⟨u', a1, a2, a3⟩ := k2.2.sub u u1 u2
  obtain ⟨t', b1, b2, b3⟩ := k3.2.sub t t1 t2
  rw [a3, b3, k2.2.out t' (.inr b1)]
  exact cross u' t' a1 a2 b1 b2
theorem symM_ok (htr : ∀ x y z, R x y → R y z → R x z) : ∀ (K a m b : Nat) (g : Nat → Int), a < m → m < b → b - a ≤ K → Srt R a m g → Srt R m b g → (∀ s t, a ≤ s → s < m → m ≤ t → t < b → Cp cf R (g s) (g t)) → Srt R a b (symM cf K a m b g) ∧ Sh a b g (symM cf K a m b g)
  | 0, a, m, b, g, h1, h2, h3, _, _, _ => by omega
  | K + 1, a, m, b, g, h1, h2, h3, hL, hR, hC => by
    rw [symM]
    by_cases c1 : m - a = 1
    · rw [if_pos c1]
      obtain ⟨b1, b2, b3, b4⟩ := bs_spec (fun h => decide (cf (g h) (g a) < 0)) (b - m) m b (by omega) (Nat.le_refl _)
      exact sym1_ok htr a m b g (by omega) h2 hR (fun t t1 t2 => hC a t (Nat.le_refl _) h1 t1 t2) _ b1 b2 (fun h => by simpa using b3 h) (fun h => by simpa using b4 h)
    · rw [if_neg c1]
      by_cases c2 : b - m = 1
      · rw [if_pos c2]
        obtain ⟨b1, b2, b3, b4⟩ := bs_spec (fun h => !decide (cf (g m) (g h) < 0)) (m - a) a m (by omega) (Nat.le_refl _)
        exact sym2_ok htr a m b g (by omega) h1 hL (fun t t1 t2 => hC t m t1 t2 (Nat.le_refl _) h2) _ b1 b2 (fun h => by simpa using b3 h) (fun h => by simpa using b4 h)
      · rw [if_neg c2]
        have hrec : ∀ (x y z : Nat) (g : Nat → Int), x < y → y < z → z - x < b - a → Srt R x y g → Srt R y z g → (∀ s t, x ≤ s → s < y → y ≤ t → t < z → Cp cf R (g s) (g t)) → Srt R x z (symM cf K x y z g) ∧ Sh x z g (symM cf K x y z g) := fun x y z g k1 k2 k3 => symM_ok htr K x y z g k1 k2 (by omega)
        have fin : ∀ (s0 r0 s : Nat), s0 ≤ s → s ≤ r0 → r0 ≤ m → r0 ≤ (a + b) / 2 → a ≤ s0 → (a + b) / 2 + m - s0 ≤ b → (s0 = a ∨ (a + b) / 2 + m - s0 = b) → (r0 = m ∨ r0 = (a + b) / 2) → (s < r0 → (!decide (cf (g ((a + b) / 2 + m - 1 - s)) (g s) < 0)) = false) → (s0 < s → (!decide (cf (g ((a + b) / 2 + m - 1 - (s - 1))) (g (s - 1)) < 0)) = true) → Srt R a b (symR (symM cf K) a m b ((a + b) / 2) s g) ∧ Sh a b g (symR (symM cf K) a m b ((a + b) / 2) s g) := fun s0 r0 s q1 q2 q3 q4 q5 q6 q7 q8 q9 q10 => by
          refine symR_ok htr (symM cf K) a m b ((a + b) / 2) s ((a + b) / 2 + m - s) g h1 h2 rfl hrec (by omega) (by omega) (by omega) rfl (by omega) (fun w1 w2 => ?_) (fun w1 w2 => ?_) hL hR hC
          · have h5 := q10 (by omega)
            rw [show (a + b) / 2 + m - 1 - (s - 1) = (a + b) / 2 + m - s by omega] at h5
            exact (hC (s - 1) ((a + b) / 2 + m - s) (by omega) (by omega) (by omega) w2).2 (by simpa using h5)
          · have h5 := q9 (by omega)
            rw [show (a + b) / 2 + m - 1 - s = (a + b) / 2 + m - s - 1 by omega] at h5
            exact (hC s ((a + b) / 2 + m - s - 1) (by omega) w1 (by omega) (by omega)).1 (by simpa using h5)
        by_cases c3 : (a + b) / 2 < m
        · rw [if_pos c3]
          obtain ⟨b1, b2, b3, b4⟩ := bs_spec (fun c => !decide (cf (g ((a + b) / 2 + m - 1 - c)) (g c) < 0)) ((a + b) / 2 - ((a + b) / 2 + m - b)) ((a + b) / 2 + m - b) ((a + b) / 2) (by omega) (Nat.le_refl _)
          exact fin _ _ _ b1 b2 (by omega) (Nat.le_refl _) (by omega) (by omega) (by omega) (.inr rfl) b3 b4
        · rw [if_neg c3]
          obtain ⟨b1, b2, b3, b4⟩ := bs_spec (fun c => !decide (cf (g ((a + b) / 2 + m - 1 - c)) (g c) < 0)) (m - a) a m (by omega) (Nat.le_refl _)
          exact fin _ _ _ b1 b2 (Nat.le_refl _) (by omega) (Nat.le_refl _) (by omega) (.inl rfl) (.inl rfl) b3 b4
end

end Go.Proofs.Ythbmpegaogfibae.Pu
