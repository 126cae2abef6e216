/- Plain lemmas on the printed functions (Sort). -/
import Derived.Test.YthbmpegaogfibaePu0
import Derived.Test.YthbmpegaogfibaePAx4
import Derived.Test.YthbmpegaogfibaeQBase
namespace Go.Proofs.Ythbmpegaogfibae.Pu
open Go.RowKit Go.Proofs.Ythbmpegaogfibae Go.Proofs.Ythbmpegaogfibae.PA Go.Proofs.Ythbmpegaogfibae.Pu Go.Proofs.YthbmpegaogfibaeW.PrintWords Go.Proofs.YthbmpegaogfibaeW.PrintLast Go.Proofs.YthbmpegaogfibaeW.PrintMore
set_option linter.unusedVariables false
set_option linter.unusedSimpArgs false
open impl_Average (sw insI insO swR rot bs upS dnS symR symM stA stB stC lastM stabM)
/-- Within [a, b) the row is shuffled; elsewhere it is as it was. -/
structure Sh (a b : Nat) (g g' : Nat → Int) : Prop where
  out : ∀ t, (t < a ∨ b ≤ t) → g' t = g t
  sub : ∀ t, a ≤ t → t < b → ∃ s, a ≤ s ∧ s < b ∧ g' t = g s
  sur : ∀ s, a ≤ s → s < b → ∃ t, a ≤ t ∧ t < b ∧ g' t = g s
theorem Sh.refl (a b : Nat) (g : Nat → Int) : Sh a b g g := ⟨fun _ _ => rfl, fun t h1 h2 => ⟨t, h1, h2, rfl⟩, fun t h1 h2 => ⟨t, h1, h2, rfl⟩⟩
theorem Sh.trans {a b : Nat} {g1 g2 g3 : Nat → Int} (h : Sh a b g1 g2) (k : Sh a b g2 g3) : Sh a b g1 g3 where
  out := fun t ht => (k.out t ht).trans (h.out t ht)
  sub := fun t h1 h2 => by
    obtain ⟨s, a1, a2, a3⟩ := k.sub t h1 h2
    obtain ⟨u, b1, b2, b3⟩ := h.sub s a1 a2
    exact ⟨u, b1, b2, a3.trans b3⟩
  sur := fun t h1 h2 => by
    obtain ⟨s, a1, a2, a3⟩ := h.sur t h1 h2
    obtain ⟨u, b1, b2, b3⟩ := k.sur s a1 a2
    exact ⟨u, b1, b2, b3.trans a3⟩
theorem Sh.wide {a b a' b' : Nat} {g g' : Nat → Int} (h : Sh a b g g') (h1 : a' ≤ a) (h2 : b ≤ b') : Sh a' b' g g' where
  out := fun t ht => h.out t (by omega)
  sub := fun t k1 k2 => by
    by_cases c : a ≤ t ∧ t < b
    · obtain ⟨s, a1, a2, a3⟩ := h.sub t c.1 c.2
      exact ⟨s, by omega, by omega, a3⟩
    · exact ⟨t, k1, k2, h.out t (by omega)⟩
  sur := fun t k1 k2 => by
    by_cases c : a ≤ t ∧ t < b
    · obtain ⟨s, a1, a2, a3⟩ := h.sur t c.1 c.2
      exact ⟨s, by omega, by omega, a3⟩
    · exact ⟨t, k1, k2, h.out t (by omega)⟩
theorem Sh.sw {a b : Nat} (g : Nat → Int) (i j : Nat) (h1 : a ≤ i) (h2 : i < b) (h3 : a ≤ j) (h4 : j < b) : Sh a b g (impl_Average.sw g i j) where
  out := fun t ht => by
    unfold impl_Average.sw
    rw [if_neg (by omega), if_neg (by omega)]
  sub := fun t k1 k2 => by
    unfold impl_Average.sw
    by_cases c : t = j
    · exact ⟨i, h1, h2, by rw [if_pos c]⟩
    · by_cases d : t = i
      · exact ⟨j, h3, h4, by rw [if_neg c, if_pos d]⟩
      · exact ⟨t, k1, k2, by rw [if_neg c, if_neg d]⟩
  sur := fun s k1 k2 => by
    unfold impl_Average.sw
    by_cases c : s = i
    · exact ⟨j, h3, h4, by rw [if_pos rfl, c]⟩
    · by_cases d : s = j
      · exact ⟨i, h1, h2, by
          by_cases e : i = j
          · rw [if_pos e, d, e]
          · rw [if_neg e, if_pos rfl, d]⟩
      · exact ⟨s, k1, k2, by rw [if_neg d, if_neg c]⟩
/-! Where each part puts what. -/
theorem upS_at : ∀ (c k : Nat) (g : Nat → Int) (t : Nat), upS c k g t = if t < k then g t else if t < k + c then g (t + 1) else if t = k + c then g k else g t
  | 0, k, g, t => by
    rw [upS]
    by_cases c1 : t < k
    · rw [if_pos c1]
    · rw [if_neg c1, if_neg (by omega)]
      by_cases c2 : t = k + 0
      · rw [if_pos c2, c2]; rfl
      · rw [if_neg c2]
  | c + 1, k, g, t => by
    rw [upS, upS_at c (k + 1) (sw g k (k + 1)) t]
    unfold impl_Average.sw
    by_cases c1 : t < k
    · rw [if_pos (by omega), if_pos c1, if_neg (by omega), if_neg (by omega)]
    · rw [if_neg c1]
      by_cases c2 : t = k
      · rw [if_pos (by omega), if_neg (by omega), if_pos c2, if_pos (by omega), c2]
      · rw [if_neg (by omega)]
        by_cases c3 : t < k + 1 + c
        · rw [if_pos c3, if_neg (show ¬ t + 1 = k + 1 by omega), if_neg (show ¬ t + 1 = k by omega), if_pos (show t < k + (c + 1) by omega)]
        · rw [if_neg c3, if_neg (show ¬ t < k + (c + 1) by omega)]
          by_cases c4 : t = k + 1 + c
          · rw [if_pos c4, if_pos rfl, if_pos (by omega)]
          · rw [if_neg c4, if_neg (by omega), if_neg (by omega), if_neg (by omega)]
theorem dnS_at : ∀ (c k : Nat) (g : Nat → Int) (t : Nat), c ≤ k → dnS c k g t = if t < k - c then g t else if t = k - c then g k else if t ≤ k then g (t - 1) else g t
  | 0, k, g, t, _ => by
    rw [dnS]
    by_cases c1 : t < k - 0
    · rw [if_pos c1]
    · rw [if_neg c1]
      by_cases c2 : t = k - 0
      · rw [if_pos c2, c2]; rfl
      · rw [if_neg c2, if_neg (by omega)]
  | c + 1, k, g, t, h => by
    rw [dnS, dnS_at c (k - 1) (sw g k (k - 1)) t (by omega)]
    unfold impl_Average.sw
    by_cases c1 : t < k - (c + 1)
    · rw [if_pos (by omega), if_pos c1, if_neg (by omega), if_neg (by omega)]
    · rw [if_neg (by omega), if_neg c1]
      by_cases c2 : t = k - (c + 1)
      · rw [if_pos (by omega), if_pos c2, if_pos rfl]
      · rw [if_neg (by omega), if_neg c2]
        by_cases c3 : t ≤ k - 1
        · rw [if_pos c3, if_neg (show ¬ t - 1 = k - 1 by omega), if_neg (show ¬ t - 1 = k by omega), if_pos (show t ≤ k by omega)]
        · rw [if_neg c3]
          by_cases c4 : t = k
          · rw [if_neg (show ¬ t = k - 1 by omega), if_pos c4, if_pos (show t ≤ k by omega), c4]
          · rw [if_neg (show ¬ t ≤ k by omega), if_neg (by omega), if_neg (by omega)]
theorem swR_at (a b : Nat) : ∀ (c i : Nat) (g : Nat → Int) (t : Nat), a + i + c ≤ b + i → swR a b c i g t = if a + i ≤ t ∧ t < a + i + c then g (b + (t - a)) else if b + i ≤ t ∧ t < b + i + c then g (a + (t - b)) else g t
  | 0, i, g, t, _ => by rw [swR, if_neg (by omega), if_neg (by omega)]
  | c + 1, i, g, t, h => by
    rw [swR, swR_at a b c (i + 1) (sw g (a + i) (b + i)) t (by omega)]
    unfold impl_Average.sw
    by_cases c1 : t = a + i
    · rw [if_neg (by omega), if_neg (by omega), if_neg (by omega), if_pos c1, if_pos (by omega)]
      congr 1; omega
    · by_cases c2 : a + i ≤ t ∧ t < a + i + (c + 1)
      · rw [if_pos (by omega), if_pos c2, if_neg (by omega), if_neg (by omega)]
      · rw [if_neg (by omega), if_neg c2]
        by_cases c3 : t = b + i
        · rw [if_neg (by omega), if_pos c3, if_pos (by omega)]
          congr 1; omega
        · by_cases c4 : b + i ≤ t ∧ t < b + i + (c + 1)
          · rw [if_pos (by omega), if_pos c4, if_neg (by omega), if_neg (by omega)]
          · rw [if_neg (by omega), if_neg c4, if_neg c3, if_neg c1]
theorem rot_at (m : Nat) : ∀ (k i j : Nat) (g : Nat → Int) (t : Nat), 0 < i → 0 < j → i ≤ m → i + j ≤ k → rot m k i j g t = if m - i ≤ t ∧ t < m - i + j then g (t + i) else if m - i + j ≤ t ∧ t < m + j then g (t - j) else g t
  | 0, i, j, g, t, h1, h2, h3, h4 => by omega
  | k + 1, i, j, g, t, h1, h2, h3, h4 => by
    rw [rot]
    by_cases c1 : i = j
    · subst c1
      rw [if_pos rfl, swR_at _ _ _ _ _ _ (by omega)]
      by_cases c2 : m - i ≤ t ∧ t < m - i + i
      · rw [if_pos (by omega), if_pos c2]; congr 1; omega
      · rw [if_neg (by omega), if_neg c2]
        by_cases c3 : m - i + i ≤ t ∧ t < m + i
        · rw [if_pos (by omega), if_pos c3]; congr 1; omega
        · rw [if_neg (by omega), if_neg c3]
    · rw [if_neg c1]
      by_cases c2 : j < i
      · rw [if_pos c2, rot_at m k (i - j) j _ t (by omega) h2 (by omega) (by omega)]
        by_cases d1 : m - (i - j) ≤ t ∧ t < m - (i - j) + j
        · rw [if_pos d1, if_neg (by omega), if_pos (by omega), swR_at _ _ _ _ _ _ (by omega), if_neg (by omega), if_pos (by omega)]
          congr 1; omega
        · rw [if_neg d1]
          by_cases d2 : m - (i - j) + j ≤ t ∧ t < m + j
          · rw [if_pos d2, if_neg (by omega), if_pos (by omega), swR_at _ _ _ _ _ _ (by omega), if_neg (by omega), if_neg (by omega)]
          · rw [if_neg d2, swR_at _ _ _ _ _ _ (by omega)]
            by_cases d3 : m - i ≤ t ∧ t < m - i + j
            · rw [if_pos (by omega), if_pos d3]; congr 1; omega
            · rw [if_neg (by omega), if_neg (by omega), if_neg d3, if_neg (by omega)]
      · rw [if_neg c2, rot_at m k i (j - i) _ t h1 (by omega) h3 (by omega)]
        by_cases d1 : m - i ≤ t ∧ t < m - i + (j - i)
        · rw [if_pos d1, if_pos (by omega), swR_at _ _ _ _ _ _ (by omega), if_neg (by omega), if_neg (by omega)]
        · rw [if_neg d1]
          by_cases d2 : m - i + (j - i) ≤ t ∧ t < m + (j - i)
          · rw [if_pos d2, if_pos (by omega), swR_at _ _ _ _ _ _ (by omega), if_pos (by omega)]
            congr 1; omega
          · rw [if_neg d2, swR_at _ _ _ _ _ _ (by omega)]
            by_cases d3 : m - i + j ≤ t ∧ t < m + j
            · rw [if_neg (by omega), if_pos (by omega), if_neg (by omega), if_pos d3]; congr 1; omega
            · rw [if_neg (by omega), if_neg (by omega), if_neg (by omega), if_neg d3]
theorem upS_sh (a b : Nat) : ∀ (c k : Nat) (g : Nat → Int), a ≤ k → k + c < b → Sh a b g (upS c k g)
  | 0, k, g, _, _ => Sh.refl a b g
  | c + 1, k, g, h1, h2 => (Sh.sw g k (k + 1) h1 (by omega) (by omega) (by omega)).trans (upS_sh a b c (k + 1) _ (by omega) (by omega))
theorem dnS_sh (a b : Nat) : ∀ (c k : Nat) (g : Nat → Int), a + c ≤ k → k < b → Sh a b g (dnS c k g)
  | 0, k, g, _, _ => Sh.refl a b g
  | c + 1, k, g, h1, h2 => (Sh.sw g k (k - 1) (by omega) (by omega) (by omega) (by omega)).trans (dnS_sh a b c (k - 1) _ (by omega) (by omega))
theorem swR_sh (a b x y : Nat) : ∀ (c i : Nat) (g : Nat → Int), a ≤ x + i → x + i + c ≤ b → a ≤ y + i → y + i + c ≤ b → Sh a b g (swR x y c i g)
  | 0, i, g, _, _, _, _ => Sh.refl a b g
  | c + 1, i, g, h1, h2, h3, h4 => (Sh.sw g (x + i) (y + i) h1 (by omega) h3 (by omega)).trans (swR_sh a b x y c (i + 1) _ (by omega) (by omega) (by omega) (by omega))
theorem rot_sh (a b m : Nat) : ∀ (k i j : Nat) (g : Nat → Int), a + i ≤ m → m + j ≤ b → Sh a b g (rot m k i j g)
  | 0, i, j, g, _, _ => Sh.refl a b g
  | k + 1, i, j, g, h1, h2 => by
    rw [rot]
    by_cases c1 : i = j
    · rw [if_pos c1]
      exact swR_sh a b _ _ _ _ g (by omega) (by omega) (by omega) (by omega)
    · rw [if_neg c1]
      by_cases c2 : j < i
      · rw [if_pos c2]
        exact (swR_sh a b _ _ _ _ g (by omega) (by omega) (by omega) (by omega)).trans (rot_sh a b m k _ _ _ (by omega) (by omega))
      · rw [if_neg c2]
        exact (swR_sh a b _ _ _ _ g (by omega) (by omega) (by omega) (by omega)).trans (rot_sh a b m k _ _ _ (by omega) (by omega))
theorem bs_spec (P : Nat → Bool) : ∀ (k i j : Nat), i ≤ j → j - i ≤ k → i ≤ bs P k i j ∧ bs P k i j ≤ j ∧ (bs P k i j < j → P (bs P k i j) = false) ∧ (i < bs P k i j → P (bs P k i j - 1) = true)
  | 0, i, j, h1, h2 => by
    rw [bs]
    exact ⟨Nat.le_refl _, h1, fun h => by omega, fun h => by omega⟩
  | k + 1, i, j, h1, h2 => by
    rw [bs]
    by_cases c1 : i < j
    · rw [if_pos c1]
      cases hp : P ((i + j) / 2) with
      | true =>
        rw [if_pos rfl]
        obtain ⟨a1, a2, a3, a4⟩ := bs_spec P k ((i + j) / 2 + 1) j (by omega) (by omega)
        refine ⟨by omega, a2, a3, fun h => ?_⟩
        by_cases c2 : (i + j) / 2 + 1 < bs P k ((i + j) / 2 + 1) j
        · exact a4 c2
        · rw [show bs P k ((i + j) / 2 + 1) j - 1 = (i + j) / 2 by omega]; exact hp
      | false =>
        rw [if_neg (by decide)]
        obtain ⟨a1, a2, a3, a4⟩ := bs_spec P k i ((i + j) / 2) (by omega) (by omega)
        refine ⟨a1, by omega, fun h => ?_, a4⟩
        by_cases c2 : bs P k i ((i + j) / 2) < (i + j) / 2
        · exact a3 c2
        · rw [show bs P k i ((i + j) / 2) = (i + j) / 2 by omega]; exact hp
    · rw [if_neg c1]
      exact ⟨Nat.le_refl _, h1, fun h => by omega, fun h => by omega⟩

end Go.Proofs.Ythbmpegaogfibae.Pu
