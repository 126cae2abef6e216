/- Plain lemmas on the printed functions (Stable). -/
import Derived.Test.YthbmpegaogfibaePu0
import Derived.Test.YthbmpegaogfibaePAx4
import Derived.Test.YthbmpegaogfibaeQBase
import Derived.Test.YthbmpegaogfibaeQSort
import Derived.Test.YthbmpegaogfibaeQSorted
namespace Go.Proofs.Ythbmpegaogfibae.Pu
open Go.RowKit Go.Proofs.Ythbmpegaogfibae Go.Proofs.Ythbmpegaogfibae.PA Go.Proofs.Ythbmpegaogfibae.Pu Go.Proofs.YthbmpegaogfibaeW.PrintWords Go.Proofs.YthbmpegaogfibaeW.PrintLast Go.Proofs.YthbmpegaogfibaeW.PrintMore
set_option linter.unusedVariables false
set_option linter.unusedSimpArgs false
open impl_Average (sw insI insO swR rot bs upS dnS symR symM stA stB stC lastM stabM)
theorem stable_ok {cf : Int → Int → Int} {R : Int → Int → Prop} (htr : ∀ x y z, R x y → R y z → R x z) (n : Nat) (hn : n ≤ 40) (g : Nat → Int) (hC : ∀ s t, s < t → t < n → Cp cf R (g s) (g t)) : Srt R 0 n (stabM cf n g) ∧ Sh 0 n g (stabM cf n g) := by
  have emp : ∀ a (g : Nat → Int), Srt R a (a + 1) g := fun a g s t _ _ _ => by omega
  have nil : ∀ a b (g : Nat → Int), b ≤ a → Srt R a b g := fun a b g h s t _ _ _ => by omega
  unfold impl_Average.stabM
  by_cases c1 : n < 20
  · rw [impl_Average.stA_done cf n (n + 1) 0 20 g (by omega)]
    dsimp only
    rw [impl_Average.stC_done _ _ _ _ _ (by omega)]
    rcases Nat.eq_zero_or_pos n with h0 | h0
    · subst h0
      exact ⟨nil _ _ _ (Nat.le_refl _), Sh.refl _ _ _⟩
    · obtain ⟨h1, h2⟩ := insO_ok htr 0 n (n - (0 + 1)) (0 + 1) g (by omega) (by omega) (by omega) (emp 0 g) (fun s t _ k1 _ k2 => hC s t k1 k2)
      rw [show 0 + 1 + (n - (0 + 1)) = n by omega] at h1
      exact ⟨h1, h2⟩
  · obtain ⟨g1, hg1⟩ : ∃ g1, g1 = insO cf 0 (20 - (0 + 1)) (0 + 1) g := ⟨_, rfl⟩
    obtain ⟨h1, h2⟩ := insO_ok htr 0 20 (20 - (0 + 1)) (0 + 1) g (by omega) (by omega) (by omega) (emp 0 g) (fun s t _ k1 _ k2 => hC s t k1 (by omega))
    rw [← hg1] at h1 h2
    have h1 : Srt R 0 20 g1 := h1
    by_cases c2 : n < 40
    · have e1 : stA cf n (n + 1) 0 20 g = (20, g1) := by
        rw [stA, if_pos (by omega), ← hg1, impl_Average.stA_done _ _ _ _ _ _ (by omega)]
      rw [e1]
      dsimp only
      obtain ⟨g2, hg2⟩ : ∃ g2, g2 = insO cf 20 (n - (20 + 1)) (20 + 1) g1 := ⟨_, rfl⟩
      rw [← hg2]
      have hc1 : ∀ s t, s < t → 20 ≤ t → t < n → Cp cf R (g1 s) (g1 t) := fun s t k1 k2 k3 => by
        rw [h2.out t (by omega)]
        by_cases d : s < 20
        · obtain ⟨u, u1, u2, u3⟩ := h2.sub s (by omega) d
          rw [u3]; exact hC u t (by omega) k3
        · rw [h2.out s (by omega)]; exact hC s t k1 k3
      by_cases c3 : n = 20
      · have e2 : g2 = g1 := by rw [hg2, show n - (20 + 1) = 0 by omega, insO]
        rw [e2, impl_Average.stC_done _ _ _ _ _ (by omega), c3]
        exact ⟨h1, h2⟩
      · obtain ⟨k1, k2⟩ := insO_ok htr 20 n (n - (20 + 1)) (20 + 1) g1 (by omega) (by omega) (by omega) (emp 20 g1) (fun s t _ q1 q2 q3 => hc1 s t q1 (by omega) q3)
        rw [← hg2] at k1 k2
        rw [show 20 + 1 + (n - (20 + 1)) = n by omega] at k1
        rw [stC, if_pos (by omega), impl_Average.stB_done _ _ _ _ _ _ _ (by omega)]
        dsimp only
        rw [impl_Average.stC_done _ _ _ _ _ (by omega), lastM, if_pos (by omega)]
        obtain ⟨m1, m2⟩ := symM_ok htr (n - 0) 0 (0 + 20) n g2 (by omega) (by omega) (Nat.le_refl _) (h1.of_out k2 (.inl (by omega))) k1 (fun s t _ q2 q3 q4 => by
          rw [k2.out s (by omega)]
          obtain ⟨u, u1, u2, u3⟩ := k2.sub t (by omega) q4
          rw [u3]; exact hc1 s u (by omega) u1 u2)
        exact ⟨m1, (h2.wide (Nat.le_refl _) (by omega)).trans ((k2.wide (by omega) (Nat.le_refl _)).trans m2)⟩
    · have c3 : n = 40 := by omega
      subst c3
      have hc1 : ∀ s t, s < t → 20 ≤ t → t < 40 → Cp cf R (g1 s) (g1 t) := fun s t k1 k2 k3 => by
        rw [h2.out t (by omega)]
        by_cases d : s < 20
        · obtain ⟨u, u1, u2, u3⟩ := h2.sub s (by omega) d
          rw [u3]; exact hC u t (by omega) k3
        · rw [h2.out s (by omega)]; exact hC s t k1 k3
      obtain ⟨g2, hg2⟩ : ∃ g2, g2 = insO cf 20 (40 - (20 + 1)) (20 + 1) g1 := ⟨_, rfl⟩
      obtain ⟨k1, k2⟩ := insO_ok htr 20 40 (40 - (20 + 1)) (20 + 1) g1 (by omega) (by omega) (by omega) (emp 20 g1) (fun s t _ q1 q2 q3 => hc1 s t q1 (by omega) q3)
      rw [← hg2] at k1 k2
      have k1 : Srt R 20 40 g2 := k1
      have e1 : stA cf 40 (40 + 1) 0 20 g = (40, g2) := by
        rw [stA, if_pos (by omega), ← hg1, stA, if_pos (by omega)]
        rw [show insO cf 20 (20 + 20 - (20 + 1)) (20 + 1) g1 = g2 from hg2.symm, impl_Average.stA_done _ _ _ _ _ _ (by omega)]
      rw [e1]
      dsimp only
      rw [show (40 : Nat) - (40 + 1) = 0 from rfl, insO, stC, if_pos (by omega), stB, if_pos (by omega), impl_Average.stB_done _ _ _ _ _ _ _ (by omega)]
      dsimp only
      rw [impl_Average.stC_done _ _ _ _ _ (by omega), lastM, if_neg (by omega)]
      obtain ⟨m1, m2⟩ := symM_ok htr (2 * 20 - 0) 0 (0 + 20) (2 * 20) g2 (by omega) (by omega) (Nat.le_refl _) (h1.of_out k2 (.inl (by omega))) k1 (fun s t _ q2 q3 q4 => by
        rw [k2.out s (by omega)]
        obtain ⟨u, u1, u2, u3⟩ := k2.sub t (by omega) q4
        rw [u3]; exact hc1 s u (by omega) u1 u2)
      exact ⟨m1, (h2.wide (Nat.le_refl _) (by omega)).trans ((k2.wide (by omega) (Nat.le_refl _)).trans m2)⟩
/-- The place's order: the greater rest first, of like rests the lower place. -/
def ahead (r : Int → Int) (x y : Int) : Prop := r y < r x ∨ (r x = r y ∧ x < y)
theorem places_ok (l : List Int) (a s : Int) (hn : l.length ≤ 40) (hr : ∀ x : Int, -1000000000000 < impl_Average.rem l a s x ∧ impl_Average.rem l a s x < 1000000000000) :
    Srt (ahead (impl_Average.rem l a s)) 0 l.length (impl_Average.plc l a s) ∧ Sh 0 l.length (fun t => (t : Int)) (impl_Average.plc l a s) := by
  unfold impl_Average.plc
  refine stable_ok ?_ l.length hn _ ?_
  · intro x y z h1 h2
    unfold ahead at *
    omega
  · intro u t h1 h2
    unfold Cp ahead impl_Average.cf
    have k1 := hr (u : Int)
    have k2 := hr (t : Int)
    rw [wr (by omega)]
    omega

end Go.Proofs.Ythbmpegaogfibae.Pu
