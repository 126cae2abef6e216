/- Plain lemmas on the printed functions (Draws). -/
import Derived.Test.YtlmohamgfindmabPu0
import Derived.Test.YtlmohamgfindmabPDx5
import Derived.Test.YtlmohamgfindmabPDx6
import Derived.Test.YtlmohamgfindmabDQBase
import Derived.Test.YtlmohamgfindmabDQBits
namespace Go.Proofs.Ytlmohamgfindmab.Pu
open Go.RowKit Go.Proofs.Ytlmohamgfindmab Go.Proofs.Ytlmohamgfindmab.PD Go.Proofs.Ytlmohamgfindmab.Pu Go.Proofs.YtlmohamgfindmabW.PrintWords Go.Proofs.YtlmohamgfindmabW.PrintLast Go.Proofs.YtlmohamgfindmabW.PrintMore
set_option linter.unusedVariables false
set_option linter.unusedSimpArgs false
theorem byte_ev (l : List Int) (hl : l.length ≤ 1048576) (p h : Int) (hp : 0 ≤ p) : ∃ b p' h', spec_l1Byte.f l p h = some (b, p', h') ∧ 0 ≤ b ∧ b ≤ 255 ∧ 0 ≤ p' := by
  unfold spec_l1Byte.f
  by_cases c : p < (l.length : Int)
  · rw [if_pos c, if_pos hp, wr (x := p + 1) (by omega)]
    exact ⟨_, _, _, rfl, (and255 _).1, (and255 _).2, by omega⟩
  · rw [if_neg c]
    exact ⟨_, _, _, rfl, (and255 _).1, (and255 _).2, hp⟩
theorem below_ev (l : List Int) (hl : l.length ≤ 1048576) (p h n : Int) (hp : 0 ≤ p) (hn : n ≤ 256) : ∃ b p' h', spec_l1Below.f l p h n = some (b, p', h') ∧ 0 ≤ b ∧ (0 < n → b < n) ∧ 0 ≤ p' := by
  unfold spec_l1Below.f
  by_cases c : n ≤ 0
  · rw [if_pos c]
    exact ⟨0, p, h, rfl, by omega, by omega, hp⟩
  · rw [if_neg c, if_pos hn]
    obtain ⟨b, p', h', e, b1, b2, b3⟩ := byte_ev l hl p h hp
    rw [e]
    simp only [Option.bind_some]
    rw [if_neg (by omega), Int.tmod_eq_emod_of_nonneg b1]
    exact ⟨_, _, _, rfl, Int.emod_nonneg _ (by omega), fun _ => Int.emod_lt_of_pos _ (by omega), b3⟩
theorem pick_ev (l : List Int) (hl : l.length ≤ 1048576) (p h : Int) (hp : 0 ≤ p) (s : List Int) (hs : 0 < s.length ∧ s.length ≤ 256) : ∃ b p' h', spec_l1PickInt.f l p h s = some (b, p', h') ∧ 0 ≤ p' := by
  unfold spec_l1PickInt.f
  obtain ⟨b, p', h', e, b1, b2, b3⟩ := below_ev l hl p h s.length hp (by omega)
  rw [e]
  simp only [Option.bind_some]
  rw [if_pos b1, if_pos (b2 (by omega))]
  exact ⟨_, _, _, rfl, b3⟩
theorem l1new_ev (l : List Int) (hl : l.length ≤ 1048576) : ∃ h, Ev (fun k => spec_l1New.f k l) (l, 0, h) := by
  have key : ∀ i : Nat, i ≤ l.length → ∀ h, ∃ h', Ev (fun k => spec_l1New.l0 k l h i) (l, 0, h') := by
    refine down ?_ ?_
    · intro h
      refine ⟨h, Ev.step (fun _ => rfl) ?_⟩
      simp only [spec_l1New.l0]
      exact ev_f (by omega) (Ev.now _)
    · intro i hi ih h
      by_cases c : (i : Int) < 4000
      · obtain ⟨h', e⟩ := ih (Go.bits .and .i64 (wrap64 ((wrap64 ((wrap64 (h * 131)) + (wrap64 (rd l i)))) + 7)) 1073741823)
        refine ⟨h', Ev.step (fun _ => rfl) ?_⟩
        simp only [spec_l1New.l0]
        rw [wr (x := (i : Int) + 1) (by omega)]
        exact ev_t (by omega) (ev_t c (ev_t (by omega) e))
      · refine ⟨h, Ev.step (fun _ => rfl) ?_⟩
        simp only [spec_l1New.l0]
        exact ev_t (by omega) (ev_f c (Ev.now _))
  simp only [spec_l1New.f]
  exact key 0 (Nat.zero_le _) _
theorem size_ev (l : List Int) (hl : l.length ≤ 1048576) : ∃ t, spec_l1Size.f l 40 = some t ∧ 0 ≤ t ∧ t ≤ 40 := by
  unfold spec_l1Size.f
  rw [wr (x := (l.length : Int) / 20) (by omega), wr (by omega)]
  by_cases c : 2 + (l.length : Int) / 20 > 40
  · rw [if_pos c]; exact ⟨_, rfl, by omega, by omega⟩
  · rw [if_neg c]; exact ⟨_, rfl, by omega, by omega⟩

end Go.Proofs.Ytlmohamgfindmab.Pu
