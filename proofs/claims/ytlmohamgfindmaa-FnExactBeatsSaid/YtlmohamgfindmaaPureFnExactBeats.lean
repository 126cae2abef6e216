/- The pure statement of FnExactBeats, proved: for every input that the opening lets in, the printed law comes to true. -/
import Derived.Test.YtlmohamgfindmaaPu0
import Derived.Test.YtlmohamgfindmaaPAx48
import Derived.Test.YtlmohamgfindmaaPAx49
import Derived.Test.YtlmohamgfindmaaPAx50
import Derived.Test.YtlmohamgfindmaaPAx51
import Derived.Test.YtlmohamgfindmaaPAx52
import Derived.Test.YtlmohamgfindmaaQSway
import Derived.Test.YtlmohamgfindmaaQConvIntS
import Derived.Test.YtlmohamgfindmaaStFnExactBeats
namespace Go.Proofs.Ytlmohamgfindmaa.Pure
open Go.RowKit Go.Proofs.Ytlmohamgfindmaa Go.Proofs.Ytlmohamgfindmaa.PA Go.Proofs.Ytlmohamgfindmaa.Pu Go.Proofs.YtlmohamgfindmaaW.PrintWords Go.Proofs.YtlmohamgfindmaaW.PrintLast Go.Proofs.YtlmohamgfindmaaW.PrintMore
set_option linter.unusedVariables false
set_option linter.unusedSimpArgs false
theorem swing_ev (a b c d : Int) : ∃ v : Int × Int × Int × Bool, Ev (fun k => spec_Swing1.f k a b c d) v ∧ Ev (fun k => impl_Swing1.f k a b c d) v := by
  have h : ∃ v : Int × Int × Int × Bool, ∀ k, spec_Swing1.f (k + 1) a b c d = some v ∧ impl_Swing1.f (k + 1) a b c d = some v := by
    simp only [spec_Swing1.f, impl_Swing1.f, SwayOk1, SwayOk2, l1In_eq, in_eq, Option.bind_some, spec_Swing1.j0, impl_Swing1.j0]
    by_cases g : (inB a (-1000000) 1000000 && inB b (-1000000) 1000000 && inB c (-1000000) 1000000) = true ∧ inB d (-1000) 1000 = true
    · have g2 := g
      simp only [Bool.and_eq_true, inB_t] at g2
      rw [g.1, g.2]
      simp only [if_true, Bool.not_true]
      rw [wr (x := d - b) (by omega), wr (x := b - d) (by omega), wr (x := -(b - d)) (by omega), show -(b - d) = d - b by omega]
      rw [if_neg (by simp)]
      generalize (inB (wrap64 (a + d)) (-1000000) 1000000 && inB c (-1000000) 1000000 && inB (d - b) (-1000000) 1000000) = u
      cases u <;> exact ⟨_, fun _ => ⟨rfl, rfl⟩⟩
    · revert g
      generalize (inB a (-1000000) 1000000 && inB b (-1000000) 1000000 && inB c (-1000000) 1000000) = u
      generalize inB d (-1000) 1000 = v
      intro g
      cases u <;> cases v <;> first | exact absurd ⟨rfl, rfl⟩ g | exact ⟨_, fun _ => ⟨rfl, rfl⟩⟩
  obtain ⟨v, hv⟩ := h
  exact ⟨v, Ev.step (fun k => (hv k).1) (Ev.now _), Ev.step (fun k => (hv k).2) (Ev.now _)⟩
theorem beats_l0 (l : List Int) (hl : l.length ≤ 1048576) : ∀ i : Nat, i ≤ l.length → ∀ a b c, ∃ v, Ev (fun k => spec_Beats.l0 k l i a b c) v ∧ Ev (fun k => impl_Beats.l0 k l l.length i a b c) v := by
  refine down ?_ ?_
  · intro a b c
    refine ⟨(a, b, c, true), Ev.step (fun _ => rfl) ?_, Ev.step (fun _ => rfl) ?_⟩
    · simp only [spec_Beats.l0]; exact ev_f (by omega) (Ev.now _)
    · simp only [impl_Beats.l0]; exact ev_f (by omega) (Ev.now _)
  · intro i hi ih a b c
    obtain ⟨⟨x, y, z, t⟩, s1, s2⟩ := swing_ev a b c (rd l i)
    cases t with
    | false =>
      refine ⟨(0, 0, 0, false), Ev.step (fun _ => rfl) ?_, Ev.step (fun _ => rfl) ?_⟩
      · simp only [spec_Beats.l0]; exact ev_t (by omega) (ev_t (by omega) (Ev.bind s1 (ev_f (by simp) (Ev.now _))))
      · simp only [impl_Beats.l0]; exact ev_t (by omega) (ev_t (by omega) (ev_t (by omega) (Ev.bind s2 (ev_f (by simp) (Ev.now _)))))
    | true =>
      obtain ⟨v, v1, v2⟩ := ih x y z
      refine ⟨v, Ev.step (fun _ => rfl) ?_, Ev.step (fun _ => rfl) ?_⟩
      · simp only [spec_Beats.l0]
        rw [wr (by omega)]
        exact ev_t (by omega) (ev_t (by omega) (Ev.bind s1 (ev_t rfl v1)))
      · simp only [impl_Beats.l0]
        rw [wr (by omega)]
        exact ev_t (by omega) (ev_t (by omega) (ev_t (by omega) (Ev.bind s2 (ev_t rfl v2))))
theorem beats_same (a b c : Int) (l : List Int) (hl : l.length ≤ 1048576) : ∃ v, Ev (fun k => spec_Beats.f k a b c l) v ∧ Ev (fun k => impl_Beats.f k a b c l) v := by
  obtain ⟨v, v1, v2⟩ := beats_l0 l hl 0 (Nat.zero_le _) a b c
  simp only [spec_Beats.f, impl_Beats.f, SwayOk1, SwayOk2, Option.bind_some]
  have j1 : ∀ t, ∃ w, Ev (fun k => spec_Beats.j0 k l t a b c) w ∧ Ev (fun k => impl_Beats.j0 k l t a b c) w := by
    intro t
    cases t with
    | true => exact ⟨_, Ev.step (fun _ => rfl) (by simp only [spec_Beats.j0]; exact Ev.now (0, 0, 0, false)), Ev.step (fun _ => rfl) (by simp only [impl_Beats.j0]; exact Ev.now _)⟩
    | false =>
      refine ⟨v, Ev.step (fun _ => rfl) ?_, Ev.step (fun _ => rfl) ?_⟩
      · simp only [spec_Beats.j0]; exact ev_f (by simp) v1
      · simp only [impl_Beats.j0]; exact ev_f (by simp) v2
  generalize (inB a (-1000000) 1000000 && inB b (-1000000) 1000000 && inB c (-1000000) 1000000) = u
  cases u with
  | true => simpa using j1 _
  | false => simpa using j1 true
theorem P_Beats : ∀ (a b c : Int) (l : List Int), ∃ k, laws_FnExactBeats.f k a b c l = some true := by
  intro a b c l
  refine Ev.rounds ?_
  simp only [laws_FnExactBeats.f, laws_toSway.f, Option.bind_some]
  by_cases hl : (l.length : Int) > 1048576
  · exact ev_t hl (Ev.now _)
  have ht := toIntS_id l (by omega)
  have he := eqIntS_ev l (by omega)
  obtain ⟨⟨x, y, z, t⟩, h1, h2⟩ := beats_same a b c l (by omega)
  have fin : Ev (fun k => laws_FnExactBeats.j0 k l l false) true := by
    refine Ev.step (fun _ => rfl) ?_
    simp only [laws_FnExactBeats.j0]
    exact ev_f (by simp) (Ev.bind ht (Ev.bind he (ev_t rfl (Ev.now _))))
  have hs : laws_eqSway.f x y z x y z = some true := by simp [laws_eqSway.f]
  refine ev_f hl (Ev.bind ht (Ev.bind h1 (Ev.bind ht (Ev.bind h2 ?_))))
  simp only [hs, Option.bind_some]
  exact ev_t (by first | rfl | trivial) (by simpa using fin)
theorem FnExactBeats : laws_FnExactBeats.Pure := fun x l _ _ => P_Beats _ _ _ l

end Go.Proofs.Ytlmohamgfindmaa.Pure
