/- The pure statement of FnExactBurn, proved: for every input that the opening lets in, the printed law comes to true. -/
import Derived.Test.YtjebipmpcabfbaaPu0
import Derived.Test.YtjebipmpcabfbaaPAx15
import Derived.Test.YtjebipmpcabfbaaPAx16
import Derived.Test.YtjebipmpcabfbaaPAx17
import Derived.Test.YtjebipmpcabfbaaQInts
import Derived.Test.YtjebipmpcabfbaaStFnExactBurn
namespace Go.Proofs.Ytjebipmpcabfbaa.Pure
open Go.RowKit Go.Proofs.Ytjebipmpcabfbaa Go.Proofs.Ytjebipmpcabfbaa.PA Go.Proofs.Ytjebipmpcabfbaa.Pu Go.Proofs.YtjebipmpcabfbaaW.PrintWords Go.Proofs.YtjebipmpcabfbaaW.PrintLast Go.Proofs.YtjebipmpcabfbaaW.PrintMore
set_option linter.unusedVariables false
set_option linter.unusedSimpArgs false
theorem Pure_Burn (l : List Int) (a b : Int) : ∃ k, laws_FnExactBurn.f k l a b = some true := by
  refine Ev.rounds ?_
  simp only [laws_FnExactBurn.f]
  by_cases h : (l.length : Int) > 1048576
  · exact ev_t h (Ev.now _)
  refine ev_f h ?_
  have ht := toIntS_ev l (by omega)
  have he := eqIntS_ev l (by omega)
  have fin : Ev (fun k => laws_FnExactBurn.j0 k l l false) true := by
    refine Ev.step (fun _ => rfl) ?_
    simp only [laws_FnExactBurn.j0]
    exact ev_f (by simp) (Ev.bind ht (Ev.bind he (ev_t rfl (Ev.now _))))
  have hj : ∀ c, ∃ v, Ev (fun k => spec_Burn.j0 k l a b c) v ∧ Ev (fun k => impl_Burn.j0 k l a b c) v ∨ c = false ∧ ¬ (2 ≤ (l.length : Int) ∧ 0 ≤ a ∧ a ≤ 10 * ((l.length : Int) - 1)) := by
    intro c
    cases c with
    | true => exact ⟨(0, false), .inl ⟨Ev.step (fun _ => rfl) (by simp only [spec_Burn.j0]; exact Ev.now _), Ev.step (fun _ => rfl) (by simp only [impl_Burn.j0]; exact Ev.now _)⟩⟩
    | false =>
      by_cases g : 2 ≤ (l.length : Int) ∧ 0 ≤ a ∧ a ≤ 10 * ((l.length : Int) - 1)
      · have h1 : Int.tdiv a 10 = a / 10 := Int.tdiv_eq_ediv_of_nonneg g.2.1
        have h2 : Int.tmod a 10 = a % 10 := Int.tmod_eq_emod_of_nonneg g.2.1
        have e : ∃ v, ∀ k, spec_Burn.j0 (k + 1) l a b false = some v ∧ impl_Burn.j0 (k + 1) l a b false = some v := by
          simp only [spec_Burn.j0, impl_Burn.j0, h1, h2]
          rw [wr (by omega), wr (x := a / 10 + 1) (by omega), if_neg (by simp), if_pos (by omega), if_pos (by omega)]
          by_cases c : a % 10 > 0
          · rw [if_pos c, if_pos (by omega), if_pos (by omega)]; exact ⟨_, fun _ => ⟨rfl, rfl⟩⟩
          · rw [if_neg c]; exact ⟨_, fun _ => ⟨rfl, rfl⟩⟩
        obtain ⟨v, hv⟩ := e
        exact ⟨v, .inl ⟨Ev.step (fun k => (hv k).1) (Ev.now _), Ev.step (fun k => (hv k).2) (Ev.now _)⟩⟩
      · exact ⟨(0, false), .inr ⟨rfl, g⟩⟩
  have main : ∃ v, Ev (fun k => spec_Burn.f k l a b) v ∧ Ev (fun k => impl_Burn.f k l a b) v := by
    simp only [spec_Burn.f, impl_Burn.f, l1In_eq, in_eq, all_eq, Option.bind_some]
    have hA := l3All_ev l 0 100000 (by omega)
    rw [wr (x := (l.length : Int) - 1) (by omega), wr (x := 10 * ((l.length : Int) - 1)) (by omega)]
    obtain ⟨vt, hvt⟩ := hj true
    have hvt : Ev (fun k => spec_Burn.j0 k l a b true) vt ∧ Ev (fun k => impl_Burn.j0 k l a b true) vt := by
      rcases hvt with h | h
      · exact h
      · cases h.1
    cases h1 : inB (l.length : Int) 2 30 with
    | false => exact ⟨vt, by simpa using hvt.1, by simpa using hvt.2⟩
    | true =>
      simp only [if_true]
      cases h2 : l.all fun x => inB x 0 100000 with
      | false => rw [h2] at hA; exact ⟨vt, Ev.bind hA (by simpa using hvt.1), by simpa using hvt.2⟩
      | true =>
        rw [h2] at hA
        cases h3 : inB a 0 (10 * ((l.length : Int) - 1)) with
        | false => exact ⟨vt, Ev.bind hA (by simpa using hvt.1), by cases inB b 0 100000 <;> simpa using hvt.2⟩
        | true =>
          cases h4 : inB b 0 100000 with
          | false => exact ⟨vt, Ev.bind hA (by simpa using hvt.1), by simpa using hvt.2⟩
          | true =>
            obtain ⟨v, hv⟩ := hj false
            have k1 := inB_t.1 h1; have k3 := inB_t.1 h3
            have hv : Ev (fun k => spec_Burn.j0 k l a b false) v ∧ Ev (fun k => impl_Burn.j0 k l a b false) v := by
              rcases hv with h | h
              · exact h
              · exact absurd ⟨k1.1, k3.1, k3.2⟩ h.2
            exact ⟨v, Ev.bind hA (by simpa using hv.1), by simpa using hv.2⟩
  obtain ⟨v, h1, h2⟩ := main
  exact Ev.bind ht (Ev.bind h1 (Ev.bind ht (Ev.bind h2 (ev_t rfl (by simpa using fin)))))
theorem FnExactBurn : laws_FnExactBurn.Pure := fun l a b _ _ _ => Pure_Burn l a b

end Go.Proofs.Ytjebipmpcabfbaa.Pure
