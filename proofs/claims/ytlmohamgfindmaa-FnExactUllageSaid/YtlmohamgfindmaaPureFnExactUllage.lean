/- The pure statement of FnExactUllage, proved: for every input that the opening lets in, the printed law comes to true. -/
import Derived.Test.YtlmohamgfindmaaPu0
import Derived.Test.YtlmohamgfindmaaPAx19
import Derived.Test.YtlmohamgfindmaaPAx20
import Derived.Test.YtlmohamgfindmaaPAx21
import Derived.Test.YtlmohamgfindmaaQBase
import Derived.Test.YtlmohamgfindmaaQConvIntS
import Derived.Test.YtlmohamgfindmaaQL3
import Derived.Test.YtlmohamgfindmaaStFnExactUllage
namespace Go.Proofs.Ytlmohamgfindmaa.Pure
open Go.RowKit Go.Proofs.Ytlmohamgfindmaa Go.Proofs.Ytlmohamgfindmaa.PA Go.Proofs.Ytlmohamgfindmaa.Pu Go.Proofs.YtlmohamgfindmaaW.PrintWords Go.Proofs.YtlmohamgfindmaaW.PrintLast Go.Proofs.YtlmohamgfindmaaW.PrintMore
set_option linter.unusedVariables false
set_option linter.unusedSimpArgs false
-- Ullage
theorem ull_l0 (l : List Int) (h : Int) (hl : l.length ≤ 1048576) (h2 : 2 ≤ l.length) (ha : 0 ≤ h) (hb : h ≤ 100 * ((l.length : Int) - 1)) : ∀ i : Nat, i ≤ l.length → 1 ≤ i → ∃ v, Ev (fun k => spec_Ullage.l0 k l h i) v ∧ Ev (fun k => impl_Ullage.l0 k l h i) v := by
  refine down ?_ ?_
  · intro _
    have h1 : Int.tdiv h 100 = h / 100 := Int.tdiv_eq_ediv_of_nonneg ha
    have h2 : Int.tmod h 100 = h % 100 := Int.tmod_eq_emod_of_nonneg ha
    by_cases c : h % 100 = 0
    · refine ⟨(rd l (h / 100), true), Ev.step (fun _ => rfl) ?_, Ev.step (fun _ => rfl) ?_⟩
      · simp only [spec_Ullage.l0, h1, h2]
        rw [wr (x := h / 100) (by omega)]
        exact ev_f (by omega) (ev_t c (ev_t (by omega) (ev_t (by omega) (Ev.now _))))
      · simp only [impl_Ullage.l0, h1, h2]
        rw [wr (x := h / 100) (by omega)]
        exact ev_f (by omega) (ev_t c (ev_t (by omega) (ev_t (by omega) (Ev.now _))))
    · refine ⟨(wrap64 (rd l (h / 100) - wrap64 (Int.tdiv (wrap64 ((h % 100) * wrap64 (rd l (h / 100) - rd l (h / 100 + 1)))) 100)), true), Ev.step (fun _ => rfl) ?_, Ev.step (fun _ => rfl) ?_⟩
      · simp only [spec_Ullage.l0, h1, h2]
        rw [wr (x := h / 100) (by omega), wr (x := h / 100 + 1) (by omega)]
        exact ev_f (by omega) (ev_f c (ev_t (by omega) (ev_t (by omega) (ev_t (by omega) (ev_t (by omega) (Ev.now _))))))
      · simp only [impl_Ullage.l0, h1, h2]
        rw [wr (x := h / 100) (by omega), wr (x := h / 100 + 1) (by omega)]
        exact ev_f (by omega) (ev_f c (ev_t (by omega) (ev_t (by omega) (ev_t (by omega) (ev_t (by omega) (Ev.now _))))))
  · intro i hi ih h1
    obtain ⟨v, v1, v2⟩ := ih (by omega)
    by_cases c : rd l i ≥ rd l ((i : Int) - 1)
    · refine ⟨(0, false), Ev.step (fun _ => rfl) ?_, Ev.step (fun _ => rfl) ?_⟩
      · simp only [spec_Ullage.l0]
        rw [wr (x := (i : Int) - 1) (by omega)]
        exact ev_t (by omega) (ev_t (by omega) (ev_t (by omega) (ev_t (by omega) (ev_t c (Ev.now _)))))
      · simp only [impl_Ullage.l0]
        rw [wr (x := (i : Int) - 1) (by omega)]
        exact ev_t (by omega) (ev_t (by omega) (ev_t (by omega) (ev_t (by omega) (ev_t c (Ev.now _)))))
    · refine ⟨v, Ev.step (fun _ => rfl) ?_, Ev.step (fun _ => rfl) ?_⟩
      · simp only [spec_Ullage.l0]
        rw [wr (x := (i : Int) - 1) (by omega), wr (x := (i : Int) + 1) (by omega)]
        exact ev_t (by omega) (ev_t (by omega) (ev_t (by omega) (ev_t (by omega) (ev_f c v1))))
      · simp only [impl_Ullage.l0]
        rw [wr (x := (i : Int) - 1) (by omega), wr (x := (i : Int) + 1) (by omega)]
        exact ev_t (by omega) (ev_t (by omega) (ev_t (by omega) (ev_t (by omega) (ev_f c v2))))
theorem ull_same (l : List Int) (h : Int) (hl : l.length ≤ 1048576) : ∃ v, Ev (fun k => spec_Ullage.f k l h) v ∧ Ev (fun k => impl_Ullage.f k l h) v := by
  simp only [spec_Ullage.f, impl_Ullage.f, l1In_eq, in_eq, all_eq, Option.bind_some]
  have hA := l3All_ev l 0 100000 (by omega)
  rw [wr (x := (l.length : Int) - 1) (by omega), wr (x := 100 * ((l.length : Int) - 1)) (by omega)]
  have jt1 : Ev (fun k => spec_Ullage.j0 k l h true) (0, false) := Ev.step (fun _ => rfl) (by simp only [spec_Ullage.j0]; exact Ev.now _)
  have jt2 : Ev (fun k => impl_Ullage.j0 k l h true) (0, false) := Ev.step (fun _ => rfl) (by simp only [impl_Ullage.j0]; exact Ev.now _)
  cases h1 : inB (l.length : Int) 2 30 with
  | false => exact ⟨(0, false), by simpa using jt1, by simpa using jt2⟩
  | true =>
    simp only [if_true]
    cases h2 : l.all fun x => inB x 0 100000 with
    | false => rw [h2] at hA; exact ⟨(0, false), Ev.bind hA (by simpa using jt1), by simpa using jt2⟩
    | true =>
      rw [h2] at hA
      cases h3 : inB h 0 (100 * ((l.length : Int) - 1)) with
      | false => exact ⟨(0, false), Ev.bind hA (by simpa using jt1), by simpa using jt2⟩
      | true =>
        have k1 := inB_t.1 h1; have k3 := inB_t.1 h3
        obtain ⟨v, v1, v2⟩ := ull_l0 l h hl (by omega) k3.1 k3.2 1 (by omega) (by omega)
        refine ⟨v, Ev.bind hA (ev_t rfl (Ev.step (fun _ => rfl) ?_)), ev_t rfl (Ev.step (fun _ => rfl) ?_)⟩
        · simp only [spec_Ullage.j0]
          exact ev_f (by simp) v1
        · simp only [impl_Ullage.j0]
          exact ev_f (by simp) v2
theorem P_Ullage : ∀ (l : List Int) (h : Int), ∃ k, laws_FnExactUllage.f k l h = some true := by
  intro l h
  refine Ev.rounds ?_
  simp only [laws_FnExactUllage.f]
  by_cases hl : (l.length : Int) > 1048576
  · exact ev_t hl (Ev.now _)
  have ht := toIntS_id l (by omega)
  have he := eqIntS_ev l (by omega)
  obtain ⟨v, h1, h2⟩ := ull_same l h (by omega)
  have fin : Ev (fun k => laws_FnExactUllage.j0 k l l false) true := by
    refine Ev.step (fun _ => rfl) ?_
    simp only [laws_FnExactUllage.j0]
    exact ev_f (by simp) (Ev.bind ht (Ev.bind he (ev_t rfl (Ev.now _))))
  exact ev_f hl (Ev.bind ht (Ev.bind h1 (Ev.bind ht (Ev.bind h2 (ev_t rfl (by simpa using fin))))))
theorem FnExactUllage : laws_FnExactUllage.Pure := fun l h _ _ => P_Ullage l h

end Go.Proofs.Ytlmohamgfindmaa.Pure
