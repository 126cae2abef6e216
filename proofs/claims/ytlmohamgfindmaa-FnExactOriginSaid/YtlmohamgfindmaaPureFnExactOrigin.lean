/- The pure statement of FnExactOrigin, proved: for every input that the opening lets in, the printed law comes to true. -/
import Derived.Test.YtlmohamgfindmaaPu0
import Derived.Test.YtlmohamgfindmaaPAx0
import Derived.Test.YtlmohamgfindmaaPAx24
import Derived.Test.YtlmohamgfindmaaPAx25
import Derived.Test.YtlmohamgfindmaaPAx27
import Derived.Test.YtlmohamgfindmaaPAx29
import Derived.Test.YtlmohamgfindmaaQBase
import Derived.Test.YtlmohamgfindmaaQConvPartS
import Derived.Test.YtlmohamgfindmaaStFnExactOrigin
namespace Go.Proofs.Ytlmohamgfindmaa.Pure
open Go.RowKit Go.Proofs.Ytlmohamgfindmaa Go.Proofs.Ytlmohamgfindmaa.PA Go.Proofs.Ytlmohamgfindmaa.Pu Go.Proofs.YtlmohamgfindmaaW.PrintWords Go.Proofs.YtlmohamgfindmaaW.PrintLast Go.Proofs.YtlmohamgfindmaaW.PrintMore
set_option linter.unusedVariables false
set_option linter.unusedSimpArgs false
theorem origin_l0 (l : List S130) (o s : Int) (hl : l.length ≤ 1048576) : ∀ i : Nat, i ≤ l.length → ∀ a m, ∃ v, Ev (fun k => spec_Origin.l0 k l o s a m i) v ∧ (inB l.length 1 50 = true → inB s 0 100 = true → Ev (fun k => impl_Origin.l0 k o s m a l l.length i) v) ∧ ((inB l.length 1 50 && inB s 0 100) = false → v = (false, false)) := by
  refine down ?_ ?_
  · intro a m
    cases h : (inB l.length 1 50 && inB s 0 100) with
    | false =>
      refine ⟨(false, false), Ev.step (fun _ => rfl) ?_, fun h1 h2 => ?_, fun _ => rfl⟩
      · simp only [spec_Origin.l0, l1In_eq, Option.bind_some]
        refine ev_f (by omega) ?_
        cases h1 : inB (l.length : Int) 1 50 with
        | false => exact Ev.now _
        | true =>
          rw [h1] at h
          rw [show inB s 0 100 = false by simpa using h]
          exact Ev.now _
      · rw [h1, h2] at h; cases h
    | true =>
      simp only [Bool.and_eq_true] at h
      refine ⟨(decide (wrap64 (100 * m) ≥ wrap64 (s * a)), true), Ev.step (fun _ => rfl) ?_, fun h1 h2 => Ev.step (fun _ => rfl) ?_, fun h => by cases h⟩
      · simp only [spec_Origin.l0, l1In_eq, Option.bind_some]
        rw [h.1, h.2]
        exact ev_f (by omega) (ev_t rfl (ev_t rfl (Ev.now _)))
      · simp only [impl_Origin.l0]
        rw [Int.mul_comm m 100, Int.mul_comm a s]
        exact ev_f (by omega) (Ev.now _)
  · intro i hi ih a m
    cases h : (inB (rd_T130 l i).f0 0 300 && inB (rd_T130 l i).f1 0 1000000) with
    | false =>
      have e1 : Ev (fun k => spec_Origin.j1 k l o s a m i true (rd_T130 l i).f0 (rd_T130 l i).f1) (false, false) := Ev.step (fun _ => rfl) (by simp only [spec_Origin.j1]; exact Ev.now _)
      have e2 : Ev (fun k => impl_Origin.j2 k o s m a l l.length i true (rd_T130 l i).f0 (rd_T130 l i).f1) (false, false) := Ev.step (fun _ => rfl) (by simp only [impl_Origin.j2]; exact Ev.now _)
      refine ⟨(false, false), Ev.step (fun _ => rfl) ?_, fun h1 h2 => Ev.step (fun _ => rfl) ?_, fun _ => rfl⟩
      · simp only [spec_Origin.l0, l1In_eq, Option.bind_some]
        refine ev_t (by omega) (ev_t (by omega) ?_)
        cases g : inB (rd_T130 l i).f0 0 300 with
        | false => simpa using e1
        | true => rw [g] at h; rw [show inB (rd_T130 l i).f1 0 1000000 = false by simpa using h]; simpa using e1
      · simp only [impl_Origin.l0, in_eq, Option.bind_some]
        refine ev_t (by omega) (ev_t (by omega) (ev_t (by omega) ?_))
        cases g : inB (rd_T130 l i).f0 0 300 with
        | false => simpa using e2
        | true => rw [g] at h; rw [show inB (rd_T130 l i).f1 0 1000000 = false by simpa using h]; simpa using e2
    | true =>
      simp only [Bool.and_eq_true] at h
      by_cases c : (rd_T130 l i).f0 = o
      · obtain ⟨v, v1, v2, v3⟩ := ih (wrap64 (a + (rd_T130 l i).f1)) (wrap64 (m + (rd_T130 l i).f1))
        refine ⟨v, Ev.step (fun _ => rfl) ?_, fun h1 h2 => Ev.step (fun _ => rfl) ?_, v3⟩
        · simp only [spec_Origin.l0, l1In_eq, Option.bind_some]
          rw [h.1, h.2]
          refine ev_t (by omega) (ev_t (by omega) (ev_t rfl (Ev.step (fun _ => rfl) ?_)))
          simp only [spec_Origin.j1]
          rw [wr (x := (i : Int) + 1) (by omega)]
          exact ev_f (by simp) (ev_t c v1)
        · simp only [impl_Origin.l0, in_eq, Option.bind_some]
          rw [h.1, h.2]
          refine ev_t (by omega) (ev_t (by omega) (ev_t (by omega) (ev_t rfl (Ev.step (fun _ => rfl) ?_))))
          simp only [impl_Origin.j2]
          rw [wr (x := (i : Int) + 1) (by omega)]
          exact ev_f (by simp) (ev_t c (v2 h1 h2))
      · obtain ⟨v, v1, v2, v3⟩ := ih (wrap64 (a + (rd_T130 l i).f1)) m
        refine ⟨v, Ev.step (fun _ => rfl) ?_, fun h1 h2 => Ev.step (fun _ => rfl) ?_, v3⟩
        · simp only [spec_Origin.l0, l1In_eq, Option.bind_some]
          rw [h.1, h.2]
          refine ev_t (by omega) (ev_t (by omega) (ev_t rfl (Ev.step (fun _ => rfl) ?_)))
          simp only [spec_Origin.j1]
          rw [wr (x := (i : Int) + 1) (by omega)]
          exact ev_f (by simp) (ev_f c v1)
        · simp only [impl_Origin.l0, in_eq, Option.bind_some]
          rw [h.1, h.2]
          refine ev_t (by omega) (ev_t (by omega) (ev_t (by omega) (ev_t rfl (Ev.step (fun _ => rfl) ?_))))
          simp only [impl_Origin.j2]
          rw [wr (x := (i : Int) + 1) (by omega)]
          exact ev_f (by simp) (ev_f c (v2 h1 h2))
theorem origin_same (l : List S130) (o s : Int) (hl : l.length ≤ 1048576) : ∃ v, Ev (fun k => spec_Origin.f k l o s) v ∧ Ev (fun k => impl_Origin.f k l o s) v := by
  obtain ⟨v, v1, v2, v3⟩ := origin_l0 l o s hl 0 (Nat.zero_le _) 0 0
  refine ⟨v, by simp only [spec_Origin.f]; exact v1, ?_⟩
  simp only [impl_Origin.f, in_eq, Option.bind_some]
  have e : Ev (fun k => impl_Origin.j0 k l o s true) (false, false) := Ev.step (fun _ => rfl) (by simp only [impl_Origin.j0]; exact Ev.now _)
  cases h1 : inB (l.length : Int) 1 50 with
  | false => rw [v3 (by simp [h1])]; simpa using e
  | true =>
    cases h2 : inB s 0 100 with
    | false => rw [v3 (by simp [h1, h2])]; simpa using e
    | true =>
      refine ev_t rfl (Ev.step (fun _ => rfl) ?_)
      simp only [impl_Origin.j0]
      exact ev_f (by simp) (v2 h1 h2)
theorem P_Origin : ∀ (l : List S132) (o s : Int), l.length ≤ maxLen → ∃ k, laws_FnExactOrigin.f k l o s = some true := by
  intro l o s hl
  refine Ev.rounds ?_
  unfold maxLen at hl
  simp only [laws_FnExactOrigin.f, laws_szPartS.f]
  rw [wr (by omega)]
  by_cases h : (l.length : Int) ≤ 1048576
  · rw [if_neg (by omega)]
    simp only [Option.bind_some]
    have h' : (l.map cPart).length ≤ 1048576 := by simp; omega
    obtain ⟨v, v1, v2⟩ := origin_same (l.map cPart) o s h'
    have ht := toPartS_ev l (by omega)
    have fin : Ev (fun k => laws_FnExactOrigin.j0 k l (l.map cPart) false) true := by
      refine Ev.step (fun _ => rfl) ?_
      simp only [laws_FnExactOrigin.j0]
      exact ev_f (by simp) (Ev.bind ht (Ev.bind (eqPartS_ev _ (by omega)) (ev_t rfl (Ev.now _))))
    exact ev_f (by omega) (Ev.bind ht (Ev.bind v1 (Ev.bind ht (Ev.bind v2 (ev_f (by simp) (by simpa using fin))))))
  · rw [if_pos (by omega)]
    simp only [Option.bind_some]
    exact ev_t (by omega) (Ev.now _)
theorem FnExactOrigin : laws_FnExactOrigin.Pure := fun l o s h _ _ => P_Origin l o s h.1

end Go.Proofs.Ytlmohamgfindmaa.Pure
