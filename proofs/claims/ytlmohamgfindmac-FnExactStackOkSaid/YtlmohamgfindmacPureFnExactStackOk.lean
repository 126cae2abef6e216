/- The pure statement of FnExactStackOk, proved: for every input that the opening lets in, the printed law comes to true. -/
import Derived.Test.YtlmohamgfindmacPu0
import Derived.Test.YtlmohamgfindmacPBx0
import Derived.Test.YtlmohamgfindmacPBx4
import Derived.Test.YtlmohamgfindmacPBx8
import Derived.Test.YtlmohamgfindmacPBx11
import Derived.Test.YtlmohamgfindmacBQBase
import Derived.Test.YtlmohamgfindmacBQBox9
import Derived.Test.YtlmohamgfindmacBQBoxes
import Derived.Test.YtlmohamgfindmacBQBoxSz
import Derived.Test.YtlmohamgfindmacBQConvBoxS
import Derived.Test.YtlmohamgfindmacStFnExactStackOk
namespace Go.Proofs.Ytlmohamgfindmac.Pure
open Go.RowKit Go.Proofs.Ytlmohamgfindmac Go.Proofs.Ytlmohamgfindmac.PB Go.Proofs.Ytlmohamgfindmac.Pu Go.Proofs.YtlmohamgfindmacW.PrintWords Go.Proofs.YtlmohamgfindmacW.PrintLast Go.Proofs.YtlmohamgfindmacW.PrintMore
set_option linter.unusedVariables false
set_option linter.unusedSimpArgs false
theorem stack_l0 (l : List S61) (m : Int) (hl : l.length ≤ 20) : ∀ i : Nat, i ≤ l.length → ∀ s, ∃ v, Ev (fun k => spec_StackOk.l0 k l m s i) v ∧ (inB m 0 1000000 = true → Ev (fun k => impl_StackOk.l0 k l m s l l.length i) v) ∧ (inB m 0 1000000 = false → v = false) := by
  refine down ?_ ?_
  · intro s
    by_cases h : inB m 0 1000000 = true
    rotate_left
    · replace h : inB m 0 1000000 = false := by simpa using h
      refine ⟨false, Ev.step (fun _ => rfl) ?_, fun h2 => by (rw [h] at h2; cases h2), fun _ => rfl⟩
      simp only [spec_StackOk.l0, l1In_eq, Option.bind_some, h]
      exact ev_f (by omega) (ev_f (by simp) (Ev.now _))
    · refine ⟨decide (s ≤ m), Ev.step (fun _ => rfl) ?_, fun _ => Ev.step (fun _ => rfl) ?_, fun h2 => by (rw [h] at h2; cases h2)⟩
      · simp only [spec_StackOk.l0, l1In_eq, Option.bind_some, h]
        exact ev_f (by omega) (ev_t (by first | rfl | trivial) (Ev.now _))
      · simp only [impl_StackOk.l0]
        exact ev_f (by omega) (Ev.now _)
  · intro i hi ih s
    obtain ⟨v, v1, v2, v3⟩ := ih (wrap64 (s + (rd_T61 l i).f1))
    have e1 : Ev (fun k => if (rd_T61 l i).f3 = true then (if (i : Int) > 1 then (some false) else (spec_StackOk.l0 k l m (wrap64 (s + ((rd_T61 l i).f1))) (wrap64 ((i : Int) + 1)))) else (spec_StackOk.l0 k l m (wrap64 (s + ((rd_T61 l i).f1))) (wrap64 ((i : Int) + 1)))) (!((rd_T61 l i).f3 && decide ((i : Int) > 1)) && v) := by
      rw [wr (x := (i : Int) + 1) (by omega)]
      by_cases c : (rd_T61 l i).f3 = true
      · refine ev_t c ?_
        by_cases d : (i : Int) > 1
        · refine ev_t d ?_
          have d' : 1 < (i : Int) := d
          simpa [c, d'] using Ev.now false
        · refine ev_f d ?_
          rw [c, decide_eq_false d]; simpa using v1
      · refine ev_f c ?_
        have c' : (rd_T61 l i).f3 = false := by simpa using c
        rw [c']; simpa using v1
    have e2 : inB m 0 1000000 = true → Ev (fun k => if (rd_T61 l i).f3 = true then (if (i : Int) > 1 then (some false) else (impl_StackOk.l0 k l m (wrap64 (s + ((rd_T61 l i).f1))) l l.length (wrap64 ((i : Int) + 1)))) else (impl_StackOk.l0 k l m (wrap64 (s + ((rd_T61 l i).f1))) l l.length (wrap64 ((i : Int) + 1)))) (!((rd_T61 l i).f3 && decide ((i : Int) > 1)) && v) := by
      intro hm
      rw [wr (x := (i : Int) + 1) (by omega)]
      have v2 := v2 hm
      by_cases c : (rd_T61 l i).f3 = true
      · refine ev_t c ?_
        by_cases d : (i : Int) > 1
        · refine ev_t d ?_
          have d' : 1 < (i : Int) := d
          simpa [c, d'] using Ev.now false
        · refine ev_f d ?_
          rw [c, decide_eq_false d]; simpa using v2
      · refine ev_f c ?_
        have c' : (rd_T61 l i).f3 = false := by simpa using c
        rw [c']; simpa using v2
    have b1 := boxV1 (rd_T61 l i)
    have b2 := boxV2 (rd_T61 l i)
    cases hb : boxV (rd_T61 l i) with
    | false =>
      rw [hb] at b1 b2
      refine ⟨false, Ev.step (fun _ => rfl) ?_, fun hm => Ev.step (fun _ => rfl) ?_, fun _ => rfl⟩
      · simp only [spec_StackOk.l0]
        exact ev_t (by omega) (ev_t (by omega) (ev_f (by omega) (Ev.bind b1 (ev_f (by simp) (Ev.now _)))))
      · simp only [impl_StackOk.l0]
        exact ev_t (by omega) (ev_t (by omega) (ev_t (by omega) (Ev.bind b2 (ev_f (by simp) (Ev.now _)))))
    | true =>
      rw [hb] at b1 b2
      by_cases h0 : 0 < i
      · by_cases hw : (rd_T61 l ((i : Int) - 1)).f1 < (rd_T61 l i).f1
        · refine ⟨false, Ev.step (fun _ => rfl) ?_, fun hm => Ev.step (fun _ => rfl) ?_, fun _ => rfl⟩
          · simp only [spec_StackOk.l0]
            rw [wr (x := (i : Int) - 1) (by omega)]
            exact ev_t (by omega) (ev_t (by omega) (ev_f (by omega) (Ev.bind b1 (ev_t rfl (ev_t (by omega) (ev_t (by omega) (ev_t (by omega) (ev_t hw (Ev.now _)))))))))
          · simp only [impl_StackOk.l0]
            rw [wr (x := (i : Int) - 1) (by omega)]
            exact ev_t (by omega) (ev_t (by omega) (ev_t (by omega) (Ev.bind b2 (ev_t rfl (ev_t (by omega) (ev_t (by omega) (ev_t (by omega) (ev_t hw (Ev.now _)))))))))
        · refine ⟨(!((rd_T61 l i).f3 && decide ((i : Int) > 1)) && v), Ev.step (fun _ => rfl) ?_, fun hm => Ev.step (fun _ => rfl) ?_, fun hm => by rw [v3 hm, Bool.and_false]⟩
          · simp only [spec_StackOk.l0]
            rw [wr (x := (i : Int) - 1) (by omega)]
            exact ev_t (by omega) (ev_t (by omega) (ev_f (by omega) (Ev.bind b1 (ev_t rfl (ev_t (by omega) (ev_t (by omega) (ev_t (by omega) (ev_f hw e1))))))))
          · simp only [impl_StackOk.l0]
            rw [wr (x := (i : Int) - 1) (by omega)]
            exact ev_t (by omega) (ev_t (by omega) (ev_t (by omega) (Ev.bind b2 (ev_t rfl (ev_t (by omega) (ev_t (by omega) (ev_t (by omega) (ev_f hw (e2 hm)))))))))
      · refine ⟨(!((rd_T61 l i).f3 && decide ((i : Int) > 1)) && v), Ev.step (fun _ => rfl) ?_, fun hm => Ev.step (fun _ => rfl) ?_, fun hm => by rw [v3 hm, Bool.and_false]⟩
        · simp only [spec_StackOk.l0]
          exact ev_t (by omega) (ev_t (by omega) (ev_f (by omega) (Ev.bind b1 (ev_t rfl (ev_f (by omega) e1)))))
        · simp only [impl_StackOk.l0]
          exact ev_t (by omega) (ev_t (by omega) (ev_t (by omega) (Ev.bind b2 (ev_t rfl (ev_f (by omega) (e2 hm))))))
theorem stack_same (l : List S61) (m : Int) : ∃ v, Ev (fun k => spec_StackOk.f k l m) v ∧ Ev (fun k => impl_StackOk.f k l m) v := by
  by_cases h : (l.length : Int) > 20
  · refine ⟨false, ?_, by simp only [impl_StackOk.f]; exact ev_t h (Ev.now _)⟩
    simp only [spec_StackOk.f]
    refine Ev.step (fun _ => rfl) ?_
    simp only [spec_StackOk.l0]
    exact ev_t (by omega) (ev_t (by omega) (ev_t h (Ev.now _)))
  · obtain ⟨v, v1, v2, v3⟩ := stack_l0 l m (by omega) 0 (Nat.zero_le _) 0
    refine ⟨v, by simp only [spec_StackOk.f]; exact v1, ?_⟩
    simp only [impl_StackOk.f, in_eq, Option.bind_some]
    refine ev_f h ?_
    cases hm : inB m 0 1000000 with
    | false => rw [v3 hm]; exact ev_f (by simp) (Ev.now _)
    | true => exact ev_t (by first | rfl | trivial) (v2 hm)
theorem P_StackOk : ∀ (l : List S56) (m : Int), (∀ x ∈ l, x.f0.size ≤ 9223372036854775807) → l.length ≤ maxLen → ∃ k, laws_FnExactStackOk.f k l m = some true := by
  intro l m hg hl
  refine Ev.rounds ?_
  unfold maxLen at hl
  obtain ⟨s, hs, hs2⟩ := szBoxS_ev l hg (by omega)
  simp only [laws_FnExactStackOk.f]
  refine Ev.bind hs ?_
  by_cases h : s < 0
  · exact ev_t h (Ev.now _)
  · have hl2 := hs2 (by omega)
    obtain ⟨v, v1, v2⟩ := stack_same (l.map cBox) m
    have ht := toBoxS_ev l (by omega)
    exact ev_f h (Ev.bind ht (Ev.bind v1 (Ev.bind ht (Ev.bind v2 (ev_f (by simp) (Ev.bind ht (Ev.bind (eqBoxS_ev _ (by simp; omega)) (ev_t rfl (Ev.now _)))))))))
theorem FnExactStackOk : laws_FnExactStackOk.Pure := fun l m h _ => P_StackOk l m (fun x hx => by have := (h.2 x hx).1; unfold maxLen at this; omega) h.1

end Go.Proofs.Ytlmohamgfindmac.Pure
