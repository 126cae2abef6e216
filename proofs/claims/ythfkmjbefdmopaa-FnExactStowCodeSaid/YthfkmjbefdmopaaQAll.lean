/- Plain lemmas on the printed functions (All). -/
import Derived.Test.YthfkmjbefdmopaaPu0
import Derived.Test.YthfkmjbefdmopaaPAx0
import Derived.Test.YthfkmjbefdmopaaPAx2
import Derived.Test.YthfkmjbefdmopaaPAx3
import Derived.Test.YthfkmjbefdmopaaPAx4
import Derived.Test.YthfkmjbefdmopaaPAx5
import Derived.Test.YthfkmjbefdmopaaPAx6
import Derived.Test.YthfkmjbefdmopaaPAx7
import Derived.Test.YthfkmjbefdmopaaPAx8
import Derived.Test.YthfkmjbefdmopaaPAx9
import Derived.Test.YthfkmjbefdmopaaPAx10
import Derived.Test.YthfkmjbefdmopaaPAx11
import Derived.Test.YthfkmjbefdmopaaPAx12
import Derived.Test.YthfkmjbefdmopaaPAx13
import Derived.Test.YthfkmjbefdmopaaPAx14
import Derived.Test.YthfkmjbefdmopaaPAx15
import Derived.Test.YthfkmjbefdmopaaPAx17
import Derived.Test.YthfkmjbefdmopaaPAx18
import Derived.Test.YthfkmjbefdmopaaPAx19
import Derived.Test.YthfkmjbefdmopaaPAx20
import Derived.Test.YthfkmjbefdmopaaPAx21
import Derived.Test.YthfkmjbefdmopaaPAx22
import Derived.Test.YthfkmjbefdmopaaPAx23
namespace Go.Proofs.Ythfkmjbefdmopaa.Pu
open Go.RowKit Go.Proofs.Ythfkmjbefdmopaa Go.Proofs.Ythfkmjbefdmopaa.PA Go.Proofs.Ythfkmjbefdmopaa.Pu Go.Proofs.YthfkmjbefdmopaaW.PrintWords Go.Proofs.YthfkmjbefdmopaaW.PrintLast Go.Proofs.YthfkmjbefdmopaaW.PrintMore
set_option linter.unusedVariables false
set_option linter.unusedSimpArgs false
theorem l1In_eq (a b c : Int) : spec_l1In.f a b c = some (inB a b c) := by
  unfold spec_l1In.f inB
  by_cases h : a ≥ b
  · rw [if_pos h]; simp [h]
  · rw [if_neg h]; simp [h]
theorem in_eq (a b c : Int) : impl_in.f a b c = some (inB a b c) := by
  unfold impl_in.f inB
  by_cases h : a ≥ b
  · rw [if_pos h]; simp [h]
  · rw [if_neg h]; simp [h]

theorem letters : ∀ m : Fin 26, ∃ v : Int, spec_l11Letter.f 30 (m.1 : Int) = some v ∧ impl_valueOf.f 30 (65 + (m.1 : Int)) = some v := by
  unfold spec_l11Letter.f impl_valueOf.f
  intro m
  have key : ∀ m : Fin 26, (spec_l11Letter.l0 30 (m.1 : Int) 10).isSome = true ∧ spec_l11Letter.l0 30 (m.1 : Int) 10 = impl_valueOf.l0 30 (65 + (m.1 : Int)) 10 65 := by
    unfold spec_l11Letter.l0 impl_valueOf.l0 
    decide +kernel
  obtain ⟨v, hv⟩ := Option.isSome_iff_exists.1 (key m).1
  exact ⟨v, hv, (key m).2 ▸ hv⟩
theorem letter_ev (b : Int) (h : 65 ≤ b ∧ b ≤ 90) : ∃ v, Ev (fun k => spec_l11Letter.f k (b - 65)) v ∧ Ev (fun k => impl_valueOf.f k b) v := by
  obtain ⟨m, hm⟩ := Int.eq_ofNat_of_zero_le (show 0 ≤ b - 65 by omega)
  obtain ⟨v, h1, h2⟩ := letters ⟨m, by omega⟩
  refine ⟨v, Ev.of (spec_l11Letter.mono _) (k := 30) (by rw [hm]; exact h1), Ev.of (impl_valueOf.mono _) (k := 30) (by rw [show b = 65 + (m : Int) by omega]; exact h2)⟩
theorem digits_same (s : ByteArray) (hs : s.size = 10) : ∀ i : Nat, i ≤ 10 → ∀ x, ∃ v, Ev (fun k => spec_CheckDigit.l0 k s x (i : Int)) v ∧ Ev (fun k => impl_CheckDigit.l0 k s x (i : Int)) v := by
  refine down ?_ ?_
  · intro x
    refine ⟨Int.tmod (Int.tmod x 11) 10, Ev.step (fun _ => rfl) ?_, Ev.step (fun _ => rfl) ?_⟩
    · simp only [spec_CheckDigit.l0]
      exact ev_f (by omega) (Ev.now _)
    · simp only [impl_CheckDigit.l0]
      exact ev_f (by omega) (Ev.now _)
  · intro i hi ih x
    have hb := bt_range s i
    by_cases h4 : i < 4
    · by_cases hL : 65 ≤ bt s i ∧ bt s i ≤ 90
      · obtain ⟨w, w1, w2⟩ := letter_ev _ hL
        obtain ⟨v, v1, v2⟩ := ih (wrap64 (x + shl .i64 w i))
        refine ⟨v, Ev.step (fun _ => rfl) ?_, Ev.step (fun _ => rfl) ?_⟩
        · simp only [spec_CheckDigit.l0, l1In_eq, Option.bind_some]
          rw [wr (x := bt s i) (by omega), show inB (bt s i) 65 90 = true from inB_t.2 hL]
          refine ev_t (by omega) (ev_t (by omega) (ev_t (by omega) (ev_t (by omega) (Ev.step (fun _ => rfl) ?_))))
          simp only [spec_CheckDigit.j1]
          rw [wr (x := bt s i - 65) (by omega), wr (x := (i : Int) + 1) (by omega)]
          exact ev_t (by first | rfl | trivial) (Ev.bind w1 (ev_t (by omega) v1))
        · simp only [impl_CheckDigit.l0]
          rw [decide_eq_true hL.2]
          refine ev_t (by omega) (ev_t (by omega) (ev_t (by omega) (ev_t (by omega) (ev_t (by omega) (Ev.step (fun _ => rfl) ?_)))))
          simp only [impl_CheckDigit.j1]
          rw [wr (x := (i : Int) + 1) (by omega)]
          exact ev_t (by first | rfl | trivial) (Ev.bind w2 (ev_t (by omega) v2))
      · refine ⟨-1, Ev.step (fun _ => rfl) ?_, Ev.step (fun _ => rfl) ?_⟩
        · simp only [spec_CheckDigit.l0, l1In_eq, Option.bind_some]
          rw [wr (x := bt s i) (by omega), show inB (bt s i) 65 90 = false from inB_f.2 hL]
          refine ev_t (by omega) (ev_t (by omega) (ev_t (by omega) (ev_t (by omega) (Ev.step (fun _ => rfl) ?_))))
          simp only [spec_CheckDigit.j1]
          exact ev_f (by simp) (ev_f (by omega) (Ev.now _))
        · simp only [impl_CheckDigit.l0]
          refine ev_t (by omega) (ev_t (by omega) (ev_t (by omega) (ev_t (by omega) ?_)))
          have fin : Ev (fun k => impl_CheckDigit.j1 k s x i (bt s i) i false) (-1) := by
            refine Ev.step (fun _ => rfl) ?_
            simp only [impl_CheckDigit.j1]
            exact ev_f (by simp) (ev_f (by omega) (Ev.now _))
          by_cases h65 : bt s i ≥ 65
          · rw [decide_eq_false (show ¬ bt s i ≤ 90 by omega)]
            exact ev_t h65 fin
          · exact ev_f h65 fin
    · by_cases hD : 48 ≤ bt s i ∧ bt s i ≤ 57
      · obtain ⟨v, v1, v2⟩ := ih (wrap64 (x + shl .i64 (bt s i - 48) i))
        refine ⟨v, Ev.step (fun _ => rfl) ?_, Ev.step (fun _ => rfl) ?_⟩
        · simp only [spec_CheckDigit.l0]
          rw [wr (x := bt s i) (by omega)]
          refine ev_t (by omega) (ev_t (by omega) (ev_t (by omega) (ev_f (by omega) (Ev.step (fun _ => rfl) ?_))))
          simp only [spec_CheckDigit.j1, l1In_eq, Option.bind_some]
          rw [wr (x := bt s i - 48) (by omega), wr (x := (i : Int) + 1) (by omega), show inB (bt s i) 48 57 = true from inB_t.2 hD]
          exact ev_f (by simp) (ev_t (by omega) (ev_t rfl (ev_t (by omega) v1)))
        · simp only [impl_CheckDigit.l0]
          refine ev_t (by omega) (ev_t (by omega) (ev_t (by omega) (ev_f (by omega) (Ev.step (fun _ => rfl) ?_))))
          simp only [impl_CheckDigit.j1]
          rw [wr (x := (i : Int) + 1) (by omega), show (bt s i - 48) % 256 = bt s i - 48 by omega]
          exact ev_f (by simp) (ev_t (by omega) (ev_t (by omega) (ev_t (by omega) (ev_t (by omega) v2))))
      · refine ⟨-1, Ev.step (fun _ => rfl) ?_, Ev.step (fun _ => rfl) ?_⟩
        · simp only [spec_CheckDigit.l0]
          rw [wr (x := bt s i) (by omega)]
          refine ev_t (by omega) (ev_t (by omega) (ev_t (by omega) (ev_f (by omega) (Ev.step (fun _ => rfl) ?_))))
          simp only [spec_CheckDigit.j1, l1In_eq, Option.bind_some]
          rw [show inB (bt s i) 48 57 = false from inB_f.2 hD]
          exact ev_f (by simp) (ev_t (by omega) (ev_f (by simp) (Ev.now _)))
        · simp only [impl_CheckDigit.l0]
          refine ev_t (by omega) (ev_t (by omega) (ev_t (by omega) (ev_f (by omega) (Ev.step (fun _ => rfl) ?_))))
          simp only [impl_CheckDigit.j1]
          refine ev_f (by simp) (ev_t (by omega) ?_)
          by_cases h48 : bt s i ≥ 48
          · exact ev_t h48 (ev_f (by omega) (Ev.now _))
          · exact ev_f h48 (Ev.now _)
theorem checkDigit_same (s : ByteArray) : ∃ v, Ev (fun k => spec_CheckDigit.f k s) v ∧ Ev (fun k => impl_CheckDigit.f k s) v := by
  simp only [spec_CheckDigit.f, impl_CheckDigit.f]
  by_cases h : (s.size : Int) = 10
  · obtain ⟨v, h1, h2⟩ := digits_same s (by omega) 0 (by omega) 0
    exact ⟨v, ev_t h h1, ev_t h h2⟩
  · exact ⟨-1, ev_f h (Ev.now _), ev_f h (Ev.now _)⟩
-- BoxName: needs the digits' range
theorem digit_of (s : ByteArray) (hs : s.size = 10) : ∀ i : Nat, i ≤ 10 → ∀ x, ∃ v, Ev (fun k => spec_CheckDigit.l0 k s x (i : Int)) v ∧ v ≤ 9 := by
  refine down ?_ ?_
  · intro x
    refine ⟨Int.tmod (Int.tmod x 11) 10, Ev.step (fun _ => rfl) ?_, ?_⟩
    · simp only [spec_CheckDigit.l0]
      exact ev_f (by omega) (Ev.now _)
    · have := Int.tmod_lt_of_pos (Int.tmod x 11) (show (0 : Int) < 10 by omega); omega
  · intro i hi ih x
    have hb := bt_range s i
    by_cases h4 : i < 4
    · by_cases hL : 65 ≤ bt s i ∧ bt s i ≤ 90
      · obtain ⟨w, w1, w2⟩ := letter_ev _ hL
        obtain ⟨v, v1, v2⟩ := ih (wrap64 (x + shl .i64 w i))
        refine ⟨v, Ev.step (fun _ => rfl) ?_, v2⟩
        simp only [spec_CheckDigit.l0, l1In_eq, Option.bind_some]
        rw [wr (x := bt s i) (by omega), show inB (bt s i) 65 90 = true from inB_t.2 hL]
        refine ev_t (by omega) (ev_t (by omega) (ev_t (by omega) (ev_t (by omega) (Ev.step (fun _ => rfl) ?_))))
        simp only [spec_CheckDigit.j1]
        rw [wr (x := bt s i - 65) (by omega), wr (x := (i : Int) + 1) (by omega)]
        exact ev_t (by first | rfl | trivial) (Ev.bind w1 (ev_t (by omega) v1))
      · refine ⟨-1, Ev.step (fun _ => rfl) ?_, by omega⟩
        simp only [spec_CheckDigit.l0, l1In_eq, Option.bind_some]
        rw [wr (x := bt s i) (by omega), show inB (bt s i) 65 90 = false from inB_f.2 hL]
        refine ev_t (by omega) (ev_t (by omega) (ev_t (by omega) (ev_t (by omega) (Ev.step (fun _ => rfl) ?_))))
        simp only [spec_CheckDigit.j1]
        exact ev_f (by simp) (ev_f (by omega) (Ev.now _))
    · by_cases hD : 48 ≤ bt s i ∧ bt s i ≤ 57
      · obtain ⟨v, v1, v2⟩ := ih (wrap64 (x + shl .i64 (bt s i - 48) i))
        refine ⟨v, Ev.step (fun _ => rfl) ?_, v2⟩
        simp only [spec_CheckDigit.l0]
        rw [wr (x := bt s i) (by omega)]
        refine ev_t (by omega) (ev_t (by omega) (ev_t (by omega) (ev_f (by omega) (Ev.step (fun _ => rfl) ?_))))
        simp only [spec_CheckDigit.j1, l1In_eq, Option.bind_some]
        rw [wr (x := bt s i - 48) (by omega), wr (x := (i : Int) + 1) (by omega), show inB (bt s i) 48 57 = true from inB_t.2 hD]
        exact ev_f (by simp) (ev_t (by omega) (ev_t rfl (ev_t (by omega) v1)))
      · refine ⟨-1, Ev.step (fun _ => rfl) ?_, by omega⟩
        simp only [spec_CheckDigit.l0]
        rw [wr (x := bt s i) (by omega)]
        refine ev_t (by omega) (ev_t (by omega) (ev_t (by omega) (ev_f (by omega) (Ev.step (fun _ => rfl) ?_))))
        simp only [spec_CheckDigit.j1, l1In_eq, Option.bind_some]
        rw [show inB (bt s i) 48 57 = false from inB_f.2 hD]
        exact ev_f (by simp) (ev_t (by omega) (ev_f (by simp) (Ev.now _)))
theorem ev_uniq {α : Type} {g : Nat → Option α} {r q : α} (h : Ev g r) (h' : Ev g q) : r = q := by
  obtain ⟨K, h⟩ := h; obtain ⟨K', h'⟩ := h'
  have := (h (max K K') (by omega)).symm.trans (h' (max K K') (by omega))
  exact Option.some.inj this
theorem checkDigit_9 (s : ByteArray) : ∃ v, Ev (fun k => spec_CheckDigit.f k s) v ∧ Ev (fun k => impl_CheckDigit.f k s) v ∧ v ≤ 9 := by
  obtain ⟨v, h1, h2⟩ := checkDigit_same s
  refine ⟨v, h1, h2, ?_⟩
  by_cases h : (s.size : Int) = 10
  · obtain ⟨w, w1, w2⟩ := digit_of s (by omega) 0 (by omega) 0
    have : Ev (fun k => spec_CheckDigit.f k s) w := by
      simp only [spec_CheckDigit.f]; exact ev_t h w1
    rw [ev_uniq h1 this]; exact w2
  · have : Ev (fun k => spec_CheckDigit.f k s) (-1) := by
      simp only [spec_CheckDigit.f]; exact ev_f h (Ev.now _)
    rw [ev_uniq h1 this]; omega
theorem boxName_same (s : ByteArray) : ∃ v, Ev (fun k => spec_BoxName.f k s) v ∧ Ev (fun k => impl_BoxName.f k s) v := by
  simp only [spec_BoxName.f, impl_BoxName.f]
  by_cases h : (s.size : Int) = 11
  · obtain ⟨d, h1, h2, h3⟩ := checkDigit_9 (s.extract 0 10)
    have hb := bt_range s 10
    by_cases hd : d ≥ 0
    · refine ⟨bt s 10 == 48 + d, ev_t h (ev_t (by omega) (ev_t (by omega) (Ev.bind h1 (ev_t hd (ev_t (by omega) ?_))))), ev_t h (ev_t (by omega) (ev_t (by omega) (Ev.bind h2 (ev_t hd (ev_t (by omega) ?_)))))⟩
      · rw [wr (by omega), wr (by omega)]; exact Ev.now _
      · rw [wr (by omega), show (48 + d) % 256 = 48 + d by omega]; exact Ev.now _
    · exact ⟨false, ev_t h (ev_t (by omega) (ev_t (by omega) (Ev.bind h1 (ev_f hd (Ev.now _))))), ev_t h (ev_t (by omega) (ev_t (by omega) (Ev.bind h2 (ev_f hd (Ev.now _)))))⟩
  · exact ⟨false, ev_f h (Ev.now _), ev_f h (Ev.now _)⟩
theorem boxOk_same (n : ByteArray) (w c : Int) (d : Bool) (f t : Int) : ∃ v, Ev (fun k => spec_BoxOk.f k n w c d f t) v ∧ Ev (fun k => impl_BoxOk.f k n w c d f t) v := by
  obtain ⟨v, h1, h2⟩ := boxName_same n
  refine ⟨v && (inB w 1 40000 && (inB c 0 9 && (inB f 0 19 && inB t (f + 1) 19))), ?_, ?_⟩
  · simp only [spec_BoxOk.f, l1In_eq, Option.bind_some]
    refine Ev.bind h1 ?_
    cases v with
    | false => exact Ev.now _
    | true =>
    cases inB w 1 40000 with
    | false => exact Ev.now _
    | true =>
    cases inB c 0 9 with
    | false => exact Ev.now _
    | true =>
    cases h : inB f 0 19 with
    | false => exact Ev.now _
    | true =>
      have := inB_t.1 h
      rw [wr (by omega)]
      exact Ev.now _
  · simp only [impl_BoxOk.f, impl_portOk.f, in_eq, Option.bind_some]
    refine Ev.bind h2 ?_
    cases v with
    | false => exact Ev.now _
    | true =>
    cases inB w 1 40000 with
    | false => exact Ev.now _
    | true =>
    cases inB c 0 9 with
    | false => exact Ev.now _
    | true =>
    cases h : inB f 0 19 with
    | false => exact Ev.now _
    | true =>
      have hf := inB_t.1 h
      refine ev_t rfl (ev_t rfl (ev_t rfl (ev_t rfl ?_)))
      have e : (inB t 0 19 && decide (f < t)) = inB t (f + 1) 19 := by
        rw [Bool.eq_iff_iff]; simp only [Bool.and_eq_true, inB_t, decide_eq_true_eq]; omega
      simp only [Bool.true_and, ← e]
      cases inB t 0 19 with
      | false => exact Ev.now _
      | true => exact Ev.now _
noncomputable def boxV (x : S48) : Bool := Classical.choose (boxOk_same x.f0 x.f1 x.f2 x.f3 x.f4 x.f5)
theorem boxV1 (x : S48) : Ev (fun k => spec_BoxOk.f k x.f0 x.f1 x.f2 x.f3 x.f4 x.f5) (boxV x) := (Classical.choose_spec (boxOk_same x.f0 x.f1 x.f2 x.f3 x.f4 x.f5)).1
theorem boxV2 (x : S48) : Ev (fun k => impl_BoxOk.f k x.f0 x.f1 x.f2 x.f3 x.f4 x.f5) (boxV x) := (Classical.choose_spec (boxOk_same x.f0 x.f1 x.f2 x.f3 x.f4 x.f5)).2
theorem stack_l0 (l : List S48) (m : Int) (hl : l.length ≤ 20) : ∀ i : Nat, i ≤ l.length → ∀ s, ∃ v, Ev (fun k => spec_StackOk.l0 k l m s i) v ∧ (inB m 0 1000000 = true → Ev (fun k => impl_StackOk.l0 k l m s l l.length i) v) ∧ (inB m 0 1000000 = false → v = false) := by
  refine down ?_ ?_
  · intro s
    by_cases h : inB m 0 1000000 = true
    rotate_left
    · replace h : inB m 0 1000000 = false := by simpa using h
      refine ⟨false, Ev.step (fun _ => rfl) ?_, fun h2 => by (rw [h] at h2; cases h2), fun _ => rfl⟩
      simp only [spec_StackOk.l0, l1In_eq, Option.bind_some, h]
      exact ev_f (by omega) (ev_f (by simp) (Ev.now _))
    · refine ⟨decide (s ≤ m), Ev.step (fun _ => rfl) ?_, fun _ => Ev.step (fun _ => rfl) ?_, fun h2 => by (rw [h] at h2; cases h2)⟩
      · simp only [spec_StackOk.l0, l1In_eq, Option.bind_some, h]
        exact ev_f (by omega) (ev_t (by first | rfl | trivial) (Ev.now _))
      · simp only [impl_StackOk.l0]
        exact ev_f (by omega) (Ev.now _)
  · intro i hi ih s
    obtain ⟨v, v1, v2, v3⟩ := ih (wrap64 (s + (rd_T48 l i).f1))
    have e1 : Ev (fun k => if (rd_T48 l i).f3 = true then (if (i : Int) > 1 then (some false) else (spec_StackOk.l0 k l m (wrap64 (s + ((rd_T48 l i).f1))) (wrap64 ((i : Int) + 1)))) else (spec_StackOk.l0 k l m (wrap64 (s + ((rd_T48 l i).f1))) (wrap64 ((i : Int) + 1)))) (!((rd_T48 l i).f3 && decide ((i : Int) > 1)) && v) := by
      rw [wr (x := (i : Int) + 1) (by omega)]
      by_cases c : (rd_T48 l i).f3 = true
      · refine ev_t c ?_
        by_cases d : (i : Int) > 1
        · refine ev_t d ?_
          have d' : 1 < (i : Int) := d
          simpa [c, d'] using Ev.now false
        · refine ev_f d ?_
          rw [c, decide_eq_false d]; simpa using v1
      · refine ev_f c ?_
        have c' : (rd_T48 l i).f3 = false := by simpa using c
        rw [c']; simpa using v1
    have e2 : inB m 0 1000000 = true → Ev (fun k => if (rd_T48 l i).f3 = true then (if (i : Int) > 1 then (some false) else (impl_StackOk.l0 k l m (wrap64 (s + ((rd_T48 l i).f1))) l l.length (wrap64 ((i : Int) + 1)))) else (impl_StackOk.l0 k l m (wrap64 (s + ((rd_T48 l i).f1))) l l.length (wrap64 ((i : Int) + 1)))) (!((rd_T48 l i).f3 && decide ((i : Int) > 1)) && v) := by
      intro hm
      rw [wr (x := (i : Int) + 1) (by omega)]
      have v2 := v2 hm
      by_cases c : (rd_T48 l i).f3 = true
      · refine ev_t c ?_
        by_cases d : (i : Int) > 1
        · refine ev_t d ?_
          have d' : 1 < (i : Int) := d
          simpa [c, d'] using Ev.now false
        · refine ev_f d ?_
          rw [c, decide_eq_false d]; simpa using v2
      · refine ev_f c ?_
        have c' : (rd_T48 l i).f3 = false := by simpa using c
        rw [c']; simpa using v2
    have b1 := boxV1 (rd_T48 l i)
    have b2 := boxV2 (rd_T48 l i)
    cases hb : boxV (rd_T48 l i) with
    | false =>
      rw [hb] at b1 b2
      refine ⟨false, Ev.step (fun _ => rfl) ?_, fun hm => Ev.step (fun _ => rfl) ?_, fun _ => rfl⟩
      · simp only [spec_StackOk.l0]
        exact ev_t (by omega) (ev_t (by omega) (ev_f (by omega) (Ev.bind b1 (ev_f (by simp) (Ev.now _)))))
      · simp only [impl_StackOk.l0]
        exact ev_t (by omega) (ev_t (by omega) (ev_t (by omega) (Ev.bind b2 (ev_f (by simp) (Ev.now _)))))
    | true =>
      rw [hb] at b1 b2
      by_cases h0 : 0 < i
      · by_cases hw : (rd_T48 l ((i : Int) - 1)).f1 < (rd_T48 l i).f1
        · refine ⟨false, Ev.step (fun _ => rfl) ?_, fun hm => Ev.step (fun _ => rfl) ?_, fun _ => rfl⟩
          · simp only [spec_StackOk.l0]
            rw [wr (x := (i : Int) - 1) (by omega)]
            exact ev_t (by omega) (ev_t (by omega) (ev_f (by omega) (Ev.bind b1 (ev_t rfl (ev_t (by omega) (ev_t (by omega) (ev_t (by omega) (ev_t hw (Ev.now _)))))))))
          · simp only [impl_StackOk.l0]
            rw [wr (x := (i : Int) - 1) (by omega)]
            exact ev_t (by omega) (ev_t (by omega) (ev_t (by omega) (Ev.bind b2 (ev_t rfl (ev_t (by omega) (ev_t (by omega) (ev_t (by omega) (ev_t hw (Ev.now _)))))))))
        · refine ⟨(!((rd_T48 l i).f3 && decide ((i : Int) > 1)) && v), Ev.step (fun _ => rfl) ?_, fun hm => Ev.step (fun _ => rfl) ?_, fun hm => by rw [v3 hm, Bool.and_false]⟩
          · simp only [spec_StackOk.l0]
            rw [wr (x := (i : Int) - 1) (by omega)]
            exact ev_t (by omega) (ev_t (by omega) (ev_f (by omega) (Ev.bind b1 (ev_t rfl (ev_t (by omega) (ev_t (by omega) (ev_t (by omega) (ev_f hw e1))))))))
          · simp only [impl_StackOk.l0]
            rw [wr (x := (i : Int) - 1) (by omega)]
            exact ev_t (by omega) (ev_t (by omega) (ev_t (by omega) (Ev.bind b2 (ev_t rfl (ev_t (by omega) (ev_t (by omega) (ev_t (by omega) (ev_f hw (e2 hm)))))))))
      · refine ⟨(!((rd_T48 l i).f3 && decide ((i : Int) > 1)) && v), Ev.step (fun _ => rfl) ?_, fun hm => Ev.step (fun _ => rfl) ?_, fun hm => by rw [v3 hm, Bool.and_false]⟩
        · simp only [spec_StackOk.l0]
          exact ev_t (by omega) (ev_t (by omega) (ev_f (by omega) (Ev.bind b1 (ev_t rfl (ev_f (by omega) e1)))))
        · simp only [impl_StackOk.l0]
          exact ev_t (by omega) (ev_t (by omega) (ev_t (by omega) (Ev.bind b2 (ev_t rfl (ev_f (by omega) (e2 hm))))))
theorem stack_same (l : List S48) (m : Int) : ∃ v, Ev (fun k => spec_StackOk.f k l m) v ∧ Ev (fun k => impl_StackOk.f k l m) v := by
  by_cases h : (l.length : Int) > 20
  · refine ⟨false, ?_, by simp only [impl_StackOk.f]; exact ev_t h (Ev.now _)⟩
    simp only [spec_StackOk.f]
    refine Ev.step (fun _ => rfl) ?_
    simp only [spec_StackOk.l0]
    exact ev_t (by omega) (ev_t (by omega) (ev_t h (Ev.now _)))
  · obtain ⟨v, v1, v2, v3⟩ := stack_l0 l m (by omega) 0 (Nat.zero_le _) 0
    refine ⟨v, by simp only [spec_StackOk.f]; exact v1, ?_⟩
    simp only [impl_StackOk.f, in_eq, Option.bind_some]
    refine ev_f h ?_
    cases hm : inB m 0 1000000 with
    | false => rw [v3 hm]; exact ev_f (by simp) (Ev.now _)
    | true => exact ev_t (by first | rfl | trivial) (v2 hm)
theorem apart_ev (a b : Int) (ha : inB a 0 9 = true) (hb : inB b 0 9 = true) : ∃ v, Ev (fun k => spec_Apart.f k a b) v ∧ Ev (fun k => impl_Apart.f k a b) v ∧ (v = 0 ∨ v = 1 ∨ v = 2 ∨ v = 3) := by
  have h1 := inB_t.1 ha; have h2 := inB_t.1 hb
  have key : ∀ m : Fin 10, ∀ n : Fin 10, (spec_Apart.f 5 (m.1 : Int) (n.1 : Int)).isSome = true ∧ impl_Apart.f 5 (m.1 : Int) (n.1 : Int) = spec_Apart.f 5 (m.1 : Int) (n.1 : Int) ∧ (spec_Apart.f 5 (m.1 : Int) (n.1 : Int) = some 0 ∨ spec_Apart.f 5 (m.1 : Int) (n.1 : Int) = some 1 ∨ spec_Apart.f 5 (m.1 : Int) (n.1 : Int) = some 2 ∨ spec_Apart.f 5 (m.1 : Int) (n.1 : Int) = some 3) := by
    decide +kernel
  obtain ⟨k1, k2, k3⟩ := key ⟨a.toNat, by omega⟩ ⟨b.toNat, by omega⟩
  simp only at k1 k2 k3
  rw [Int.toNat_of_nonneg h1.1, Int.toNat_of_nonneg h2.1] at k1 k2 k3
  obtain ⟨v, hv⟩ := Option.isSome_iff_exists.1 k1
  refine ⟨v, Ev.of (spec_Apart.mono _ _) hv, Ev.of (impl_Apart.mono _ _) (k := 5) (by rw [k2]; exact hv), ?_⟩
  rw [hv] at k3
  rcases k3 with h | h | h | h <;> (injection h with h; omega)
theorem boxV_c (x : S48) (h : boxV x = true) : inB x.f2 0 9 = true := by
  have b := boxV2 x
  obtain ⟨v, _, n2⟩ := boxName_same x.f0
  rw [h] at b
  have : Ev (fun k => impl_BoxOk.f k x.f0 x.f1 x.f2 x.f3 x.f4 x.f5) (v && (inB x.f1 1 40000 && (inB x.f2 0 9 && (inB x.f4 0 19 && (inB x.f5 0 19 && decide (x.f4 < x.f5)))))) := by
    simp only [impl_BoxOk.f, impl_portOk.f, in_eq, Option.bind_some]
    refine Ev.bind n2 ?_
    cases v <;> cases inB x.f1 1 40000 <;> cases inB x.f2 0 9 <;> cases inB x.f4 0 19 <;> cases inB x.f5 0 19 <;> exact Ev.now _
  have e := ev_uniq b this
  simp only [Bool.true_eq, Bool.and_eq_true] at e
  exact e.2.2.1
theorem keeps_same (x y : S48) (p0 p1 p2 q0 q1 q2 : Int) : ∃ v, Ev (fun k => spec_KeepsApart.f k x.f0 x.f1 x.f2 x.f3 x.f4 x.f5 p0 p1 p2 y.f0 y.f1 y.f2 y.f3 y.f4 y.f5 q0 q1 q2) v ∧ Ev (fun k => impl_KeepsApart.f k x.f0 x.f1 x.f2 x.f3 x.f4 x.f5 p0 p1 p2 y.f0 y.f1 y.f2 y.f3 y.f4 y.f5 q0 q1 q2) v := by
  have sp1 : ∀ a b c, spec_l11Spot.f a b c = some (inB a 0 19 && (inB b 0 19 && inB c 0 19)) := by
    intro a b c
    simp only [spec_l11Spot.f, l1In_eq, Option.bind_some]
    cases inB a 0 19 <;> cases inB b 0 19 <;> cases inB c 0 19 <;> rfl
  have sp2 : ∀ a b c, impl_spotOk.f a b c = some (inB a 0 19 && (inB b 0 19 && inB c 0 19)) := by
    intro a b c
    simp only [impl_spotOk.f, in_eq, Option.bind_some]
    cases inB a 0 19 <;> cases inB b 0 19 <;> cases inB c 0 19 <;> rfl
  have sz : ∀ a, spec_l3Size.f a = impl_size.f a := fun a => rfl
  have szs : ∀ a, ∃ v, impl_size.f a = some v := by
    intro a; simp only [impl_size.f]; split <;> exact ⟨_, rfl⟩
  obtain ⟨s0, e0⟩ := szs (wrap64 (p0 - q0))
  obtain ⟨s1, e1⟩ := szs (wrap64 (p1 - q1))
  obtain ⟨s2, e2⟩ := szs (wrap64 (p2 - q2))
  have ap : ∃ u v, Ev (fun k => spec_Apart.f k x.f2 y.f2) u ∧ Ev (fun k => impl_Apart.f k x.f2 y.f2) v ∧ (boxV x = true → boxV y = true → u = v ∧ (v = 0 ∨ v = 1 ∨ v = 2 ∨ v = 3)) := by
    by_cases h : inB x.f2 0 9 = true ∧ inB y.f2 0 9 = true
    · obtain ⟨v, h1, h2, h3⟩ := apart_ev x.f2 y.f2 h.1 h.2
      exact ⟨v, v, h1, h2, fun _ _ => ⟨rfl, h3⟩⟩
    · refine ⟨-1, -1, ?_, ?_, fun hx hy => absurd ⟨boxV_c x hx, boxV_c y hy⟩ h⟩
      · refine Ev.of (spec_Apart.mono _ _) (k := 5) ?_
        simp only [spec_Apart.f, l1In_eq, Option.bind_some]
        cases ha : inB x.f2 0 9 <;> cases hb : inB y.f2 0 9 <;> simp_all [spec_Apart.j0]
      · refine Ev.of (impl_Apart.mono _ _) (k := 5) ?_
        simp only [impl_Apart.f, in_eq, Option.bind_some]
        cases ha : inB x.f2 0 9 <;> cases hb : inB y.f2 0 9 <;> simp_all [impl_Apart.j0]
  obtain ⟨u, v, hu, hv, huv⟩ := ap
  have g1 : Ev (fun k => spec_KeepsApart.f k x.f0 x.f1 x.f2 x.f3 x.f4 x.f5 p0 p1 p2 y.f0 y.f1 y.f2 y.f3 y.f4 y.f5 q0 q1 q2) (!(!boxV x || (!boxV y || (!(inB p0 0 19 && (inB p1 0 19 && inB p2 0 19)) || (!(inB q0 0 19 && (inB q1 0 19 && inB q2 0 19)) || (p0 == q0 && (p1 == q1 && (p2 == q2))))))) && spec_KeepsApart.val u s0 s1 s2) := by
    simp only [spec_KeepsApart.f, sp1, sz, e0, e1, e2, Option.bind_some]
    exact Ev.bind (boxV1 x) (Ev.bind (boxV1 y) (Ev.bind hu (Ev.now _)))
  have g2 : Ev (fun k => impl_KeepsApart.f k x.f0 x.f1 x.f2 x.f3 x.f4 x.f5 p0 p1 p2 y.f0 y.f1 y.f2 y.f3 y.f4 y.f5 q0 q1 q2) (!(!boxV x || (!boxV y || (!(inB p0 0 19 && (inB p1 0 19 && inB p2 0 19)) || (!(inB q0 0 19 && (inB q1 0 19 && inB q2 0 19)) || (p0 == q0 && (p1 == q1 && (p2 == q2))))))) && impl_KeepsApart.val v s0 s1 s2) := by
    simp only [impl_KeepsApart.f, sp2, e0, e1, e2, Option.bind_some]
    exact Ev.bind (boxV2 x) (Ev.bind (boxV2 y) (Ev.bind hv (Ev.now _)))
  refine ⟨_, g1, ?_⟩
  cases hx : boxV x with
  | false => rw [hx] at g2; exact g2
  | true =>
  cases hy : boxV y with
  | false => rw [hx, hy] at g2; exact g2
  | true =>
    obtain ⟨rfl, h3⟩ := huv hx hy
    have e : spec_KeepsApart.val u s0 s1 s2 = impl_KeepsApart.val u s0 s1 s2 := by
      unfold spec_KeepsApart.val impl_KeepsApart.val
      rcases h3 with h | h | h | h <;> subst h <;> simp
    rw [hx, hy] at g2
    rw [e]; exact g2
theorem allFrom_list {α : Type} (l : List α) (d : α) (p : α → Bool) : allFrom (fun i => p (l.getD i d)) 0 l.length = l.all p := by
  rw [Bool.eq_iff_iff, allFrom_iff, List.all_eq_true]
  constructor
  · intro h x hx
    obtain ⟨i, hi, rfl⟩ := List.mem_iff_getElem.1 hx
    have := h i (by omega) (by omega)
    rwa [getD_at l d hi] at this
  · intro h j _ hj
    rw [getD_at l d (by omega)]
    exact h _ (List.getElem_mem _)
theorem all_any {α : Type} (l : List α) (p : α → Bool) : (!(l.any fun x => !p x)) = l.all p := by
  induction l with
  | nil => rfl
  | cons x l ih => simp only [List.any_cons, List.all_cons, Bool.not_or, ih, Bool.not_not]
def hatchB (x : S45) : Bool := inB x.f0 1 6 && (inB x.f1 1 6 && (inB x.f2 0 1000000 && inB x.f3 0 36))
theorem hatch_lit (x : S45) : impl_HatchesOk_1.f x.f0 x.f1 x.f2 x.f3 = some (!hatchB x) := by
  simp only [impl_HatchesOk_1.f, in_eq, Option.bind_some, hatchB]
  cases inB x.f0 1 6 <;> cases inB x.f1 1 6 <;> cases inB x.f2 0 1000000 <;> cases inB x.f3 0 36 <;> rfl
theorem hatch_cf (l : List S45) : cf_impl_HatchesOk_1.f l = some (l.any fun x => !hatchB x) := by
  simp only [cf_impl_HatchesOk_1.f, hatch_lit]
  rw [if_pos (by simp)]
  congr 2
  funext x
  cases hatchB x <;> rfl
theorem hatches1 (l : List S45) (hl : l.length ≤ 1048576) : Ev (fun k => spec_HatchesOk.f k l) (l.all hatchB && inB l.length 1 6) := by
  simp only [spec_HatchesOk.f]
  rw [← allFrom_list l z45]
  refine ev_all (g := fun k i => spec_HatchesOk.l0 k l i) (fun i => hatchB (l.getD i z45)) _ ?_ ?_
  · refine Ev.step (fun _ => rfl) ?_
    simp only [spec_HatchesOk.l0, l1In_eq, Option.bind_some]
    exact ev_f (by omega) (Ev.now _)
  · intro i hi r ih
    refine Ev.step (fun _ => rfl) ?_
    simp only [spec_HatchesOk.l0, l1In_eq, Option.bind_some, rd_T45, Int.toNat_natCast]
    refine ev_t (by omega) (ev_t (by omega) ?_)
    rw [wr (by omega)]
    generalize l.getD i z45 = x
    unfold hatchB
    cases inB x.f0 1 6 with
    | false => exact Ev.now false
    | true =>
    cases inB x.f1 1 6 with
    | false => exact Ev.now false
    | true =>
    cases inB x.f2 0 1000000 with
    | false => exact Ev.now false
    | true =>
    cases inB x.f3 0 36 with
    | false => exact Ev.now false
    | true => simpa using ih
theorem hatches2 (l : List S45) : impl_HatchesOk.f l = some (l.all hatchB && inB l.length 1 6) := by
  simp only [impl_HatchesOk.f, in_eq, hatch_cf, Option.bind_some, all_any]
  cases inB (l.length : Int) 1 6 <;> simp
def cHatch (x : S47) : S45 := ⟨x.f0, x.f1, x.f2, x.f3⟩
theorem toHatchS_ev (l : List S47) (hl : l.length ≤ 8796093022208) : Ev (fun k => laws_toHatchS.f k l) (l.map cHatch) := by
  have key : ∀ i, i ≤ l.length → Ev (fun k => laws_toHatchS.l0 k l ((l.take i).map cHatch ++ List.replicate (l.length - i) z45) (i : Int)) (l.map cHatch) := by
    refine down ?_ ?_
    · rw [fill_all]
      refine Ev.step (fun _ => rfl) ?_
      simp only [laws_toHatchS.l0]
      exact ev_f (by omega) (Ev.now _)
    · intro i hi ih
      refine Ev.step (fun _ => rfl) ?_
      simp only [laws_toHatchS.l0, laws_toHatch.f, Option.bind_some]
      refine ev_t (by omega) (ev_t (by omega) (ev_t (by simp; omega) ?_))
      rw [wr (by omega), Int.toNat_natCast, set_fill l cHatch z45 i hi _ (by simp [rd_T47, hi, cHatch])]
      exact ih
  have h0 := key 0 (Nat.zero_le _)
  rw [fill_none] at h0
  simp only [laws_toHatchS.f]
  refine ev_t (by omega) (ev_t (by omega) ?_)
  simpa using h0
theorem eqHatchS_ev (l : List S45) (hl : l.length ≤ 8796093022208) : Ev (fun k => laws_eqHatchS.f k l l) true := by
  have key : ∀ i, i ≤ l.length → Ev (fun k => laws_eqHatchS.l0 k l l (i : Int)) true := by
    refine down ?_ ?_
    · refine Ev.step (fun _ => rfl) ?_
      simp only [laws_eqHatchS.l0]
      exact ev_f (by omega) (Ev.now _)
    · intro i hi ih
      refine Ev.step (fun _ => rfl) ?_
      simp only [laws_eqHatchS.l0, laws_eqHatch.f, if_true, Bool.not_true, bne_self_eq_false, Bool.false_eq_true, if_false, Option.bind_some]
      refine ev_t (by omega) (ev_t (by omega) (ev_t (by omega) ?_))
      rw [wr (by omega)]
      exact ih
  simp only [laws_eqHatchS.f]
  exact ev_t (by first | rfl | trivial) (key 0 (Nat.zero_le _))
def cStow (x : S41) : S51 := ⟨⟨x.f0.f0, x.f0.f1, x.f0.f2, x.f0.f3, x.f0.f4, x.f0.f5⟩, ⟨x.f1.f0, x.f1.f1, x.f1.f2⟩⟩
theorem toStowS_ev (l : List S41) (hl : l.length ≤ 3518437208883) : Ev (fun k => laws_toStowS.f k l) (l.map cStow) := by
  have key : ∀ i, i ≤ l.length → Ev (fun k => laws_toStowS.l0 k l ((l.take i).map cStow ++ List.replicate (l.length - i) z51) (i : Int)) (l.map cStow) := by
    refine down ?_ ?_
    · rw [fill_all]
      refine Ev.step (fun _ => rfl) ?_
      simp only [laws_toStowS.l0]
      exact ev_f (by omega) (Ev.now _)
    · intro i hi ih
      refine Ev.step (fun _ => rfl) ?_
      simp only [laws_toStowS.l0, laws_toStow.f, laws_toBox.f, laws_toSpot.f, Option.bind_some]
      refine ev_t (by omega) (ev_t (by omega) (ev_t (by simp; omega) ?_))
      rw [wr (by omega), Int.toNat_natCast, set_fill l cStow z51 i hi _ (by simp [rd_T41, hi, cStow])]
      exact ih
  have h0 := key 0 (Nat.zero_le _)
  rw [fill_none] at h0
  simp only [laws_toStowS.f]
  refine ev_t (by omega) (ev_t (by omega) ?_)
  simpa using h0
theorem eqStowS_ev (l : List S51) (hl : l.length ≤ 3518437208883) : Ev (fun k => laws_eqStowS.f k l l) true := by
  have key : ∀ i, i ≤ l.length → Ev (fun k => laws_eqStowS.l0 k l l (i : Int)) true := by
    refine down ?_ ?_
    · refine Ev.step (fun _ => rfl) ?_
      simp only [laws_eqStowS.l0]
      exact ev_f (by omega) (Ev.now _)
    · intro i hi ih
      refine Ev.step (fun _ => rfl) ?_
      simp only [laws_eqStowS.l0, laws_eqStow.f, laws_eqBox.f, laws_eqSpot.f, if_true, Bool.not_true, bne_self_eq_false, Bool.false_eq_true, if_false, Option.bind_some]
      refine ev_t (by omega) (ev_t (by omega) (ev_t (by omega) ?_))
      rw [wr (by omega)]
      exact ih
  simp only [laws_eqStowS.f]
  exact ev_t (by first | rfl | trivial) (key 0 (Nat.zero_le _))
theorem szStowS_ev (l : List S41) (hg : ∀ x ∈ l, x.f0.f0.size ≤ 9223372036854775807) (hl : l.length ≤ 9223372036854775807) (b : Int) (hb0 : 0 ≤ b) (hb1 : b ≤ 1048576) : ∃ v, Ev (fun k => laws_szStowS.f k l b) v ∧ (0 ≤ v → l.length ≤ 1048576) := by
  simp only [laws_szStowS.f]
  rw [wr (by omega)]
  by_cases h : (l.length : Int) ≤ b
  · have key : ∀ i, i ≤ l.length → ∀ a : Int, 0 ≤ a → a ≤ 1048576 → ∃ v, Ev (fun k => laws_szStowS.l0 k l a (i : Int)) v := by
      refine down ?_ ?_
      · intro a _ _
        refine ⟨a, Ev.step (fun _ => rfl) ?_⟩
        simp only [laws_szStowS.l0]
        exact ev_f (by omega) (Ev.now _)
      · intro i hi ih a h0 h1
        have hs : (rd_T41 l i).f0.f0.size ≤ 9223372036854775807 := by
          simp only [rd_T41, Int.toNat_natCast, getD_at l z41 hi]
          exact hg _ (List.getElem_mem _)
        by_cases c : a - ((rd_T41 l i).f0.f0.size : Int) < 0
        · refine ⟨-1, Ev.step (fun _ => rfl) ?_⟩
          simp only [laws_szStowS.l0, laws_szStow.f, laws_szBox.f]
          rw [wr (x := a - ((rd_T41 l i).f0.f0.size : Int)) (by omega), if_pos c]
          exact ev_t (by omega) (ev_t (by omega) (Ev.bind (a := -1) (Ev.now _) (ev_t (by omega) (Ev.now _))))
        · obtain ⟨v, hv⟩ := ih (a - ((rd_T41 l i).f0.f0.size : Int)) (by omega) (by omega)
          refine ⟨v, Ev.step (fun _ => rfl) ?_⟩
          simp only [laws_szStowS.l0, laws_szStow.f, laws_szBox.f]
          rw [wr (x := a - ((rd_T41 l i).f0.f0.size : Int)) (by omega), if_neg c, wr (x := (i : Int) + 1) (by omega)]
          refine ev_t (by omega) (ev_t (by omega) (Ev.bind (a := a - ((rd_T41 l i).f0.f0.size : Int)) ?_ (ev_f (by omega) hv)))
          simp only [Option.bind_some]
          exact ev_f (by omega) (Ev.now _)
    obtain ⟨v, hv⟩ := key 0 (Nat.zero_le _) (b - (l.length : Int)) (by omega) (by omega)
    exact ⟨v, ev_f (by omega) hv, fun _ => by omega⟩
  · exact ⟨-1, ev_t (by omega) (Ev.now _), fun h => by omega⟩
theorem rd51 {l : List S51} {i : Nat} (hi : i < l.length) : l[i] = rd_T51 l (i : Int) := by simp [rd_T51, hi]
def atP (b r t : Int) (y : S51) : Bool := y.f1.f0 == b && (y.f1.f1 == r && (y.f1.f2 == t))
theorem l12At_ev (l : List S51) (hl : l.length ≤ 1048576) (b r t : Int) : ∃ v, Ev (fun k => spec_l12At.f k l b r t) v ∧ ((v = -1 ∧ l.find? (atP b r t) = none) ∨ (0 ≤ v ∧ v < l.length ∧ l.find? (atP b r t) = some (rd_T51 l v))) := by
  have key : ∀ i, i ≤ l.length → ∃ v, Ev (fun k => spec_l12At.l0 k l (i : Int) b r t) v ∧ ((v = -1 ∧ (l.drop i).find? (atP b r t) = none) ∨ (0 ≤ v ∧ v < l.length ∧ (l.drop i).find? (atP b r t) = some (rd_T51 l v))) := by
    refine down ?_ ?_
    · refine ⟨-1, Ev.step (fun _ => rfl) ?_, Or.inl ⟨rfl, by simp⟩⟩
      simp only [spec_l12At.l0]
      exact ev_f (by omega) (Ev.now _)
    · intro i hi ih
      have hd : l.drop i = rd_T51 l (i : Int) :: l.drop (i + 1) := by rw [List.drop_eq_getElem_cons hi, rd51 hi]
      rw [hd]
      cases hq : atP b r t (rd_T51 l (i : Int)) with
      | true =>
        refine ⟨(i : Int), Ev.step (fun _ => rfl) ?_, Or.inr ⟨by omega, by omega, by simp [hq]⟩⟩
        simp only [spec_l12At.l0]
        exact ev_t (by omega) (ev_t (by omega) (ev_t hq (Ev.now _)))
      | false =>
        obtain ⟨v, h1, h2⟩ := ih
        refine ⟨v, Ev.step (fun _ => rfl) ?_, by simpa [hq] using h2⟩
        simp only [spec_l12At.l0]
        rw [wr (x := (i : Int) + 1) (by omega)]
        exact ev_t (by omega) (ev_t (by omega) (ev_f (by unfold atP at hq; rw [hq]; decide) h1))
  simpa [spec_l12At.f] using key 0 (Nat.zero_le _)
theorem l12Cold_ev (l : List S51) (hl : l.length ≤ 1048576) (b : Int) : Ev (fun k => spec_l12Cold.f k l b) ((l.countP (impl_StowCode.icy b) : Nat) : Int) := by
  have key : ∀ i, i ≤ l.length → ∀ n : Nat, n ≤ i → Ev (fun k => spec_l12Cold.l0 k l b (n : Int) (i : Int)) (((n + (l.drop i).countP (impl_StowCode.icy b) : Nat)) : Int) := by
    refine down ?_ ?_
    · intro n _
      refine Ev.step (fun _ => rfl) ?_
      simp only [spec_l12Cold.l0, List.drop_length, List.countP_nil, Nat.add_zero]
      exact ev_f (by omega) (Ev.now _)
    · intro i hi ih n hn
      have hd : l.drop i = rd_T51 l (i : Int) :: l.drop (i + 1) := by rw [List.drop_eq_getElem_cons hi, rd51 hi]
      rw [hd, List.countP_cons]
      refine Ev.step (fun _ => rfl) ?_
      simp only [spec_l12Cold.l0]
      rw [wr (x := (i : Int) + 1) (by omega), wr (x := (n : Int) + 1) (by omega)]
      refine ev_t (by omega) (ev_t (by omega) ?_)
      by_cases h1 : (rd_T51 l (i : Int)).f1.f0 = b
      · refine ev_t h1 ?_
        cases h2 : (rd_T51 l (i : Int)).f0.f3 with
        | true =>
          refine ev_t (by first | rfl | trivial) ?_
          have h3 := ih (n + 1) (by omega)
          rw [if_pos (show impl_StowCode.icy b (rd_T51 l (i : Int)) = true by simp [impl_StowCode.icy, h1, h2])]
          rw [show n + ((l.drop (i + 1)).countP (impl_StowCode.icy b) + 1) = n + 1 + (l.drop (i + 1)).countP (impl_StowCode.icy b) by omega]
          exact h3
        | false =>
          refine ev_f (by simp) ?_
          rw [if_neg (show ¬ impl_StowCode.icy b (rd_T51 l (i : Int)) = true by simp [impl_StowCode.icy, h2])]
          exact ih n (by omega)
      · refine ev_f h1 ?_
        rw [if_neg (show ¬ impl_StowCode.icy b (rd_T51 l (i : Int)) = true by simp [impl_StowCode.icy, h1])]
        exact ih n (by omega)
  simpa [spec_l12Cold.f] using key 0 (Nat.zero_le _) 0 (Nat.le_refl _)
/-- The boxes of a bay and row from tier t on, m tiers. -/
def pick (l : List S51) (b r : Int) : Nat → Nat → List S51
  | 0, _ => []
  | m + 1, t => match l.find? (atP b r (t : Int)) with
    | some y => y :: pick l b r m (t + 1)
    | none => pick l b r m (t + 1)
theorem l12Stack_ev (l : List S51) (hl : l.length ≤ 1048576) (b r : Int) : Ev (fun k => spec_l12Stack.f k l b r) ((pick l b r 20 0).map fun y => y.f0) := by
  have key : ∀ t, t ≤ 20 → ∀ acc : List S48, acc.length ≤ t → Ev (fun k => spec_l12Stack.l0 k l b r acc (t : Int)) (acc ++ (pick l b r (20 - t) t).map fun y => y.f0) := by
    refine down ?_ ?_
    · intro acc _
      refine Ev.step (fun _ => rfl) ?_
      simp only [spec_l12Stack.l0]
      refine ev_f (by omega) ?_
      simpa [pick] using Ev.now acc
    · intro t ht ih acc ha
      obtain ⟨v, h1, h2⟩ := l12At_ev l hl b r (t : Int)
      rw [show 20 - t = (20 - (t + 1)) + 1 by omega, pick]
      refine Ev.step (fun _ => rfl) ?_
      simp only [spec_l12Stack.l0]
      rw [wr (x := (t : Int) + 1) (by omega)]
      refine ev_t (by omega) (Ev.bind h1 ?_)
      rcases h2 with ⟨h3, h4⟩ | ⟨h3, h4, h5⟩
      · rw [h4]
        exact ev_f (by omega) (ih acc (by omega))
      · rw [h5]
        refine ev_t h3 (ev_t h3 (ev_t h4 (ev_t (by omega) ?_)))
        have h6 := ih (acc ++ [(rd_T51 l v).f0]) (by simp; omega)
        simpa using h6
  simpa [spec_l12Stack.f] using key 0 (Nat.zero_le _) [] (Nat.le_refl _)
def inRow (b r : Int) (y : S51) : Bool := y.f1.f0 == b && y.f1.f1 == r
theorem stackOf_ev (l : List S51) (hl : l.length ≤ 1048576) (b r : Int) (h0 : 0 < (l.filter (inRow b r)).length) (h12 : (l.filter (inRow b r)).length ≤ 12) : Ev (fun k => impl_stackOf.f k l b r) ((impl_StowCode.srt (l.filter (inRow b r))).map fun y => y.f0) := by
  generalize hF : l.filter (inRow b r) = F at h0 h12
  have hsl : (impl_StowCode.srt F).length = F.length := by simp [impl_StowCode.srt]
  have back : ∀ j, j ≤ (impl_StowCode.srt F).length → ∀ acc : List S48, acc.length ≤ j → Ev (fun k => impl_stackOf.l1 k acc (impl_StowCode.srt F) ((impl_StowCode.srt F).length : Int) (j : Int)) (acc ++ ((impl_StowCode.srt F).drop j).map fun y => y.f0) := by
    generalize impl_StowCode.srt F = s at hsl
    refine down ?_ ?_
    · intro acc _
      refine Ev.step (fun _ => rfl) ?_
      simp only [impl_stackOf.l1]
      refine ev_f (by omega) ?_
      simpa using Ev.now acc
    · intro j hj ih acc ha
      have hd : s.drop j = rd_T51 s (j : Int) :: s.drop (j + 1) := by rw [List.drop_eq_getElem_cons hj, rd51 hj]
      rw [hd]
      refine Ev.step (fun _ => rfl) ?_
      simp only [impl_stackOf.l1]
      rw [wr (x := (j : Int) + 1) (by omega)]
      refine ev_t (by omega) (ev_t (by omega) (ev_t (by omega) (ev_t (by omega) ?_)))
      have h6 := ih (acc ++ [(rd_T51 s (j : Int)).f0]) (by simp; omega)
      simpa using h6
  have key : ∀ i, i ≤ l.length → ∀ acc : List S51, acc ++ (l.drop i).filter (inRow b r) = F → Ev (fun k => impl_stackOf.l0 k b r acc l (l.length : Int) (i : Int)) ((impl_StowCode.srt F).map fun y => y.f0) := by
    refine down ?_ ?_
    · intro acc ha
      rw [List.drop_length, List.filter_nil, List.append_nil] at ha
      subst ha
      refine Ev.step (fun _ => rfl) ?_
      simp only [impl_stackOf.l0]
      refine ev_f (by omega) (ev_t ⟨h0, h12⟩ ?_)
      simpa using back 0 (Nat.zero_le _) [] (Nat.le_refl _)
    · intro i hi ih acc ha
      have hd : l.drop i = rd_T51 l (i : Int) :: l.drop (i + 1) := by rw [List.drop_eq_getElem_cons hi, rd51 hi]
      rw [hd, List.filter_cons] at ha
      refine Ev.step (fun _ => rfl) ?_
      simp only [impl_stackOf.l0]
      rw [wr (x := (i : Int) + 1) (by omega)]
      refine ev_t (by omega) (ev_t (by omega) (ev_t (by omega) ?_))
      by_cases c1 : (rd_T51 l (i : Int)).f1.f0 = b
      · refine ev_t c1 ?_
        by_cases c2 : (rd_T51 l (i : Int)).f1.f1 = r
        · refine ev_t c2 ?_
          rw [if_pos (by simp [inRow, c1, c2])] at ha
          have hlen : acc.length ≤ F.length := by rw [← ha]; simp
          exact ev_t (by omega) (ih (acc ++ [rd_T51 l (i : Int)]) (by rw [← ha]; simp))
        · refine ev_f c2 (ih acc ?_)
          rw [if_neg (by simp [inRow, c2])] at ha
          exact ha
      · refine ev_f c1 (ih acc ?_)
        rw [if_neg (by simp [inRow, c1])] at ha
        exact ha
  simpa [impl_stackOf.f] using key 0 (Nat.zero_le _) [] (by simpa using hF)
def tr (x : S51) : Int := x.f1.f2
theorem cf_neg (x y : S51) : impl_StowCode.cf x y < 0 ↔ tr x < tr y := by
  unfold impl_StowCode.cf tr
  by_cases h : x.f1.f2 < y.f1.f2
  · rw [if_pos h]; exact ⟨fun _ => h, fun _ => by omega⟩
  · rw [if_neg h]
    by_cases h2 : x.f1.f2 > y.f1.f2
    · rw [if_pos h2]; exact ⟨fun e => by omega, fun e => absurd e h⟩
    · rw [if_neg h2]; exact ⟨fun e => by omega, fun e => absurd e h⟩
/-- The places up to i are different in their tiers. -/
def Inj (i : Nat) (g : Nat → S51) : Prop := ∀ s t, s ≤ i → t ≤ i → tr (g s) = tr (g t) → s = t
def Srt (i : Nat) (g : Nat → S51) : Prop := ∀ s t, s < t → t ≤ i → tr (g s) < tr (g t)
def Mem (i : Nat) (g : Nat → S51) (v : S51) : Prop := ∃ t, t ≤ i ∧ g t = v
theorem sw_inj {i j : Nat} {g : Nat → S51} (hj : j + 1 ≤ i) (h : Inj i g) : Inj i (impl_StowCode.sw g (j + 1) j) := by
  intro s t hs ht e
  unfold impl_StowCode.sw at e
  by_cases a1 : s = j
  · rw [if_pos a1] at e
    by_cases b1 : t = j
    · omega
    · rw [if_neg b1] at e
      by_cases b2 : t = j + 1
      · rw [if_pos b2] at e; have := h _ _ (by omega) (by omega) e; omega
      · rw [if_neg b2] at e; have := h _ _ (by omega) (by omega) e; omega
  · rw [if_neg a1] at e
    by_cases a2 : s = j + 1
    · rw [if_pos a2] at e
      by_cases b1 : t = j
      · rw [if_pos b1] at e; have := h _ _ (by omega) (by omega) e; omega
      · rw [if_neg b1] at e
        by_cases b2 : t = j + 1
        · omega
        · rw [if_neg b2] at e; have := h _ _ (by omega) (by omega) e; omega
    · rw [if_neg a2] at e
      by_cases b1 : t = j
      · rw [if_pos b1] at e; have := h _ _ (by omega) (by omega) e; omega
      · rw [if_neg b1] at e
        by_cases b2 : t = j + 1
        · rw [if_pos b2] at e; have := h _ _ (by omega) (by omega) e; omega
        · rw [if_neg b2] at e; exact h _ _ hs ht e
theorem sw_a (g : Nat → S51) (j : Nat) : impl_StowCode.sw g (j + 1) j j = g (j + 1) := by simp [impl_StowCode.sw]
theorem sw_b (g : Nat → S51) (j : Nat) : impl_StowCode.sw g (j + 1) j (j + 1) = g j := by simp [impl_StowCode.sw]
theorem sw_c (g : Nat → S51) (j t : Nat) (h1 : t ≠ j) (h2 : t ≠ j + 1) : impl_StowCode.sw g (j + 1) j t = g t := by simp [impl_StowCode.sw, h1, h2]
theorem sw_mem {i j : Nat} {g : Nat → S51} (hj : j + 1 ≤ i) (v : S51) : Mem i (impl_StowCode.sw g (j + 1) j) v ↔ Mem i g v := by
  constructor
  · rintro ⟨t, ht, e⟩
    by_cases h1 : t = j
    · subst h1; rw [sw_a] at e; exact ⟨t + 1, hj, e⟩
    · by_cases h2 : t = j + 1
      · subst h2; rw [sw_b] at e; exact ⟨j, by omega, e⟩
      · rw [sw_c g j t h1 h2] at e; exact ⟨t, ht, e⟩
  · rintro ⟨t, ht, e⟩
    by_cases h1 : t = j
    · subst h1; exact ⟨t + 1, hj, by rw [sw_b]; exact e⟩
    · by_cases h2 : t = j + 1
      · subst h2; exact ⟨j, by omega, by rw [sw_a]; exact e⟩
      · exact ⟨t, ht, by rw [sw_c g j t h1 h2]; exact e⟩
theorem insI_ok (i : Nat) : ∀ (j : Nat) (g : Nat → S51), j ≤ i → Inj i g → (∀ s t, s < t → t ≤ i → s ≠ j → t ≠ j → tr (g s) < tr (g t)) → (∀ t, j < t → t ≤ i → tr (g j) < tr (g t)) → Inj i (impl_StowCode.insI impl_StowCode.cf 0 j g) ∧ Srt i (impl_StowCode.insI impl_StowCode.cf 0 j g) ∧ (∀ v, Mem i (impl_StowCode.insI impl_StowCode.cf 0 j g) v ↔ Mem i g v) ∧ ∀ t, i < t → impl_StowCode.insI impl_StowCode.cf 0 j g t = g t
  | 0, g, hj, hd, h1, h2 => by
    refine ⟨hd, fun s t hs ht => ?_, fun v => Iff.rfl, fun t _ => rfl⟩
    rw [impl_StowCode.insI]
    by_cases c : s = 0
    · subst c; exact h2 t hs ht
    · exact h1 s t hs ht c (by omega)
  | j + 1, g, hj, hd, h1, h2 => by
    rw [impl_StowCode.insI]
    by_cases c : tr (g (j + 1)) < tr (g j)
    · rw [if_pos ⟨by omega, (cf_neg _ _).2 c⟩]
      obtain ⟨k1, k2, k3, k4⟩ := insI_ok i j (impl_StowCode.sw g (j + 1) j) (by omega) (sw_inj hj hd) (by
        intro s t hs ht n1 n2
        by_cases e1 : s = j + 1
        · subst e1
          rw [sw_b, sw_c g j t (by omega) (by omega)]
          exact h1 j t (by omega) ht (by omega) (by omega)
        · rw [sw_c g j s n1 e1]
          by_cases e2 : t = j + 1
          · subst e2
            rw [sw_b]
            exact h1 s j (by omega) (by omega) e1 (by omega)
          · rw [sw_c g j t n2 e2]
            exact h1 s t hs ht e1 e2) (by
        intro t ht1 ht2
        rw [sw_a]
        by_cases e2 : t = j + 1
        · subst e2; rw [sw_b]; exact c
        · rw [sw_c g j t (by omega) e2]; exact h2 t (by omega) ht2)
      exact ⟨k1, k2, fun v => (k3 v).trans (sw_mem hj v), fun t ht => by rw [k4 t ht, sw_c g j t (by omega) (by omega)]⟩
    · rw [if_neg (fun e => c ((cf_neg _ _).1 e.2))]
      refine ⟨hd, fun s t hs ht => ?_, fun v => Iff.rfl, fun t _ => rfl⟩
      have hlt : tr (g j) < tr (g (j + 1)) := by
        have : tr (g j) ≠ tr (g (j + 1)) := fun e => by have := hd _ _ (by omega) hj e; omega
        omega
      by_cases e1 : s = j + 1
      · subst e1; exact h2 t hs ht
      · by_cases e2 : t = j + 1
        · subst e2
          by_cases e3 : s = j
          · subst e3; exact hlt
          · have := h1 s j (by omega) (by omega) e1 (by omega); omega
        · exact h1 s t hs ht e1 e2
theorem insO_ok (n : Nat) : ∀ (c i : Nat) (g : Nat → S51), i + c = n + 1 → 1 ≤ i → Inj n g → (∀ s t, s < t → t < i → tr (g s) < tr (g t)) → Srt n (impl_StowCode.insO impl_StowCode.cf 0 c i g) ∧ ∀ v, Mem n (impl_StowCode.insO impl_StowCode.cf 0 c i g) v ↔ Mem n g v
  | 0, i, g, hi, _, _, h => ⟨fun s t hs ht => h s t hs (by omega), fun v => Iff.rfl⟩
  | c + 1, i, g, hi, h1, hd, h => by
    rw [impl_StowCode.insO]
    obtain ⟨k1, k2, k3, k4⟩ := insI_ok i i g (Nat.le_refl _) (fun s t hs ht => hd s t (by omega) (by omega)) (fun s t hs ht n1 n2 => h s t hs (by omega)) (fun t ht ht2 => by omega)
    have hm : ∀ v, Mem n (impl_StowCode.insI impl_StowCode.cf 0 i g) v ↔ Mem n g v := by
      intro v
      constructor
      · rintro ⟨t, ht, e⟩
        by_cases hti : t ≤ i
        · obtain ⟨t', h1', e'⟩ := (k3 v).1 ⟨t, hti, e⟩; exact ⟨t', by omega, e'⟩
        · rw [k4 t (by omega)] at e; exact ⟨t, ht, e⟩
      · rintro ⟨t, ht, e⟩
        by_cases hti : t ≤ i
        · obtain ⟨t', h1', e'⟩ := (k3 v).2 ⟨t, hti, e⟩; exact ⟨t', by omega, e'⟩
        · exact ⟨t, ht, by rw [k4 t (by omega)]; exact e⟩
    have hdn : Inj n (impl_StowCode.insI impl_StowCode.cf 0 i g) := by
      intro s t hs ht e
      by_cases hsi : s ≤ i
      · by_cases hti : t ≤ i
        · exact k1 s t hsi hti e
        · rw [k4 t (by omega)] at e
          obtain ⟨s', h1', e'⟩ := (k3 _).1 ⟨s, hsi, rfl⟩
          rw [← e'] at e
          have := hd s' t (by omega) ht e
          omega
      · rw [k4 s (by omega)] at e
        by_cases hti : t ≤ i
        · obtain ⟨t', h1', e'⟩ := (k3 _).1 ⟨t, hti, rfl⟩
          rw [← e'] at e
          have := hd s t' hs (by omega) e
          omega
        · rw [k4 t (by omega)] at e
          exact hd s t hs ht e
    obtain ⟨j1, j2⟩ := insO_ok n c (i + 1) _ (by omega) (by omega) hdn (fun s t hs ht => k2 s t hs (by omega))
    exact ⟨j1, fun v => (j2 v).trans (hm v)⟩
/-- Two rows in the order of their tiers that hold the same boxes are the same. -/
theorem same_sorted : ∀ (l m : List S51), l.Pairwise (fun a b => tr a < tr b) → m.Pairwise (fun a b => tr a < tr b) → (∀ v, v ∈ l ↔ v ∈ m) → l = m
  | [], [], _, _, _ => rfl
  | [], b :: m, _, _, h => by have := (h b).2 List.mem_cons_self; cases this
  | a :: l, [], _, _, h => by have := (h a).1 List.mem_cons_self; cases this
  | a :: l, b :: m, hl, hm, h => by
    rw [List.pairwise_cons] at hl hm
    have hab : a = b := by
      rcases List.mem_cons.1 ((h a).1 List.mem_cons_self) with e | e
      · exact e
      · rcases List.mem_cons.1 ((h b).2 List.mem_cons_self) with e2 | e2
        · exact e2.symm
        · have h1 := hm.1 a e
          have h2 := hl.1 b e2
          omega
    subst hab
    congr 1
    refine same_sorted l m hl.2 hm.2 fun v => ?_
    constructor
    · intro hv
      rcases List.mem_cons.1 ((h v).1 (List.mem_cons_of_mem _ hv)) with e | e
      · subst e; have := hl.1 v hv; omega
      · exact e
    · intro hv
      rcases List.mem_cons.1 ((h v).2 (List.mem_cons_of_mem _ hv)) with e | e
      · subst e; have := hm.1 v hv; omega
      · exact e
theorem srt_ok (F : List S51) (h0 : 0 < F.length) (hd : F.Pairwise (fun a b => tr a ≠ tr b)) : (impl_StowCode.srt F).Pairwise (fun a b => tr a < tr b) ∧ ∀ v, v ∈ impl_StowCode.srt F ↔ v ∈ F := by
  obtain ⟨n, hn⟩ : ∃ n, F.length = n + 1 := ⟨F.length - 1, by omega⟩
  have hg : ∀ t (ht : t < F.length), F.getD t z51 = F[t] := fun t ht => by simp [List.getD, ht]
  have hinj : Inj n (fun t => F.getD t z51) := by
    intro s t hs ht e
    simp only at e
    rw [hg s (by omega), hg t (by omega)] at e
    rw [List.pairwise_iff_getElem] at hd
    rcases Nat.lt_trichotomy s t with h | h | h
    · exact absurd e (hd s t (by omega) (by omega) h)
    · exact h
    · exact absurd e.symm (hd t s (by omega) (by omega) h)
  obtain ⟨k1, k2⟩ := insO_ok n n 1 (fun t => F.getD t z51) (by omega) (Nat.le_refl _) hinj (fun s t hs ht => by omega)
  unfold impl_StowCode.srt
  rw [hn, Nat.add_sub_cancel]
  refine ⟨?_, fun v => ?_⟩
  · rw [List.pairwise_map]
    refine List.Pairwise.imp_of_mem (R := fun a b => a < b) ?_ List.pairwise_lt_range
    intro a b ha hb hab
    rw [List.mem_range] at hb
    exact k1 a b hab (by omega)
  · rw [List.mem_map]
    constructor
    · rintro ⟨t, ht, e⟩
      rw [List.mem_range] at ht
      obtain ⟨t', h1, e'⟩ := (k2 v).1 ⟨t, by omega, e⟩
      simp only at e'
      rw [hg t' (by omega)] at e'
      rw [← e']
      exact List.getElem_mem _
    · intro hv
      obtain ⟨t, ht, e⟩ := List.mem_iff_getElem.1 hv
      obtain ⟨t', h1, e'⟩ := (k2 v).2 ⟨t, by omega, by show F.getD t z51 = v; rw [hg t ht]; exact e⟩
      exact ⟨t', List.mem_range.2 (by omega), e'⟩
theorem pick_tier (l : List S51) (b r : Int) : ∀ m t v, v ∈ pick l b r m t → (t : Int) ≤ tr v ∧ tr v < (t : Int) + m ∧ l.find? (atP b r (tr v)) = some v
  | 0, t, v, h => by cases h
  | m + 1, t, v, h => by
    rw [pick] at h
    have ih := pick_tier l b r m (t + 1) v
    cases hf : l.find? (atP b r (t : Int)) with
    | none =>
      rw [hf] at h
      obtain ⟨h1, h2, h3⟩ := ih h
      exact ⟨by omega, by omega, h3⟩
    | some y =>
      rw [hf] at h
      have hy : tr y = (t : Int) := by
        have := List.find?_some hf
        simp [atP] at this
        exact this.2.2
      rcases List.mem_cons.1 h with e | e
      · subst e
        exact ⟨by omega, by omega, by rw [hy]; exact hf⟩
      · obtain ⟨h1, h2, h3⟩ := ih e
        exact ⟨by omega, by omega, h3⟩
theorem pick_sorted (l : List S51) (b r : Int) : ∀ m t, (pick l b r m t).Pairwise (fun a b => tr a < tr b)
  | 0, t => List.Pairwise.nil
  | m + 1, t => by
    rw [pick]
    cases hf : l.find? (atP b r (t : Int)) with
    | none => exact pick_sorted l b r m (t + 1)
    | some y =>
      have hy : tr y = (t : Int) := by
        have := List.find?_some hf
        simp [atP] at this
        exact this.2.2
      refine List.Pairwise.cons (fun v hv => ?_) (pick_sorted l b r m (t + 1))
      have := (pick_tier l b r m (t + 1) v hv).1
      omega
theorem pick_has (l : List S51) (b r : Int) : ∀ m t (s : Nat) v, t ≤ s → s < t + m → l.find? (atP b r (s : Int)) = some v → v ∈ pick l b r m t
  | 0, t, s, v, h1, h2, _ => by omega
  | m + 1, t, s, v, h1, h2, h => by
    rw [pick]
    by_cases e : s = t
    · subst e; rw [h]; exact List.mem_cons_self
    · have := pick_has l b r m (t + 1) s v (by omega) (by omega) h
      cases l.find? (atP b r (t : Int)) with
      | none => exact this
      | some y => exact List.mem_cons_of_mem _ this
/-- The boxes of a row, sorted, are those that are picked tier by tier. -/
theorem srt_pick (l : List S51) (b r : Int) (hu : l.Pairwise (fun x y => x.f1 ≠ y.f1)) (ht : ∀ y ∈ l, 0 ≤ tr y ∧ tr y < 20) (h0 : 0 < (l.filter (inRow b r)).length) : impl_StowCode.srt (l.filter (inRow b r)) = pick l b r 20 0 := by
  have hmem : ∀ v, v ∈ l.filter (inRow b r) ↔ v ∈ l ∧ v.f1.f0 = b ∧ v.f1.f1 = r := by
    intro v; simp [List.mem_filter, inRow]
  have huniq : ∀ x ∈ l, ∀ y ∈ l, x.f1 = y.f1 → x = y := by
    intro x hx y hy e
    obtain ⟨i, hi, ei⟩ := List.mem_iff_getElem.1 hx
    obtain ⟨j, hj, ej⟩ := List.mem_iff_getElem.1 hy
    rw [List.pairwise_iff_getElem] at hu
    rcases Nat.lt_trichotomy i j with h | h | h
    · exact absurd (by rw [ei, ej]; exact e) (hu i j hi hj h)
    · subst h; rw [← ei, ← ej]
    · exact absurd (by rw [ei, ej]; exact e.symm) (hu j i hj hi h)
  have hd : (l.filter (inRow b r)).Pairwise (fun a b => tr a ≠ tr b) := by
    refine List.Pairwise.imp_of_mem (R := fun x y => x.f1 ≠ y.f1) ?_ (hu.filter _)
    intro x y hx hy hne e
    have h1 := (hmem x).1 hx
    have h2 := (hmem y).1 hy
    refine hne ?_
    cases hxx : x.f1 with
    | mk a1 a2 a3 =>
      cases hyy : y.f1 with
      | mk c1 c2 c3 =>
        rw [hxx] at h1; rw [hyy] at h2
        unfold tr at e; rw [hxx, hyy] at e
        simp only at h1 h2 e
        rw [h1.2.1, h1.2.2, h2.2.1, h2.2.2, e]
  obtain ⟨s1, s2⟩ := srt_ok _ h0 hd
  refine same_sorted _ _ s1 (pick_sorted l b r 20 0) fun v => ?_
  rw [s2 v, hmem v]
  constructor
  · rintro ⟨h1, h2, h3⟩
    have htv := ht v h1
    refine pick_has l b r 20 0 (tr v).toNat v (Nat.zero_le _) (by omega) ?_
    rw [Int.toNat_of_nonneg htv.1]
    cases hf : l.find? (atP b r (tr v)) with
    | none =>
      rw [List.find?_eq_none] at hf
      exact absurd (by simp [atP, h2, h3, tr]) (hf v h1)
    | some y =>
      have hy := List.find?_some hf
      have hyl := List.mem_of_find?_eq_some hf
      simp only [atP, Bool.and_eq_true, beq_iff_eq] at hy
      congr 1
      refine huniq y hyl v h1 ?_
      cases hxx : y.f1 with
      | mk a1 a2 a3 =>
        cases hyy : v.f1 with
        | mk c1 c2 c3 =>
          rw [hxx] at hy; rw [hyy] at h2 h3
          unfold tr at hy; rw [hyy] at hy
          simp only at hy h2 h3
          rw [hy.1, hy.2.1, hy.2.2, h2, h3]
  · intro hv
    obtain ⟨h1, h2, h3⟩ := pick_tier l b r 20 0 v hv
    have hy := List.find?_some h3
    have hyl := List.mem_of_find?_eq_some h3
    simp only [atP, Bool.and_eq_true, beq_iff_eq] at hy
    exact ⟨hyl, hy.1, hy.2.1⟩
/-- A list of numbers below m, all different, is not longer than m. -/
theorem pigeon : ∀ (m : Nat) (l : List Int), l.Pairwise (fun a b => a ≠ b) → (∀ x ∈ l, 0 ≤ x ∧ x < (m : Int)) → l.length ≤ m
  | 0, l, _, h => by
    cases l with
    | nil => exact Nat.le_refl _
    | cons a l => have := h a List.mem_cons_self; omega
  | m + 1, l, hd, h => by
    have h1 := pigeon m (l.filter (fun x => decide (x ≠ (m : Int)))) (hd.filter _) (by
      intro x hx
      rw [List.mem_filter] at hx
      have := h x hx.1
      have h2 : x ≠ (m : Int) := by simpa using hx.2
      omega)
    have h2 : ∀ l : List Int, l.Pairwise (fun a b => a ≠ b) → l.length ≤ (l.filter (fun x => decide (x ≠ (m : Int)))).length + 1 := by
      intro l
      induction l with
      | nil => intro _; simp
      | cons a l ih =>
        intro hp
        rw [List.pairwise_cons] at hp
        rw [List.filter_cons]
        by_cases e : a = (m : Int)
        · rw [if_neg (by simp [e])]
          have : l.filter (fun x => decide (x ≠ (m : Int))) = l := by
            rw [List.filter_eq_self]
            intro x hx
            have := hp.1 x hx
            simpa [← e] using Ne.symm this
          rw [this]; simp
        · rw [if_pos (by simpa using e)]
          have := ih hp.2
          simp only [List.length_cons]
          omega
    have := h2 l hd
    omega
noncomputable def bV (x : S51) : Bool := boxV x.f0
noncomputable def kV (x y : S51) : Bool := Classical.choose (keeps_same y.f0 x.f0 y.f1.f0 y.f1.f1 y.f1.f2 x.f1.f0 x.f1.f1 x.f1.f2)
theorem kV1 (x y : S51) : Ev (fun k => spec_l12Fails.ka k x y) (kV x y) := (Classical.choose_spec (keeps_same y.f0 x.f0 y.f1.f0 y.f1.f1 y.f1.f2 x.f1.f0 x.f1.f1 x.f1.f2)).1
theorem kV2 (x y : S51) : Ev (fun k => impl_StowCode.ka k x y) (kV x y) := (Classical.choose_spec (keeps_same y.f0 x.f0 y.f1.f0 y.f1.f1 y.f1.f2 x.f1.f0 x.f1.f1 x.f1.f2)).2
noncomputable def tV (s : List S48) (m : Int) : Bool := Classical.choose (stack_same s m)
theorem tV1 (s : List S48) (m : Int) : Ev (fun k => spec_StackOk.f k s m) (tV s m) := (Classical.choose_spec (stack_same s m)).1
theorem tV2 (s : List S48) (m : Int) : Ev (fun k => impl_StackOk.f k s m) (tV s m) := (Classical.choose_spec (stack_same s m)).2
/-- All at once. -/
theorem ev_all_mem {α β : Type} (f : Nat → α → Option β) (v : α → β) : ∀ l : List α, (∀ x ∈ l, Ev (fun k => f k x) (v x)) → ∃ K, ∀ k, K ≤ k → ∀ x ∈ l, f k x = some (v x)
  | [], _ => ⟨0, fun _ _ x hx => by cases hx⟩
  | a :: l, h => by
    obtain ⟨K1, h1⟩ := h a List.mem_cons_self
    obtain ⟨K2, h2⟩ := ev_all_mem f v l fun x hx => h x (List.mem_cons_of_mem _ hx)
    refine ⟨K1 + K2, fun k hk x hx => ?_⟩
    rcases List.mem_cons.1 hx with e | e
    · subst e; exact h1 k (by omega)
    · exact h2 k (by omega) x e
noncomputable def rV (l0 : List S45) (l1 : List S51) : Bool := (List.range l1.length).all fun j => bV (rd_T51 l1 j) && (!((l1.take j).any (impl_StowCode.twice (rd_T51 l1 j))) && (!impl_StowCode.spot l0 (rd_T51 l1 j) && !impl_StowCode.floats l1 (rd_T51 l1 j)))
noncomputable def sV (l0 : List S45) (l1 : List S51) (x : S51) : Bool := tV ((pick l1 x.f1.f0 x.f1.f1 20 0).map fun y => y.f0) (rd_T45 l0 x.f1.f0).f2
noncomputable def FV (l0 : List S45) (l1 : List S51) (c i : Nat) : Bool := match c with
  | 1 => !bV (rd_T51 l1 i)
  | 2 => (l1.take i).any (impl_StowCode.twice (rd_T51 l1 i))
  | 3 => impl_StowCode.spot l0 (rd_T51 l1 i)
  | 4 => impl_StowCode.floats l1 (rd_T51 l1 i)
  | 5 => rV l0 l1 && !sV l0 l1 (rd_T51 l1 i)
  | 6 => impl_StowCode.cold l0 l1 (rd_T51 l1 i)
  | _ => (l1.take i).any fun y => !kV (rd_T51 l1 i) y
theorem rd_mem {l : List S51} {i : Nat} (h : i < l.length) : rd_T51 l (i : Int) ∈ l := by rw [← rd51 h]; exact List.getElem_mem _
theorem spot_f {l0 : List S45} {x : S51} (hn : l0.length ≤ 1048576) (h : impl_StowCode.spot l0 x = false) : (0 ≤ x.f1.f0 ∧ x.f1.f0 < (l0.length : Int)) ∧ (0 ≤ x.f1.f1 ∧ x.f1.f1 ≤ wrap64 ((rd_T45 l0 x.f1.f0).f0 - 1)) ∧ (0 ≤ x.f1.f2 ∧ x.f1.f2 ≤ wrap64 ((rd_T45 l0 x.f1.f0).f1 - 1)) := by
  unfold impl_StowCode.spot at h
  rw [Bool.or_eq_false_iff, Bool.or_eq_false_iff, show wrap64 ((l0.length : Int) - 1) = (l0.length : Int) - 1 by unfold wrap64; omega] at h
  simp only [impl_StowCode.inb, Bool.not_eq_false', Bool.and_eq_true, decide_eq_true_eq] at h
  obtain ⟨h1, h2, h3⟩ := h
  exact ⟨⟨h1.1, by omega⟩, h2, h3⟩
/-- What holds of the list once the reasons 1 to 4 hold nowhere. -/
theorem ready_of {l0 : List S45} {l1 : List S51} (h : ∀ c, 1 ≤ c → c ≤ 4 → ∀ j, j < l1.length → FV l0 l1 c j = false) : rV l0 l1 = true := by
  unfold rV
  rw [List.all_eq_true]
  intro j hj
  rw [List.mem_range] at hj
  have h1 : (!bV (rd_T51 l1 (j : Int))) = false := h 1 (by omega) (by omega) j hj
  have h2 : (l1.take j).any (impl_StowCode.twice (rd_T51 l1 (j : Int))) = false := h 2 (by omega) (by omega) j hj
  have h3 : impl_StowCode.spot l0 (rd_T51 l1 (j : Int)) = false := h 3 (by omega) (by omega) j hj
  have h4 : impl_StowCode.floats l1 (rd_T51 l1 (j : Int)) = false := h 4 (by omega) (by omega) j hj
  rw [h2, h3, h4]
  simpa using h1
theorem of_ready {l0 : List S45} {l1 : List S51} (h : rV l0 l1 = true) {j : Nat} (hj : j < l1.length) : (l1.take j).any (impl_StowCode.twice (rd_T51 l1 (j : Int))) = false ∧ impl_StowCode.spot l0 (rd_T51 l1 (j : Int)) = false := by
  unfold rV at h
  rw [List.all_eq_true] at h
  have h1 := h j (List.mem_range.2 hj)
  simp only [Bool.and_eq_true, Bool.not_eq_true'] at h1
  exact ⟨h1.2.1, h1.2.2.1⟩
theorem uniq_of {l0 : List S45} {l1 : List S51} (h : rV l0 l1 = true) : l1.Pairwise (fun x y => x.f1 ≠ y.f1) := by
  rw [List.pairwise_iff_getElem]
  intro i j hi hj hij e
  have h1 := (of_ready h hj).1
  rw [List.any_eq_false] at h1
  have h2 := h1 l1[i] (List.mem_of_getElem? (i := i) (by rw [List.getElem?_take_of_lt hij]; exact List.getElem?_eq_getElem hi))
  apply h2
  unfold impl_StowCode.twice impl_StowCode.same
  rw [← rd51 hj, e]
  simp
theorem tiers_of {l0 : List S45} {l1 : List S51} (hn : l0.length ≤ 1048576) (hh : l0.all hatchB = true) (h : rV l0 l1 = true) : ∀ y ∈ l1, 0 ≤ tr y ∧ tr y < 6 := by
  intro y hy
  obtain ⟨j, hj, ej⟩ := List.mem_iff_getElem.1 hy
  have h1 := (of_ready h hj).2
  rw [← rd51 hj, ej] at h1
  obtain ⟨h2, h3, h4⟩ := spot_f hn h1
  have hb : rd_T45 l0 y.f1.f0 ∈ l0 := by
    have hlt : y.f1.f0.toNat < l0.length := by omega
    have : l0[y.f1.f0.toNat] = rd_T45 l0 y.f1.f0 := by simp [rd_T45, hlt]
    rw [← this]; exact List.getElem_mem _
  have hhb := List.all_eq_true.1 hh _ hb
  unfold hatchB at hhb
  simp only [Bool.and_eq_true, inB_t] at hhb
  rw [wr (by omega)] at h4
  unfold tr
  omega
theorem row_len {l0 : List S45} {l1 : List S51} (hn : l0.length ≤ 1048576) (hh : l0.all hatchB = true) (h : rV l0 l1 = true) (b r : Int) : (l1.filter (inRow b r)).length ≤ 6 := by
  have hp := uniq_of h
  have ht := tiers_of hn hh h
  have h1 := pigeon 6 ((l1.filter (inRow b r)).map tr) (by
    rw [List.pairwise_map]
    refine List.Pairwise.imp_of_mem (R := fun x y => x.f1 ≠ y.f1) ?_ (hp.filter _)
    intro x y hx hy hne e
    simp only [List.mem_filter, inRow, Bool.and_eq_true, beq_iff_eq] at hx hy
    refine hne ?_
    cases hxx : x.f1 with
    | mk a1 a2 a3 =>
      cases hyy : y.f1 with
      | mk c1 c2 c3 =>
        rw [hxx] at hx; rw [hyy] at hy
        unfold tr at e; rw [hxx, hyy] at e
        simp only at hx hy e
        rw [hx.2.1, hx.2.2, hy.2.1, hy.2.2, e]) (by
    intro z hz
    obtain ⟨y, hy, rfl⟩ := List.mem_map.1 hz
    exact ht y (List.mem_filter.1 hy).1)
  simpa using h1
/-- impl's stack, once all is ready: the boxes picked tier by tier. -/
theorem stack_ev {l0 : List S45} {l1 : List S51} (hn : l0.length ≤ 1048576) (hl : l1.length ≤ 1048576) (hh : l0.all hatchB = true) (h : rV l0 l1 = true) {x : S51} (hx : x ∈ l1) : Ev (fun k => impl_StowCode.so k l0 l1 x) (sV l0 l1 x) := by
  have hxr : x ∈ l1.filter (inRow x.f1.f0 x.f1.f1) := List.mem_filter.2 ⟨hx, by simp [inRow]⟩
  have h0 : 0 < (l1.filter (inRow x.f1.f0 x.f1.f1)).length := List.length_pos_of_mem hxr
  have h6 := row_len hn hh h x.f1.f0 x.f1.f1
  have e1 := stackOf_ev l1 hl x.f1.f0 x.f1.f1 h0 (by omega)
  rw [srt_pick l1 x.f1.f0 x.f1.f1 (uniq_of h) (fun y hy => by have := tiers_of hn hh h y hy; omega) h0] at e1
  exact Ev.bind e1 (tV2 _ _)
/-- impl's whole answer. -/
theorem impl_ev (l0 : List S45) (l1 : List S51) (hn : l0.length ≤ 1048576) (hl : l1.length ≤ 40) (hh : l0.all hatchB = true) : ∃ K, ∀ k, K ≤ k → impl_StowCode.whole k l0 l1 = true ∧ ∀ c j, j < l1.length → impl_StowCode.fails k l0 l1 c j = FV l0 l1 c j := by
  obtain ⟨K1, b1⟩ := ev_all_mem (fun k x => impl_StowCode.bo k x) bV l1 fun x _ => boxV2 x.f0
  obtain ⟨K2, b2⟩ := ev_all_mem (fun k (p : S51 × S51) => impl_StowCode.ka k p.1 p.2) (fun p => kV p.1 p.2) (l1.flatMap fun x => l1.map fun y => (x, y)) fun p _ => kV2 p.1 p.2
  have b2' : ∀ k, K2 ≤ k → ∀ x ∈ l1, ∀ y ∈ l1, impl_StowCode.ka k x y = some (kV x y) := fun k hk x hx y hy => b2 k hk (x, y) (List.mem_flatMap.2 ⟨x, hx, List.mem_map.2 ⟨y, hy, rfl⟩⟩)
  obtain ⟨K3, b3⟩ : ∃ K3, ∀ k, K3 ≤ k → rV l0 l1 = true → ∀ x ∈ l1, impl_StowCode.so k l0 l1 x = some (sV l0 l1 x) := by
    by_cases hr : rV l0 l1 = true
    · obtain ⟨K3, b3⟩ := ev_all_mem (fun k x => impl_StowCode.so k l0 l1 x) (sV l0 l1) l1 fun x hx => stack_ev hn (by omega) hh hr hx
      exact ⟨K3, fun k hk _ => b3 k hk⟩
    · exact ⟨0, fun _ _ e => absurd e hr⟩
  refine ⟨K1 + K2 + K3, fun k hk => ?_⟩
  have c1 := b1 k (by omega)
  have c2 := b2' k (by omega)
  have c3 := b3 k (by omega)
  have hr : impl_StowCode.ready k l0 l1 = rV l0 l1 := by
    unfold impl_StowCode.ready rV
    rw [Bool.eq_iff_iff, List.all_eq_true, List.all_eq_true]
    constructor
    · intro h j hj
      have h2 := h j hj
      simp only [c1 _ (rd_mem (List.mem_range.1 hj))] at h2
      simpa using h2
    · intro h j hj
      have h2 := h j hj
      simp only [c1 _ (rd_mem (List.mem_range.1 hj))]
      simpa using h2
  refine ⟨?_, ?_⟩
  · unfold impl_StowCode.whole
    simp only [Bool.and_eq_true, List.all_eq_true, Bool.or_eq_true, Bool.not_eq_true']
    refine ⟨fun x hx => by rw [c1 x hx]; rfl, fun x hx y hy => by rw [c2 x hx y hy]; rfl, ?_⟩
    rw [hr]
    cases hrr : rV l0 l1 with
    | false => exact Or.inl rfl
    | true => exact Or.inr fun x hx => by rw [c3 hrr x hx]; rfl
  · intro c j hj
    have hm := rd_mem hj
    have last : ((l1.take j).any fun y => !(impl_StowCode.ka k (rd_T51 l1 (j : Int)) y == some true)) = (l1.take j).any fun y => !kV (rd_T51 l1 (j : Int)) y := by
      rw [Bool.eq_iff_iff, List.any_eq_true, List.any_eq_true]
      constructor
      · rintro ⟨y, hy, e⟩
        refine ⟨y, hy, ?_⟩
        rw [c2 _ hm y (List.mem_of_mem_take hy)] at e
        cases hk : kV (rd_T51 l1 (j : Int)) y <;> rw [hk] at e <;> simp_all
      · rintro ⟨y, hy, e⟩
        refine ⟨y, hy, ?_⟩
        rw [c2 _ hm y (List.mem_of_mem_take hy)]
        cases hk : kV (rd_T51 l1 (j : Int)) y <;> rw [hk] at e <;> simp_all
    rcases c with _ | _ | _ | _ | _ | _ | _ | c
    · exact last
    · show (!(impl_StowCode.bo k (rd_T51 l1 (j : Int)) == some true)) = !bV (rd_T51 l1 (j : Int))
      rw [c1 _ hm]; cases bV (rd_T51 l1 (j : Int)) <;> rfl
    · rfl
    · rfl
    · rfl
    · show (impl_StowCode.ready k l0 l1 && !(impl_StowCode.so k l0 l1 (rd_T51 l1 (j : Int)) == some true)) = (rV l0 l1 && !sV l0 l1 (rd_T51 l1 (j : Int)))
      rw [hr]
      cases hrr : rV l0 l1 with
      | false => rfl
      | true => rw [c3 hrr _ hm]; cases sV l0 l1 (rd_T51 l1 (j : Int)) <;> rfl
    · rfl
    · exact last
theorem inb_eq (a b c : Int) : impl_StowCode.inb a b c = inB a b c := rfl
/-- spec's reason c at place i, once the reasons ahead of it hold nowhere. -/
theorem fails_ev (l0 : List S45) (l1 : List S51) (hn : l0.length ≤ 1048576) (hl : l1.length ≤ 40) (hh : l0.all hatchB = true) (c : Nat) (h1 : 1 ≤ c) (h7 : c ≤ 7) (i : Nat) (hi : i < l1.length) (hp : ∀ c', 1 ≤ c' → c' < c → ∀ j, j < l1.length → FV l0 l1 c' j = false) : Ev (fun k => spec_l12Fails.f k l0 l1 (i : Int) (c : Int)) (FV l0 l1 c i) := by
  have hm := rd_mem hi
  unfold spec_l12Fails.f
  refine ev_t ⟨by omega, by omega⟩ ?_
  unfold spec_l12Fails.g
  rw [Int.toNat_natCast]
  have hsp : 3 < c → (0 ≤ (rd_T51 l1 (i : Int)).f1.f0 ∧ (rd_T51 l1 (i : Int)).f1.f0 < (l0.length : Int)) ∧ (0 ≤ (rd_T51 l1 (i : Int)).f1.f2 ∧ (rd_T51 l1 (i : Int)).f1.f2 ≤ 9223372036854775807) := by
    intro h3
    obtain ⟨a1, a2, a3⟩ := spot_f hn (hp 3 (by omega) h3 i hi)
    refine ⟨a1, a3.1, ?_⟩
    have : wrap64 ((rd_T45 l0 (rd_T51 l1 (i : Int)).f1.f0).f1 - 1) ≤ 9223372036854775807 := by unfold wrap64; omega
    omega
  have hrd : 4 < c → rV l0 l1 = true := fun h4 => ready_of fun c' g1 g4 => hp c' g1 (by omega)
  generalize hx : rd_T51 l1 (i : Int) = x at hm hsp
  obtain rfl | rfl | rfl | rfl | rfl | rfl | rfl : c = 1 ∨ c = 2 ∨ c = 3 ∨ c = 4 ∨ c = 5 ∨ c = 6 ∨ c = 7 := by omega
  · refine ev_t rfl ?_
    have hv : FV l0 l1 1 i = !bV x := by rw [← hx]; rfl
    rw [hv]
    exact Ev.bind (boxV1 x.f0) (Ev.now _)
  · refine ev_f (by decide) (ev_t rfl ?_)
    have hv : FV l0 l1 2 i = (l1.take i).any (impl_StowCode.twice x) := by rw [← hx]; rfl
    rw [hv]
    exact Ev.now _
  · refine ev_f (by decide) (ev_f (by decide) (ev_t rfl ?_))
    have hv : FV l0 l1 3 i = impl_StowCode.spot l0 x := by rw [← hx]; rfl
    rw [hv]
    unfold spec_l12Fails.g3 impl_StowCode.spot
    simp only [l1In_eq, Option.bind_some, inb_eq]
    have hw : wrap64 ((l0.length : Int) - 1) = (l0.length : Int) - 1 := by unfold wrap64; omega
    rw [hw]
    cases h : inB x.f1.f0 0 ((l0.length : Int) - 1) with
    | false => exact ev_f (by decide) (Ev.now _)
    | true =>
      have := inB_t.1 h
      refine ev_t rfl (ev_t ⟨this.1, by omega⟩ ?_)
      simpa using Ev.now _
  · refine ev_f (by decide) (ev_f (by decide) (ev_f (by decide) (ev_t rfl ?_)))
    have hv : FV l0 l1 4 i = impl_StowCode.floats l1 x := by rw [← hx]; rfl
    rw [hv]
    obtain ⟨_, hs1, hs2⟩ := hsp (by omega)
    unfold spec_l12Fails.g4
    have hw : wrap64 (x.f1.f2 - 1) = x.f1.f2 - 1 := by unfold wrap64; omega
    rw [hw]
    obtain ⟨v, e1, e2⟩ := l12At_ev l1 (by omega) x.f1.f0 x.f1.f1 (x.f1.f2 - 1)
    have hany : (l1.any fun y => impl_StowCode.same y.f1 ⟨x.f1.f0, x.f1.f1, x.f1.f2 - 1⟩) = !decide (v < 0) := by
      rcases e2 with ⟨e3, e4⟩ | ⟨e3, e4, e5⟩
      · rw [List.find?_eq_none] at e4
        rw [decide_eq_true (show v < 0 by omega)]
        rw [Bool.not_true, List.any_eq_false]
        exact fun y hy => e4 y hy
      · rw [decide_eq_false (show ¬ v < 0 by omega)]
        have h5 : atP x.f1.f0 x.f1.f1 (x.f1.f2 - 1) (rd_T51 l1 v) = true := List.find?_some e5
        exact List.any_eq_true.2 ⟨_, List.mem_of_find?_eq_some e5, h5⟩
    have hfin : impl_StowCode.floats l1 x = (decide (0 < x.f1.f2) && decide (v < 0)) := by
      unfold impl_StowCode.floats
      rw [hw, hany, Bool.not_not]
      congr 1
      rw [Bool.eq_iff_iff, decide_eq_true_eq, decide_eq_true_eq]
      omega
    rw [hfin]
    exact Ev.bind e1 (Ev.now _)
  · refine ev_f (by decide) (ev_f (by decide) (ev_f (by decide) (ev_f (by decide) (ev_t rfl ?_))))
    have hv : FV l0 l1 5 i = !sV l0 l1 x := by
      rw [← hx]
      show (rV l0 l1 && !sV l0 l1 (rd_T51 l1 (i : Int))) = _
      rw [hrd (by omega), Bool.true_and]
    rw [hv]
    unfold spec_l12Fails.g5
    exact Ev.bind (l12Stack_ev l1 (by omega) x.f1.f0 x.f1.f1) (ev_t (hsp (by omega)).1 (Ev.bind (tV1 _ _) (Ev.now _)))
  · refine ev_f (by decide) (ev_f (by decide) (ev_f (by decide) (ev_f (by decide) (ev_f (by decide) (ev_t rfl ?_)))))
    have hv : FV l0 l1 6 i = impl_StowCode.cold l0 l1 x := by rw [← hx]; rfl
    rw [hv]
    unfold spec_l12Fails.g6 impl_StowCode.cold
    exact Ev.bind (l12Cold_ev l1 (by omega) x.f1.f0) (ev_t (hsp (by omega)).1 (Ev.now _))
  · refine ev_f (by decide) (ev_f (by decide) (ev_f (by decide) (ev_f (by decide) (ev_f (by decide) (ev_f (by decide) ?_)))))
    have hv : FV l0 l1 7 i = (l1.take i).any fun y => !kV x y := by rw [← hx]; rfl
    rw [hv]
    obtain ⟨K, hK⟩ := ev_all_mem (fun k y => spec_l12Fails.ka k x y) (kV x) (l1.take i) fun y _ => kV1 x y
    refine ⟨K, fun k hk => ?_⟩
    have h := hK k hk
    unfold spec_l12Fails.g7
    show (if ((List.take i l1).all fun y => (spec_l12Fails.ka k x y).isSome) = true then some ((List.take i l1).any fun y => !(spec_l12Fails.ka k x y == some true)) else none) = _
    rw [if_pos (List.all_eq_true.2 fun y hy => by rw [h y hy]; rfl)]
    congr 1
    rw [Bool.eq_iff_iff, List.any_eq_true, List.any_eq_true]
    constructor
    · rintro ⟨y, hy, e⟩
      refine ⟨y, hy, ?_⟩
      rw [h y hy] at e
      cases hk : kV x y <;> rw [hk] at e <;> simp_all
    · rintro ⟨y, hy, e⟩
      refine ⟨y, hy, ?_⟩
      rw [h y hy]
      cases hk : kV x y <;> rw [hk] at e <;> simp_all
/-- spec's loops. -/
theorem codes_ev (l0 : List S45) (l1 : List S51) (hn : l0.length ≤ 1048576) (hl : l1.length ≤ 40) (hh : l0.all hatchB = true) : ∀ (m c : Nat), 1 ≤ c → c + m = 8 → (∀ c', 1 ≤ c' → c' < c → ∀ j, j < l1.length → FV l0 l1 c' j = false) → Ev (fun k => spec_StowCode.l0 k l0 l1 (c : Int)) (impl_StowCode.rows (FV l0 l1) l1.length m c)
  | 0, c, h1, hc, _ => by
    refine Ev.step (fun _ => rfl) ?_
    simp only [spec_StowCode.l0, impl_StowCode.rows]
    exact ev_f (by omega) (Ev.now _)
  | m + 1, c, h1, hc, hp => by
    refine Ev.step (fun _ => rfl) ?_
    simp only [spec_StowCode.l0]
    refine ev_t (by omega) ?_
    have key : ∀ i, i ≤ l1.length → (∀ j, j < i → FV l0 l1 c j = false) → Ev (fun k => spec_StowCode.l1 k l0 l1 (c : Int) (i : Int)) (match impl_StowCode.row (FV l0 l1 c) (l1.length - i) i with
        | some i => ((c : Int), (i : Int))
        | none => impl_StowCode.rows (FV l0 l1) l1.length m (c + 1)) := by
      refine down ?_ ?_
      · intro hall
        rw [Nat.sub_self, impl_StowCode.row]
        refine Ev.step (fun _ => rfl) ?_
        simp only [spec_StowCode.l1]
        rw [wr (x := (c : Int) + 1) (by omega)]
        refine ev_f (by omega) ?_
        exact codes_ev l0 l1 hn hl hh m (c + 1) (by omega) (by omega) fun c' g1 g2 j hj => by
          by_cases e : c' = c
          · subst e; exact hall j hj
          · exact hp c' g1 (by omega) j hj
      · intro i hi ih hall
        rw [show l1.length - i = (l1.length - (i + 1)) + 1 by omega, impl_StowCode.row]
        refine Ev.step (fun _ => rfl) ?_
        simp only [spec_StowCode.l1]
        rw [wr (x := (i : Int) + 1) (by omega)]
        refine ev_t (by omega) (Ev.bind (fails_ev l0 l1 hn hl hh c h1 (by omega) i hi hp) ?_)
        cases hf : FV l0 l1 c i with
        | true =>
          rw [if_pos rfl]
          exact ev_t rfl (Ev.now _)
        | false =>
          rw [if_neg (by decide)]
          refine ev_f (by decide) (ih fun j hj => ?_)
          by_cases e : j = i
          · subst e; exact hf
          · exact hall j (by omega)
    have h := key 0 (Nat.zero_le _) (fun j hj => absurd hj (Nat.not_lt_zero _))
    rw [impl_StowCode.rows]
    exact h
/-- Both answers. -/
theorem stow_same (l0 : List S45) (l1 : List S51) (hn : l0.length ≤ 1048576) (hl : l1.length ≤ 1048576) : ∃ v, Ev (fun k => spec_StowCode.f k l0 l1) v ∧ Ev (fun k => impl_StowCode.f k l0 l1) v := by
  have hs := hatches1 l0 hn
  have hi := hatches2 l0
  simp only [spec_StowCode.f, impl_StowCode.f, hi, Option.bind_some]
  cases hv : (l0.all hatchB && inB (l0.length : Int) 1 6) with
  | false =>
    rw [hv] at hs
    refine ⟨(1, 0), Ev.bind hs (ev_f (by decide) (Ev.step (fun _ => rfl) ?_)), ev_f (by decide) (Ev.now _)⟩
    simp only [spec_StowCode.j0]
    exact ev_t (by first | rfl | trivial) (Ev.now _)
  | true =>
    rw [hv] at hs
    have hh : l0.all hatchB = true := (Bool.and_eq_true_iff.1 hv).1
    by_cases c : (l1.length : Int) > 40
    · refine ⟨(1, 0), Ev.bind hs (ev_t rfl (Ev.step (fun _ => rfl) ?_)), ev_t rfl (ev_t c (Ev.now _))⟩
      simp only [spec_StowCode.j0]
      exact ev_t (decide_eq_true c) (Ev.now _)
    · refine ⟨impl_StowCode.rows (FV l0 l1) l1.length 7 1, Ev.bind hs (ev_t rfl (Ev.step (fun _ => rfl) ?_)), ev_t rfl (ev_f c ?_)⟩
      · simp only [spec_StowCode.j0]
        exact ev_f (by simpa using c) (codes_ev l0 l1 hn (by omega) hh 7 1 (Nat.le_refl _) rfl fun c' g1 g2 => by omega)
      · obtain ⟨K, hK⟩ := impl_ev l0 l1 hn (by omega) hh
        refine ⟨K, fun k hk => ?_⟩
        obtain ⟨w1, w2⟩ := hK k hk
        show (if impl_StowCode.whole k l0 l1 = true then some (impl_StowCode.rows (impl_StowCode.fails k l0 l1) l1.length 7 1) else none) = _
        rw [if_pos w1]
        congr 1
        have congr_row : ∀ {p q : Nat → Bool} (m i : Nat), (∀ j, i ≤ j → j < i + m → p j = q j) → impl_StowCode.row p m i = impl_StowCode.row q m i := by
          intro p q m
          induction m with
          | zero => intro i _; rfl
          | succ m ih =>
            intro i h
            rw [impl_StowCode.row, impl_StowCode.row, h i (Nat.le_refl _) (by omega), ih (i + 1) fun j g1 g2 => h j (by omega) (by omega)]
        have congr_rows : ∀ m c, impl_StowCode.rows (impl_StowCode.fails k l0 l1) l1.length m c = impl_StowCode.rows (FV l0 l1) l1.length m c := by
          intro m
          induction m with
          | zero => intro c; rfl
          | succ m ih =>
            intro c
            rw [impl_StowCode.rows, impl_StowCode.rows, congr_row l1.length 0 fun j _ hj => w2 c j (by omega), ih (c + 1)]
        exact congr_rows 7 1

end Go.Proofs.Ythfkmjbefdmopaa.Pu
