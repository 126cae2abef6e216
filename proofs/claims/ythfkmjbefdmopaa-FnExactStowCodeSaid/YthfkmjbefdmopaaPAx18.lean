/- What Go's functions that the laws reach come to: laid by a program of this session over the print's words. -/
import Derived.Test.YthfkmjbefdmopaaPAx0
import Derived.Test.YthfkmjbefdmopaaPAx1
import Derived.Test.YthfkmjbefdmopaaPAx11
import Derived.Test.YthfkmjbefdmopaaPAx14
import Derived.Test.YthfkmjbefdmopaaPAx17
namespace Go.Proofs.Ythfkmjbefdmopaa.PA
open Go.RowKit Go.Proofs.YthfkmjbefdmopaaW.PrintWords Go.Proofs.YthfkmjbefdmopaaW.PrintLast Go.Proofs.YthfkmjbefdmopaaW.PrintMore
attribute [local go_sem] max2_int min2_int max_two min_two max_three min_three max_four min_four   -- for this text's walks alone
set_option linter.unusedVariables false
set_option linter.unusedSimpArgs false

/-! ### impl_Apart: function 56 -/
mutual
def impl_Apart.j0 : Nat → Int → Int → Bool → Option (Int)
  | 0, _, _, _ => none
  | k + 1, x0, x1, x14 => if x14 = true then (some (-1)) else (if (mn x0 x1) = 0 then (impl_Apart.j1 k (mn x0 x1) (mx x0 x1) true) else (impl_Apart.j1 k (mn x0 x1) (mx x0 x1) ((mn x0 x1) == (mx x0 x1))))
def impl_Apart.j1 : Nat → Int → Int → Bool → Option (Int)
  | 0, _, _, _ => none
  | k + 1, x5, x6, x21 => if x21 = true then (some 0) else (if x5 = 1 then (some 3) else (if (Int.tmod (wrap64 (x5 * x6)) 6) = 0 then (some 2) else (if (Int.tmod (wrap64 (x5 + x6)) 2) = 1 then (some 1) else (some 0))))
end
def impl_Apart.f (k : Nat) (a0 : Int) (a1 : Int) : Option (Int) := (impl_in.f a0 0 9).bind fun t241 => (if t241 = true then ((impl_in.f a1 0 9).bind fun t242 => (impl_Apart.j0 k a0 a1 (!t242))) else (impl_Apart.j0 k a0 a1 true))
theorem impl_Apart.mono_l : ∀ k, (∀ y0 y1 y2, LeO (impl_Apart.j0 k y0 y1 y2) (impl_Apart.j0 (k + 1) y0 y1 y2)) ∧ (∀ y0 y1 y2, LeO (impl_Apart.j1 k y0 y1 y2) (impl_Apart.j1 (k + 1) y0 y1 y2))
  | 0 => ⟨fun _ _ _ r h => by simp [impl_Apart.j0] at h, fun _ _ _ r h => by simp [impl_Apart.j1] at h⟩
  | k + 1 => by
    obtain ⟨ih0, ih1⟩ := impl_Apart.mono_l k
    refine ⟨?_, ?_⟩
    · intro y0 y1 y2
      unfold impl_Apart.j0
      repeat' first
      | (with_reducible exact ih0 _ _ _)
      | (with_reducible exact ih1 _ _ _)
      | (with_reducible exact LeO.refl _)
      | (with_reducible exact LeO.none _)
      | (with_reducible refine LeO.ite ?_ ?_)
      | (with_reducible refine LeO.bind ?_ (fun _ => ?_))
      | exact ih0 _ _ _
      | exact ih1 _ _ _
      | exact LeO.none _
      | refine LeO.ite ?_ ?_
      | refine LeO.bind ?_ (fun _ => ?_)
    · intro y0 y1 y2
      unfold impl_Apart.j1
      repeat' first
      | (with_reducible exact ih0 _ _ _)
      | (with_reducible exact ih1 _ _ _)
      | (with_reducible exact LeO.refl _)
      | (with_reducible exact LeO.none _)
      | (with_reducible refine LeO.ite ?_ ?_)
      | (with_reducible refine LeO.bind ?_ (fun _ => ?_))
      | exact ih0 _ _ _
      | exact ih1 _ _ _
      | exact LeO.none _
      | refine LeO.ite ?_ ?_
      | refine LeO.bind ?_ (fun _ => ?_)
theorem impl_Apart.mono : ∀ a0 a1 k, LeO (impl_Apart.f k a0 a1) (impl_Apart.f (k + 1) a0 a1) := by
  intro a0 a1 k
  obtain ⟨ih0, ih1⟩ := impl_Apart.mono_l k
  unfold impl_Apart.f
  repeat' first
      | (with_reducible exact ih0 _ _ _)
      | (with_reducible exact ih1 _ _ _)
      | (with_reducible exact LeO.refl _)
      | (with_reducible exact LeO.none _)
      | (with_reducible refine LeO.ite ?_ ?_)
      | (with_reducible refine LeO.bind ?_ (fun _ => ?_))
      | exact ih0 _ _ _
      | exact ih1 _ _ _
      | exact LeO.none _
      | refine LeO.ite ?_ ?_
      | refine LeO.bind ?_ (fun _ => ?_)
set_option maxHeartbeats 8000000 in
set_option maxRecDepth 100000 in
theorem impl_Apart.calls (k : Nat) (a0 : Int) (a1 : Int) (r : Int) (w : World) (h : impl_Apart.f k a0 a1 = some r) :
 Calls Try.prog 56 #[.int .i64 a0, .int .i64 a1] w fun e w' => e = .returned (.int .i64 r) ∧ Below w.heap.size w w' := by
 have HB := Aside0.mk (Below.refl w.heap.size w)
 have H : ((impl_in.f a0 0 9).bind fun t241 => (if t241 = true then ((impl_in.f a1 0 9).bind fun t242 => (impl_Apart.j0 k a0 a1 (!t242))) else (impl_Apart.j0 k a0 a1 true))) = some r := h
 clear h
 have HC3 := Aside0.mk H
 clear H
 go_enter Try.func56, Try.ntmps56
 go_upto_region 1 with (fail)
 go_cut [14] (fun v14 wc => ∃ (kq : Nat) (x14_2 : Bool), v14 = .bool x14_2 ∧ Aside0 (impl_Apart.j0 kq a0 a1 x14_2 = some r) ∧ Aside0 (kq ≤ k) ∧ Aside0 (Below w.heap.size w wc))
 case first =>
  have H := HC3.out
  clear HC3
  replace H := Option.bind_eq_some_iff.mp H
  obtain ⟨t241, A40, H⟩ := H
  (try dsimp only at H)
  have A4 := Aside0.mk A40
  clear A40
  by_cases c5 : t241 = true
  ·subst c5
   rw [if_pos rfl] at H
   replace H := Option.bind_eq_some_iff.mp H
   obtain ⟨t242, A60, H⟩ := H
   (try dsimp only at H)
   have A6 := Aside0.mk A60
   clear A60
   have H' := Aside0.mk H
   clear H
   go_wp2_with (first | ((with_reducible refine gate_callee (f := 24) rfl ?_); refine goesL_ (some 8) rfl rfl Try.func24 (by kernel_rfl) rfl #[.int .i64 a0, .int .i64 0, .int .i64 9] rfl (by (try simp only [List.map_toArray, List.map_cons, List.map_nil]); first | done | rfl | (simp only [List.length_drop, List.length_take]; rfl)) ?_; (with_reducible refine (impl_in.calls a0 0 9 true _ A4.out).mono ?_); rintro e w' ⟨rfl, ⟨nd, rfl⟩⟩; refine ⟨_, rfl, ?_⟩) | (go_at_call 24; (with_reducible refine (impl_in.calls a1 0 9 t242 _ A6.out).mono ?_); rintro e w' ⟨rfl, ⟨nd, rfl⟩⟩))
   go_meet
   case rel => exact ⟨_, (!t242), (by first | rfl | (simp; done) | (simp [*]; done)), H', ⟨by first | omega | exact Nat.le_refl _⟩, ⟨Sk.bl_⟩⟩
  ·replace c5 := Bool.eq_false_iff.mpr c5
   subst c5
   rw [if_neg (show ¬ (false = true) by decide)] at H
   have H' := Aside0.mk H
   clear H
   go_wp2_with (first | ((with_reducible refine gate_callee (f := 24) rfl ?_); refine goesL_ (some 8) rfl rfl Try.func24 (by kernel_rfl) rfl #[.int .i64 a0, .int .i64 0, .int .i64 9] rfl (by (try simp only [List.map_toArray, List.map_cons, List.map_nil]); first | done | rfl | (simp only [List.length_drop, List.length_take]; rfl)) ?_; (with_reducible refine (impl_in.calls a0 0 9 false _ A4.out).mono ?_); rintro e w' ⟨rfl, ⟨nd, rfl⟩⟩; refine ⟨_, rfl, ?_⟩))
   go_meet
   case rel => exact ⟨_, (true), (by first | rfl | (simp; done) | (simp [*]; done)), H', ⟨by first | omega | exact Nat.le_refl _⟩, ⟨Sk.bl_⟩⟩
 case rest =>
  clear HC3
  (try clear c2); (try clear p2); (try clear c5)
  obtain ⟨kq, x14_2, rfl, HA, HJ2, HB⟩ := hcut
  cases kq with
  | zero => exact absurd HA.out (by simp [impl_Apart.j0])
  | succ kj2 =>
   have H := HA.out
   clear HA
   simp only [impl_Apart.j0] at H
   by_cases c7 : x14_2 = true
   ·subst c7
    rw [if_pos rfl] at H
    obtain rfl := Option.some.inj H
    go_wp2
    go_ret
    exact ⟨by first | rfl | (simp [errW_none, errW_some] <;> rfl) | (simp [*, errW_none, errW_some] <;> rfl), Sk.bl_⟩
   ·replace c7 := Bool.eq_false_iff.mpr c7
    subst c7
    rw [if_neg (show ¬ (false = true) by decide)] at H
    obtain ⟨ji8, hji8⟩ : ∃ j_ : Int, (mn a0 a1) = j_ := ⟨_, rfl⟩
    replace H : (if (ji8) = 0 then (impl_Apart.j1 kj2 ji8 (mx a0 a1) true) else (impl_Apart.j1 kj2 ji8 (mx a0 a1) ((ji8) == (mx a0 a1)))) = some r := by first | (rw [hji8] at H; exact H) | (simp only [hji8] at H ⊢; exact H)
    have hji8_ : (if a1 < a0 then a1 else a0) = ji8 := hji8
    obtain ⟨ji9, hji9⟩ : ∃ j_ : Int, (mx a0 a1) = j_ := ⟨_, rfl⟩
    replace H : (if (ji8) = 0 then (impl_Apart.j1 kj2 ji8 ji9 true) else (impl_Apart.j1 kj2 ji8 ji9 ((ji8) == (ji9)))) = some r := by first | (rw [hji9] at H; exact H) | (simp only [hji9] at H ⊢; exact H)
    have hji9_ : (if a0 < a1 then a1 else a0) = ji9 := hji9
    have HC10 := Aside0.mk H
    clear H
    go_upto_region 4 with (fail)
    go_cut [21] (fun v21 wc => ∃ (kq : Nat) (x21_9 : Bool), v21 = .bool x21_9 ∧ Aside0 (impl_Apart.j1 kq ji8 ji9 x21_9 = some r) ∧ Aside0 (kq ≤ kj2) ∧ Aside0 (Below w.heap.size w wc))
    case first =>
     have H := HC10.out
     clear HC10
     by_cases c11 : (ji8) = 0
     ·rw [if_pos c11] at H
      have c11b0 : ((ji8) == 0) = true := beq_iff_eq.mpr c11
      have c11b1 : ((ji8) != 0) = false := bne_eq_false_iff_eq.mpr c11
      clear c11
      (first | rw [c11b0] | (simp only [i64_w, i32_w]; rw [c11b0]) | skip)
      have H' := Aside0.mk H
      clear H
      go_wp2
      go_meet
      case rel => exact ⟨_, (true), (by first | rfl | (simp; done) | (simp [*]; done)), H', ⟨by have := HJ2.out; first | omega | exact Nat.le_refl _⟩, ⟨Sk.bl_⟩⟩
     ·rw [if_neg c11] at H
      have c11b0 : ((ji8) == 0) = false := beq_eq_false_iff_ne.mpr c11
      have c11b1 : ((ji8) != 0) = true := bne_iff_ne.mpr c11
      (first | rw [c11b0] | (simp only [i64_w, i32_w]; rw [c11b0]) | skip)
      have H' := Aside0.mk H
      clear H
      go_wp2
      go_meet
      case rel => exact ⟨_, (((ji8) == (ji9))), (by first | rfl | (simp; done) | (simp only [← hji8, ← hji9] <;> (first | rfl | simp)) | (simp [*]; done)), H', ⟨by have := HJ2.out; first | omega | exact Nat.le_refl _⟩, ⟨Sk.bl_⟩⟩
    case rest =>
     clear HC10
     (try clear c1); (try clear c2); (try clear p2); (try clear c5); (try clear c7); (try clear c11); (try clear c11b0); (try clear c11b1); (try clear p2)
     obtain ⟨kq, x21_9, rfl, HA, HJ9, HB⟩ := hcut
     cases kq with
     | zero => exact absurd HA.out (by simp [impl_Apart.j1])
     | succ kj9 =>
      have H := HA.out
      clear HA
      simp only [impl_Apart.j1] at H
      by_cases c12 : x21_9 = true
      ·subst c12
       rw [if_pos rfl] at H
       obtain rfl := Option.some.inj H
       go_wp2
       go_ret
       exact ⟨by first | rfl | (simp [errW_none, errW_some] <;> rfl) | (simp only [← hji8, ← hji9]; first | rfl | (simp [errW_none, errW_some] <;> rfl)) | (simp [*, errW_none, errW_some] <;> rfl), Sk.bl_⟩
      ·replace c12 := Bool.eq_false_iff.mpr c12
       subst c12
       rw [if_neg (show ¬ (false = true) by decide)] at H
       by_cases c13 : ji8 = 1
       ·rw [if_pos c13] at H
        have c13b0 : (ji8 == 1) = true := beq_iff_eq.mpr c13
        have c13b1 : (ji8 != 1) = false := bne_eq_false_iff_eq.mpr c13
        clear c13
        obtain rfl := Option.some.inj H
        go_wp2
        go_ret
        exact ⟨by first | rfl | (simp [errW_none, errW_some] <;> rfl) | (simp only [← hji8, ← hji9]; first | rfl | (simp [errW_none, errW_some] <;> rfl)) | (simp [*, errW_none, errW_some] <;> rfl), Sk.bl_⟩
       ·rw [if_neg c13] at H
        have c13b0 : (ji8 == 1) = false := beq_eq_false_iff_ne.mpr c13
        have c13b1 : (ji8 != 1) = true := bne_iff_ne.mpr c13
        by_cases c14 : (Int.tmod (wrap64 (ji8 * ji9)) 6) = 0
        ·rw [if_pos c14] at H
         have c14b0 : ((Int.tmod (wrap64 (ji8 * ji9)) 6) == 0) = true := beq_iff_eq.mpr c14
         have c14b1 : ((Int.tmod (wrap64 (ji8 * ji9)) 6) != 0) = false := bne_eq_false_iff_eq.mpr c14
         clear c14
         obtain rfl := Option.some.inj H
         go_wp2
         go_ret
         exact ⟨by first | rfl | (simp [errW_none, errW_some] <;> rfl) | (simp only [← hji8, ← hji9]; first | rfl | (simp [errW_none, errW_some] <;> rfl)) | (simp [*, errW_none, errW_some] <;> rfl), Sk.bl_⟩
        ·rw [if_neg c14] at H
         have c14b0 : ((Int.tmod (wrap64 (ji8 * ji9)) 6) == 0) = false := beq_eq_false_iff_ne.mpr c14
         have c14b1 : ((Int.tmod (wrap64 (ji8 * ji9)) 6) != 0) = true := bne_iff_ne.mpr c14
         by_cases c15 : (Int.tmod (wrap64 (ji8 + ji9)) 2) = 1
         ·rw [if_pos c15] at H
          have c15b0 : ((Int.tmod (wrap64 (ji8 + ji9)) 2) == 1) = true := beq_iff_eq.mpr c15
          have c15b1 : ((Int.tmod (wrap64 (ji8 + ji9)) 2) != 1) = false := bne_eq_false_iff_eq.mpr c15
          clear c15
          obtain rfl := Option.some.inj H
          go_wp2
          go_ret
          exact ⟨by first | rfl | (simp [errW_none, errW_some] <;> rfl) | (simp only [← hji8, ← hji9]; first | rfl | (simp [errW_none, errW_some] <;> rfl)) | (simp [*, errW_none, errW_some] <;> rfl), Sk.bl_⟩
         ·rw [if_neg c15] at H
          have c15b0 : ((Int.tmod (wrap64 (ji8 + ji9)) 2) == 1) = false := beq_eq_false_iff_ne.mpr c15
          have c15b1 : ((Int.tmod (wrap64 (ji8 + ji9)) 2) != 1) = true := bne_iff_ne.mpr c15
          obtain rfl := Option.some.inj H
          go_wp2
          go_ret
          exact ⟨by first | rfl | (simp [errW_none, errW_some] <;> rfl) | (simp only [← hji8, ← hji9]; first | rfl | (simp [errW_none, errW_some] <;> rfl)) | (simp [*, errW_none, errW_some] <;> rfl), Sk.bl_⟩

attribute [local go_sem high] eqA49
/-! ### impl_KeepsApart: function 33 -/
def impl_KeepsApart.val (v s0 s1 s2 : Int) : Bool := if v = 0 then true else if v = 1 then (wrap64 (wrap64 (s0 + s1) + s2)) != 1 else if v = 2 then decide (s0 ≥ 2) else false
def impl_KeepsApart.f (k : Nat) (a0_0 : ByteArray) (a0_1 : Int) (a0_2 : Int) (a0_3 : Bool) (a0_4 : Int) (a0_5 : Int) (a1_0 : Int) (a1_1 : Int) (a1_2 : Int) (a2_0 : ByteArray) (a2_1 : Int) (a2_2 : Int) (a2_3 : Bool) (a2_4 : Int) (a2_5 : Int) (a3_0 : Int) (a3_1 : Int) (a3_2 : Int) : Option Bool := (impl_BoxOk.f k a0_0 a0_1 a0_2 a0_3 a0_4 a0_5).bind fun t1 => (impl_BoxOk.f k a2_0 a2_1 a2_2 a2_3 a2_4 a2_5).bind fun t2 => (impl_spotOk.f a1_0 a1_1 a1_2).bind fun t3 => (impl_spotOk.f a3_0 a3_1 a3_2).bind fun t4 => (impl_size.f (wrap64 (a1_0 - a3_0))).bind fun s0 => (impl_size.f (wrap64 (a1_1 - a3_1))).bind fun s1 => (impl_size.f (wrap64 (a1_2 - a3_2))).bind fun s2 => (impl_Apart.f k a0_2 a2_2).bind fun v => some (!(!t1 || (!t2 || (!t3 || (!t4 || (a1_0 == a3_0 && (a1_1 == a3_1 && (a1_2 == a3_2))))))) && impl_KeepsApart.val v s0 s1 s2)
theorem impl_KeepsApart.mono : ∀ a0_0 a0_1 a0_2 a0_3 a0_4 a0_5 a1_0 a1_1 a1_2 a2_0 a2_1 a2_2 a2_3 a2_4 a2_5 a3_0 a3_1 a3_2 k, LeO (impl_KeepsApart.f k a0_0 a0_1 a0_2 a0_3 a0_4 a0_5 a1_0 a1_1 a1_2 a2_0 a2_1 a2_2 a2_3 a2_4 a2_5 a3_0 a3_1 a3_2) (impl_KeepsApart.f (k + 1) a0_0 a0_1 a0_2 a0_3 a0_4 a0_5 a1_0 a1_1 a1_2 a2_0 a2_1 a2_2 a2_3 a2_4 a2_5 a3_0 a3_1 a3_2) := by
  intro a0_0 a0_1 a0_2 a0_3 a0_4 a0_5 a1_0 a1_1 a1_2 a2_0 a2_1 a2_2 a2_3 a2_4 a2_5 a3_0 a3_1 a3_2 k
  unfold impl_KeepsApart.f
  exact LeO.bind (impl_BoxOk.mono _ _ _ _ _ _ _) fun _ => LeO.bind (impl_BoxOk.mono _ _ _ _ _ _ _) fun _ => LeO.bind (LeO.refl _) fun _ => LeO.bind (LeO.refl _) fun _ => LeO.bind (LeO.refl _) fun _ => LeO.bind (LeO.refl _) fun _ => LeO.bind (LeO.refl _) fun _ => LeO.bind (impl_Apart.mono _ _ _) fun _ => LeO.refl _
/-- The four boxes of the walk. -/
def impl_KeepsApart.St (a0_0 : ByteArray) (a0_1 : Int) (a0_2 : Int) (a0_3 : Bool) (a0_4 : Int) (a0_5 : Int) (a1_0 : Int) (a1_1 : Int) (a1_2 : Int) (a2_0 : ByteArray) (a2_1 : Int) (a2_2 : Int) (a2_3 : Bool) (a2_4 : Int) (a2_5 : Int) (a3_0 : Int) (a3_1 : Int) (a3_2 : Int) (ga gb gc gd : Nat) (w0 W : World) : Prop := W.heap[ga]? = some (.cells #[.string a0_0, .int .i64 a0_1, .int .i64 a0_2, .bool a0_3, .int .i64 a0_4, .int .i64 a0_5] 48 (0, 0)) ∧ W.heap[gb]? = some (.cells #[.int .i64 a1_0, .int .i64 a1_1, .int .i64 a1_2] 49 (0, 0)) ∧ W.heap[gc]? = some (.cells #[.string a2_0, .int .i64 a2_1, .int .i64 a2_2, .bool a2_3, .int .i64 a2_4, .int .i64 a2_5] 48 (0, 0)) ∧ W.heap[gd]? = some (.cells #[.int .i64 a3_0, .int .i64 a3_1, .int .i64 a3_2] 49 (0, 0)) ∧ Below w0.heap.size w0 W
section
variable {a0_0 a2_0 : ByteArray} {a0_1 a0_2 a0_4 a0_5 a1_0 a1_1 a1_2 a2_1 a2_2 a2_4 a2_5 a3_0 a3_1 a3_2 : Int} {a0_3 a2_3 : Bool} {ga gb gc gd : Nat} {w0 W W1 : World}
theorem impl_KeepsApart.St.below (h : impl_KeepsApart.St a0_0 a0_1 a0_2 a0_3 a0_4 a0_5 a1_0 a1_1 a1_2 a2_0 a2_1 a2_2 a2_3 a2_4 a2_5 a3_0 a3_1 a3_2 ga gb gc gd w0 W) (hb : Below W.heap.size W W1) : impl_KeepsApart.St a0_0 a0_1 a0_2 a0_3 a0_4 a0_5 a1_0 a1_1 a1_2 a2_0 a2_1 a2_2 a2_3 a2_4 a2_5 a3_0 a3_1 a3_2 ga gb gc gd w0 W1 :=
  ⟨blk_below h.1 hb, blk_below h.2.1 hb, blk_below h.2.2.1 hb, blk_below h.2.2.2.1 hb, below_step h.2.2.2.2 hb⟩
theorem impl_KeepsApart.St.cells (h : impl_KeepsApart.St a0_0 a0_1 a0_2 a0_3 a0_4 a0_5 a1_0 a1_1 a1_2 a2_0 a2_1 a2_2 a2_3 a2_4 a2_5 a3_0 a3_1 a3_2 ga gb gc gd w0 W) : W.cell? ⟨ga, 0, none⟩ = some (.string a0_0) ∧ W.cell? ⟨ga, 1, none⟩ = some (.int .i64 a0_1) ∧ W.cell? ⟨ga, 2, none⟩ = some (.int .i64 a0_2) ∧ W.cell? ⟨ga, 3, none⟩ = some (.bool a0_3) ∧ W.cell? ⟨ga, 4, none⟩ = some (.int .i64 a0_4) ∧ W.cell? ⟨ga, 5, none⟩ = some (.int .i64 a0_5) ∧ W.cell? ⟨gb, 0, none⟩ = some (.int .i64 a1_0) ∧ W.cell? ⟨gb, 1, none⟩ = some (.int .i64 a1_1) ∧ W.cell? ⟨gb, 2, none⟩ = some (.int .i64 a1_2) ∧ W.cell? ⟨gc, 0, none⟩ = some (.string a2_0) ∧ W.cell? ⟨gc, 1, none⟩ = some (.int .i64 a2_1) ∧ W.cell? ⟨gc, 2, none⟩ = some (.int .i64 a2_2) ∧ W.cell? ⟨gc, 3, none⟩ = some (.bool a2_3) ∧ W.cell? ⟨gc, 4, none⟩ = some (.int .i64 a2_4) ∧ W.cell? ⟨gc, 5, none⟩ = some (.int .i64 a2_5) ∧ W.cell? ⟨gd, 0, none⟩ = some (.int .i64 a3_0) ∧ W.cell? ⟨gd, 1, none⟩ = some (.int .i64 a3_1) ∧ W.cell? ⟨gd, 2, none⟩ = some (.int .i64 a3_2) :=
  ⟨(blk_cell h.1 0).trans rfl, (blk_cell h.1 1).trans rfl, (blk_cell h.1 2).trans rfl, (blk_cell h.1 3).trans rfl, (blk_cell h.1 4).trans rfl, (blk_cell h.1 5).trans rfl, (blk_cell h.2.1 0).trans rfl, (blk_cell h.2.1 1).trans rfl, (blk_cell h.2.1 2).trans rfl, (blk_cell h.2.2.1 0).trans rfl, (blk_cell h.2.2.1 1).trans rfl, (blk_cell h.2.2.1 2).trans rfl, (blk_cell h.2.2.1 3).trans rfl, (blk_cell h.2.2.1 4).trans rfl, (blk_cell h.2.2.1 5).trans rfl, (blk_cell h.2.2.2.1 0).trans rfl, (blk_cell h.2.2.2.1 1).trans rfl, (blk_cell h.2.2.2.1 2).trans rfl⟩
end
set_option maxHeartbeats 4000000 in
set_option maxRecDepth 100000 in
theorem impl_KeepsApart.calls (k : Nat) (a0_0 : ByteArray) (a0_1 : Int) (a0_2 : Int) (a0_3 : Bool) (a0_4 : Int) (a0_5 : Int) (a1_0 : Int) (a1_1 : Int) (a1_2 : Int) (a2_0 : ByteArray) (a2_1 : Int) (a2_2 : Int) (a2_3 : Bool) (a2_4 : Int) (a2_5 : Int) (a3_0 : Int) (a3_1 : Int) (a3_2 : Int) (r : Bool) (w : World) (h : impl_KeepsApart.f k a0_0 a0_1 a0_2 a0_3 a0_4 a0_5 a1_0 a1_1 a1_2 a2_0 a2_1 a2_2 a2_3 a2_4 a2_5 a3_0 a3_1 a3_2 = some r) :
 Calls Try.prog 33 #[.agg #[.string a0_0, .int .i64 a0_1, .int .i64 a0_2, .bool a0_3, .int .i64 a0_4, .int .i64 a0_5], .agg #[.int .i64 a1_0, .int .i64 a1_1, .int .i64 a1_2], .agg #[.string a2_0, .int .i64 a2_1, .int .i64 a2_2, .bool a2_3, .int .i64 a2_4, .int .i64 a2_5], .agg #[.int .i64 a3_0, .int .i64 a3_1, .int .i64 a3_2]] w fun e w' => e = .returned (.bool r) ∧ Below w.heap.size w w' := by
 have hu48 := Try.underlying48
 have hu49 := Try.underlying49
 unfold impl_KeepsApart.f at h
 obtain ⟨t1, h1, h⟩ := Option.bind_eq_some_iff.mp h
 obtain ⟨t2, h2, h⟩ := Option.bind_eq_some_iff.mp h
 obtain ⟨t3, h3, h⟩ := Option.bind_eq_some_iff.mp h
 obtain ⟨t4, h4, h⟩ := Option.bind_eq_some_iff.mp h
 obtain ⟨s0, e0, h⟩ := Option.bind_eq_some_iff.mp h
 obtain ⟨s1, e1, h⟩ := Option.bind_eq_some_iff.mp h
 obtain ⟨s2, e2, h⟩ := Option.bind_eq_some_iff.mp h
 obtain ⟨v, e3, h⟩ := Option.bind_eq_some_iff.mp h
 obtain rfl := Option.some.inj h
 have H1 := Aside0.mk h1
 have H2 := Aside0.mk h2
 have H3 := Aside0.mk h3
 have H4 := Aside0.mk h4
 have E0 := Aside0.mk e0
 have E1 := Aside0.mk e1
 have E2 := Aside0.mk e2
 have E3 := Aside0.mk e3
 clear h h1 h2 h3 h4 e0 e1 e2 e3
 have HB := Aside0.mk (Below.refl w.heap.size w)
 go_enter Try.func33, Try.ntmps33
 go_upto_region 1 with (first | ((with_reducible refine gate_dst (N := 4) rfl ?_); refine box_event ?hg (N := 4) ?hd (cs := #[.string a0_0, .int .i64 a0_1, .int .i64 a0_2, .bool a0_3, .int .i64 a0_4, .int .i64 a0_5]) (t := 48) ?hr ?_; (case hd => rfl); (case hg => rfl); (case hr => first | (go_simp; done) | (go_simp; rfl)); intro ga hg w1 hbox hb; have GBKA := Aside0.mk (show w.heap.size ≤ ga by rw [hg]; exact below_size Sk.bl_); have BKA := Aside0.mk hbox; have n0_ := Aside0.mk (below_step Sk.bl_ hb); clear HB ; have HB := n0_; clear n0_; clear hb hbox hg; have hcw1BKA_0 : w1.cell? ⟨ga, 0, none⟩ = some (.string a0_0) := (blk_cell BKA.out 0).trans rfl; have hcw1BKA_1 : w1.cell? ⟨ga, 1, none⟩ = some (.int .i64 a0_1) := (blk_cell BKA.out 1).trans rfl; have hcw1BKA_2 : w1.cell? ⟨ga, 2, none⟩ = some (.int .i64 a0_2) := (blk_cell BKA.out 2).trans rfl; have hcw1BKA_3 : w1.cell? ⟨ga, 3, none⟩ = some (.bool a0_3) := (blk_cell BKA.out 3).trans rfl; have hcw1BKA_4 : w1.cell? ⟨ga, 4, none⟩ = some (.int .i64 a0_4) := (blk_cell BKA.out 4).trans rfl; have hcw1BKA_5 : w1.cell? ⟨ga, 5, none⟩ = some (.int .i64 a0_5) := (blk_cell BKA.out 5).trans rfl) | ((with_reducible refine gate_dst (N := 5) rfl ?_); refine box_event ?hg (N := 5) ?hd (cs := #[.int .i64 a1_0, .int .i64 a1_1, .int .i64 a1_2]) (t := 49) ?hr ?_; (case hd => rfl); (case hg => rfl); (case hr => first | (go_simp; done) | (go_simp; rfl)); intro gb hg w2 hbox hb; have GBKB := Aside0.mk (show w.heap.size ≤ gb by rw [hg]; exact below_size Sk.bl_); have BKB := Aside0.mk hbox; have n0_ := Aside0.mk (below_step Sk.bl_ hb); have n1_ := Aside0.mk (blk_below (g := ga) (o := .cells #[.string a0_0, .int .i64 a0_1, .int .i64 a0_2, .bool a0_3, .int .i64 a0_4, .int .i64 a0_5] 48 (0, 0)) (by (with_reducible repeat (first | refine blk_drewN ?_ _ | refine blk_drew ?_ | refine blk_alloc ?_ _)); exact BKA.out) hb); clear HB BKA; have HB := n0_; have BKA := n1_; clear n0_ n1_; clear hb hbox hg; have hcw2BKA_0 : w2.cell? ⟨ga, 0, none⟩ = some (.string a0_0) := (blk_cell BKA.out 0).trans rfl; have hcw2BKA_1 : w2.cell? ⟨ga, 1, none⟩ = some (.int .i64 a0_1) := (blk_cell BKA.out 1).trans rfl; have hcw2BKA_2 : w2.cell? ⟨ga, 2, none⟩ = some (.int .i64 a0_2) := (blk_cell BKA.out 2).trans rfl; have hcw2BKA_3 : w2.cell? ⟨ga, 3, none⟩ = some (.bool a0_3) := (blk_cell BKA.out 3).trans rfl; have hcw2BKA_4 : w2.cell? ⟨ga, 4, none⟩ = some (.int .i64 a0_4) := (blk_cell BKA.out 4).trans rfl; have hcw2BKA_5 : w2.cell? ⟨ga, 5, none⟩ = some (.int .i64 a0_5) := (blk_cell BKA.out 5).trans rfl; have hcw2BKB_0 : w2.cell? ⟨gb, 0, none⟩ = some (.int .i64 a1_0) := (blk_cell BKB.out 0).trans rfl; have hcw2BKB_1 : w2.cell? ⟨gb, 1, none⟩ = some (.int .i64 a1_1) := (blk_cell BKB.out 1).trans rfl; have hcw2BKB_2 : w2.cell? ⟨gb, 2, none⟩ = some (.int .i64 a1_2) := (blk_cell BKB.out 2).trans rfl) | ((with_reducible refine gate_dst (N := 6) rfl ?_); refine box_event ?hg (N := 6) ?hd (cs := #[.string a2_0, .int .i64 a2_1, .int .i64 a2_2, .bool a2_3, .int .i64 a2_4, .int .i64 a2_5]) (t := 48) ?hr ?_; (case hd => rfl); (case hg => rfl); (case hr => first | (go_simp; done) | (go_simp; rfl)); intro gc hg w3 hbox hb; have GBKC := Aside0.mk (show w.heap.size ≤ gc by rw [hg]; exact below_size Sk.bl_); have BKC := Aside0.mk hbox; have n0_ := Aside0.mk (below_step Sk.bl_ hb); have n1_ := Aside0.mk (blk_below (g := ga) (o := .cells #[.string a0_0, .int .i64 a0_1, .int .i64 a0_2, .bool a0_3, .int .i64 a0_4, .int .i64 a0_5] 48 (0, 0)) (by (with_reducible repeat (first | refine blk_drewN ?_ _ | refine blk_drew ?_ | refine blk_alloc ?_ _)); exact BKA.out) hb); have n2_ := Aside0.mk (blk_below (g := gb) (o := .cells #[.int .i64 a1_0, .int .i64 a1_1, .int .i64 a1_2] 49 (0, 0)) (by (with_reducible repeat (first | refine blk_drewN ?_ _ | refine blk_drew ?_ | refine blk_alloc ?_ _)); exact BKB.out) hb); clear HB BKA BKB; have HB := n0_; have BKA := n1_; have BKB := n2_; clear n0_ n1_ n2_; clear hb hbox hg; have hcw3BKA_0 : w3.cell? ⟨ga, 0, none⟩ = some (.string a0_0) := (blk_cell BKA.out 0).trans rfl; have hcw3BKA_1 : w3.cell? ⟨ga, 1, none⟩ = some (.int .i64 a0_1) := (blk_cell BKA.out 1).trans rfl; have hcw3BKA_2 : w3.cell? ⟨ga, 2, none⟩ = some (.int .i64 a0_2) := (blk_cell BKA.out 2).trans rfl; have hcw3BKA_3 : w3.cell? ⟨ga, 3, none⟩ = some (.bool a0_3) := (blk_cell BKA.out 3).trans rfl; have hcw3BKA_4 : w3.cell? ⟨ga, 4, none⟩ = some (.int .i64 a0_4) := (blk_cell BKA.out 4).trans rfl; have hcw3BKA_5 : w3.cell? ⟨ga, 5, none⟩ = some (.int .i64 a0_5) := (blk_cell BKA.out 5).trans rfl; have hcw3BKB_0 : w3.cell? ⟨gb, 0, none⟩ = some (.int .i64 a1_0) := (blk_cell BKB.out 0).trans rfl; have hcw3BKB_1 : w3.cell? ⟨gb, 1, none⟩ = some (.int .i64 a1_1) := (blk_cell BKB.out 1).trans rfl; have hcw3BKB_2 : w3.cell? ⟨gb, 2, none⟩ = some (.int .i64 a1_2) := (blk_cell BKB.out 2).trans rfl; have hcw3BKC_0 : w3.cell? ⟨gc, 0, none⟩ = some (.string a2_0) := (blk_cell BKC.out 0).trans rfl; have hcw3BKC_1 : w3.cell? ⟨gc, 1, none⟩ = some (.int .i64 a2_1) := (blk_cell BKC.out 1).trans rfl; have hcw3BKC_2 : w3.cell? ⟨gc, 2, none⟩ = some (.int .i64 a2_2) := (blk_cell BKC.out 2).trans rfl; have hcw3BKC_3 : w3.cell? ⟨gc, 3, none⟩ = some (.bool a2_3) := (blk_cell BKC.out 3).trans rfl; have hcw3BKC_4 : w3.cell? ⟨gc, 4, none⟩ = some (.int .i64 a2_4) := (blk_cell BKC.out 4).trans rfl; have hcw3BKC_5 : w3.cell? ⟨gc, 5, none⟩ = some (.int .i64 a2_5) := (blk_cell BKC.out 5).trans rfl) | ((with_reducible refine gate_dst (N := 7) rfl ?_); refine box_event ?hg (N := 7) ?hd (cs := #[.int .i64 a3_0, .int .i64 a3_1, .int .i64 a3_2]) (t := 49) ?hr ?_; (case hd => rfl); (case hg => rfl); (case hr => first | (go_simp; done) | (go_simp; rfl)); intro gd hg w4 hbox hb; have GBKD := Aside0.mk (show w.heap.size ≤ gd by rw [hg]; exact below_size Sk.bl_); have BKD := Aside0.mk hbox; have n0_ := Aside0.mk (below_step Sk.bl_ hb); have n1_ := Aside0.mk (blk_below (g := ga) (o := .cells #[.string a0_0, .int .i64 a0_1, .int .i64 a0_2, .bool a0_3, .int .i64 a0_4, .int .i64 a0_5] 48 (0, 0)) (by (with_reducible repeat (first | refine blk_drewN ?_ _ | refine blk_drew ?_ | refine blk_alloc ?_ _)); exact BKA.out) hb); have n2_ := Aside0.mk (blk_below (g := gb) (o := .cells #[.int .i64 a1_0, .int .i64 a1_1, .int .i64 a1_2] 49 (0, 0)) (by (with_reducible repeat (first | refine blk_drewN ?_ _ | refine blk_drew ?_ | refine blk_alloc ?_ _)); exact BKB.out) hb); have n3_ := Aside0.mk (blk_below (g := gc) (o := .cells #[.string a2_0, .int .i64 a2_1, .int .i64 a2_2, .bool a2_3, .int .i64 a2_4, .int .i64 a2_5] 48 (0, 0)) (by (with_reducible repeat (first | refine blk_drewN ?_ _ | refine blk_drew ?_ | refine blk_alloc ?_ _)); exact BKC.out) hb); clear HB BKA BKB BKC; have HB := n0_; have BKA := n1_; have BKB := n2_; have BKC := n3_; clear n0_ n1_ n2_ n3_; clear hb hbox hg; have hcw4BKA_0 : w4.cell? ⟨ga, 0, none⟩ = some (.string a0_0) := (blk_cell BKA.out 0).trans rfl; have hcw4BKA_1 : w4.cell? ⟨ga, 1, none⟩ = some (.int .i64 a0_1) := (blk_cell BKA.out 1).trans rfl; have hcw4BKA_2 : w4.cell? ⟨ga, 2, none⟩ = some (.int .i64 a0_2) := (blk_cell BKA.out 2).trans rfl; have hcw4BKA_3 : w4.cell? ⟨ga, 3, none⟩ = some (.bool a0_3) := (blk_cell BKA.out 3).trans rfl; have hcw4BKA_4 : w4.cell? ⟨ga, 4, none⟩ = some (.int .i64 a0_4) := (blk_cell BKA.out 4).trans rfl; have hcw4BKA_5 : w4.cell? ⟨ga, 5, none⟩ = some (.int .i64 a0_5) := (blk_cell BKA.out 5).trans rfl; have hcw4BKB_0 : w4.cell? ⟨gb, 0, none⟩ = some (.int .i64 a1_0) := (blk_cell BKB.out 0).trans rfl; have hcw4BKB_1 : w4.cell? ⟨gb, 1, none⟩ = some (.int .i64 a1_1) := (blk_cell BKB.out 1).trans rfl; have hcw4BKB_2 : w4.cell? ⟨gb, 2, none⟩ = some (.int .i64 a1_2) := (blk_cell BKB.out 2).trans rfl; have hcw4BKC_0 : w4.cell? ⟨gc, 0, none⟩ = some (.string a2_0) := (blk_cell BKC.out 0).trans rfl; have hcw4BKC_1 : w4.cell? ⟨gc, 1, none⟩ = some (.int .i64 a2_1) := (blk_cell BKC.out 1).trans rfl; have hcw4BKC_2 : w4.cell? ⟨gc, 2, none⟩ = some (.int .i64 a2_2) := (blk_cell BKC.out 2).trans rfl; have hcw4BKC_3 : w4.cell? ⟨gc, 3, none⟩ = some (.bool a2_3) := (blk_cell BKC.out 3).trans rfl; have hcw4BKC_4 : w4.cell? ⟨gc, 4, none⟩ = some (.int .i64 a2_4) := (blk_cell BKC.out 4).trans rfl; have hcw4BKC_5 : w4.cell? ⟨gc, 5, none⟩ = some (.int .i64 a2_5) := (blk_cell BKC.out 5).trans rfl; have hcw4BKD_0 : w4.cell? ⟨gd, 0, none⟩ = some (.int .i64 a3_0) := (blk_cell BKD.out 0).trans rfl; have hcw4BKD_1 : w4.cell? ⟨gd, 1, none⟩ = some (.int .i64 a3_1) := (blk_cell BKD.out 1).trans rfl; have hcw4BKD_2 : w4.cell? ⟨gd, 2, none⟩ = some (.int .i64 a3_2) := (blk_cell BKD.out 2).trans rfl))
 have HF := Aside0.mk (show impl_KeepsApart.St a0_0 a0_1 a0_2 a0_3 a0_4 a0_5 a1_0 a1_1 a1_2 a2_0 a2_1 a2_2 a2_3 a2_4 a2_5 a3_0 a3_1 a3_2 ga gb gc gd w w4 from ⟨BKA.out, BKB.out, BKC.out, BKD.out, HB.out⟩)
 clear BKA BKB BKC BKD HB
 go_cut [34] (fun v34 wc => ∃ b34 : Bool, v34 = .bool b34 ∧ Aside0 (b34 = (!t1 || (!t2 || (!t3 || (!t4 || (a1_0 == a3_0 && (a1_1 == a3_1 && (a1_2 == a3_2)))))))) ∧ Aside0 (impl_KeepsApart.St a0_0 a0_1 a0_2 a0_3 a0_4 a0_5 a1_0 a1_1 a1_2 a2_0 a2_1 a2_2 a2_3 a2_4 a2_5 a3_0 a3_1 a3_2 ga gb gc gd w wc))
 case first =>
  cases t1 with
  | false =>
   obtain ⟨cga0, cga1, cga2, cga3, cga4, cga5, cgb0, cgb1, cgb2, cgc0, cgc1, cgc2, cgc3, cgc4, cgc5, cgd0, cgd1, cgd2⟩ := HF.out.cells
   go_wp2_with (first | (go_at_call 19; (with_reducible refine (impl_BoxOk.calls k a0_0 a0_1 a0_2 a0_3 a0_4 a0_5 _ _ H1.out).mono ?_); rintro e w5 ⟨rfl, hb⟩; have HF_ := Aside0.mk (HF.out.below hb); clear HF cga0 cga1 cga2 cga3 cga4 cga5 cgb0 cgb1 cgb2 cgc0 cgc1 cgc2 cgc3 cgc4 cgc5 cgd0 cgd1 cgd2 hb; have HF := HF_; clear HF_; obtain ⟨cga0, cga1, cga2, cga3, cga4, cga5, cgb0, cgb1, cgb2, cgc0, cgc1, cgc2, cgc3, cgc4, cgc5, cgd0, cgd1, cgd2⟩ := HF.out.cells))
   go_meet
   case rel => exact ⟨true, by first | rfl | (simp; done), ⟨by first | rfl | (simp; done)⟩, HF⟩
  | true =>
  cases t2 with
  | false =>
   obtain ⟨cga0, cga1, cga2, cga3, cga4, cga5, cgb0, cgb1, cgb2, cgc0, cgc1, cgc2, cgc3, cgc4, cgc5, cgd0, cgd1, cgd2⟩ := HF.out.cells
   go_wp2_with (first | (go_at_call 19; (with_reducible refine (impl_BoxOk.calls k a0_0 a0_1 a0_2 a0_3 a0_4 a0_5 _ _ H1.out).mono ?_); rintro e w5 ⟨rfl, hb⟩; have HF_ := Aside0.mk (HF.out.below hb); clear HF cga0 cga1 cga2 cga3 cga4 cga5 cgb0 cgb1 cgb2 cgc0 cgc1 cgc2 cgc3 cgc4 cgc5 cgd0 cgd1 cgd2 hb; have HF := HF_; clear HF_; obtain ⟨cga0, cga1, cga2, cga3, cga4, cga5, cgb0, cgb1, cgb2, cgc0, cgc1, cgc2, cgc3, cgc4, cgc5, cgd0, cgd1, cgd2⟩ := HF.out.cells) | (go_at_call 19; (with_reducible refine (impl_BoxOk.calls k a2_0 a2_1 a2_2 a2_3 a2_4 a2_5 _ _ H2.out).mono ?_); rintro e w6 ⟨rfl, hb⟩; have HF_ := Aside0.mk (HF.out.below hb); clear HF cga0 cga1 cga2 cga3 cga4 cga5 cgb0 cgb1 cgb2 cgc0 cgc1 cgc2 cgc3 cgc4 cgc5 cgd0 cgd1 cgd2 hb; have HF := HF_; clear HF_; obtain ⟨cga0, cga1, cga2, cga3, cga4, cga5, cgb0, cgb1, cgb2, cgc0, cgc1, cgc2, cgc3, cgc4, cgc5, cgd0, cgd1, cgd2⟩ := HF.out.cells))
   go_meet
   case rel => exact ⟨true, by first | rfl | (simp; done), ⟨by first | rfl | (simp; done)⟩, HF⟩
  | true =>
  cases t3 with
  | false =>
   obtain ⟨cga0, cga1, cga2, cga3, cga4, cga5, cgb0, cgb1, cgb2, cgc0, cgc1, cgc2, cgc3, cgc4, cgc5, cgd0, cgd1, cgd2⟩ := HF.out.cells
   go_wp2_with (first | (go_at_call 19; (with_reducible refine (impl_BoxOk.calls k a0_0 a0_1 a0_2 a0_3 a0_4 a0_5 _ _ H1.out).mono ?_); rintro e w5 ⟨rfl, hb⟩; have HF_ := Aside0.mk (HF.out.below hb); clear HF cga0 cga1 cga2 cga3 cga4 cga5 cgb0 cgb1 cgb2 cgc0 cgc1 cgc2 cgc3 cgc4 cgc5 cgd0 cgd1 cgd2 hb; have HF := HF_; clear HF_; obtain ⟨cga0, cga1, cga2, cga3, cga4, cga5, cgb0, cgb1, cgb2, cgc0, cgc1, cgc2, cgc3, cgc4, cgc5, cgd0, cgd1, cgd2⟩ := HF.out.cells) | (go_at_call 19; (with_reducible refine (impl_BoxOk.calls k a2_0 a2_1 a2_2 a2_3 a2_4 a2_5 _ _ H2.out).mono ?_); rintro e w6 ⟨rfl, hb⟩; have HF_ := Aside0.mk (HF.out.below hb); clear HF cga0 cga1 cga2 cga3 cga4 cga5 cgb0 cgb1 cgb2 cgc0 cgc1 cgc2 cgc3 cgc4 cgc5 cgd0 cgd1 cgd2 hb; have HF := HF_; clear HF_; obtain ⟨cga0, cga1, cga2, cga3, cga4, cga5, cgb0, cgb1, cgb2, cgc0, cgc1, cgc2, cgc3, cgc4, cgc5, cgd0, cgd1, cgd2⟩ := HF.out.cells) | (go_at_call 54; (with_reducible refine (impl_spotOk.calls a1_0 a1_1 a1_2 _ _ H3.out).mono ?_); rintro e w7 ⟨rfl, hb⟩; have HF_ := Aside0.mk (HF.out.below hb); clear HF cga0 cga1 cga2 cga3 cga4 cga5 cgb0 cgb1 cgb2 cgc0 cgc1 cgc2 cgc3 cgc4 cgc5 cgd0 cgd1 cgd2 hb; have HF := HF_; clear HF_; obtain ⟨cga0, cga1, cga2, cga3, cga4, cga5, cgb0, cgb1, cgb2, cgc0, cgc1, cgc2, cgc3, cgc4, cgc5, cgd0, cgd1, cgd2⟩ := HF.out.cells))
   go_meet
   case rel => exact ⟨true, by first | rfl | (simp; done), ⟨by first | rfl | (simp; done)⟩, HF⟩
  | true =>
  cases t4 with
  | false =>
   obtain ⟨cga0, cga1, cga2, cga3, cga4, cga5, cgb0, cgb1, cgb2, cgc0, cgc1, cgc2, cgc3, cgc4, cgc5, cgd0, cgd1, cgd2⟩ := HF.out.cells
   go_wp2_with (first | (go_at_call 19; (with_reducible refine (impl_BoxOk.calls k a0_0 a0_1 a0_2 a0_3 a0_4 a0_5 _ _ H1.out).mono ?_); rintro e w5 ⟨rfl, hb⟩; have HF_ := Aside0.mk (HF.out.below hb); clear HF cga0 cga1 cga2 cga3 cga4 cga5 cgb0 cgb1 cgb2 cgc0 cgc1 cgc2 cgc3 cgc4 cgc5 cgd0 cgd1 cgd2 hb; have HF := HF_; clear HF_; obtain ⟨cga0, cga1, cga2, cga3, cga4, cga5, cgb0, cgb1, cgb2, cgc0, cgc1, cgc2, cgc3, cgc4, cgc5, cgd0, cgd1, cgd2⟩ := HF.out.cells) | (go_at_call 19; (with_reducible refine (impl_BoxOk.calls k a2_0 a2_1 a2_2 a2_3 a2_4 a2_5 _ _ H2.out).mono ?_); rintro e w6 ⟨rfl, hb⟩; have HF_ := Aside0.mk (HF.out.below hb); clear HF cga0 cga1 cga2 cga3 cga4 cga5 cgb0 cgb1 cgb2 cgc0 cgc1 cgc2 cgc3 cgc4 cgc5 cgd0 cgd1 cgd2 hb; have HF := HF_; clear HF_; obtain ⟨cga0, cga1, cga2, cga3, cga4, cga5, cgb0, cgb1, cgb2, cgc0, cgc1, cgc2, cgc3, cgc4, cgc5, cgd0, cgd1, cgd2⟩ := HF.out.cells) | (go_at_call 54; (with_reducible refine (impl_spotOk.calls a1_0 a1_1 a1_2 _ _ H3.out).mono ?_); rintro e w7 ⟨rfl, hb⟩; have HF_ := Aside0.mk (HF.out.below hb); clear HF cga0 cga1 cga2 cga3 cga4 cga5 cgb0 cgb1 cgb2 cgc0 cgc1 cgc2 cgc3 cgc4 cgc5 cgd0 cgd1 cgd2 hb; have HF := HF_; clear HF_; obtain ⟨cga0, cga1, cga2, cga3, cga4, cga5, cgb0, cgb1, cgb2, cgc0, cgc1, cgc2, cgc3, cgc4, cgc5, cgd0, cgd1, cgd2⟩ := HF.out.cells) | (go_at_call 54; (with_reducible refine (impl_spotOk.calls a3_0 a3_1 a3_2 _ _ H4.out).mono ?_); rintro e w8 ⟨rfl, hb⟩; have HF_ := Aside0.mk (HF.out.below hb); clear HF cga0 cga1 cga2 cga3 cga4 cga5 cgb0 cgb1 cgb2 cgc0 cgc1 cgc2 cgc3 cgc4 cgc5 cgd0 cgd1 cgd2 hb; have HF := HF_; clear HF_; obtain ⟨cga0, cga1, cga2, cga3, cga4, cga5, cgb0, cgb1, cgb2, cgc0, cgc1, cgc2, cgc3, cgc4, cgc5, cgd0, cgd1, cgd2⟩ := HF.out.cells))
   go_meet
   case rel => exact ⟨true, by first | rfl | (simp; done), ⟨by first | rfl | (simp; done)⟩, HF⟩
  | true =>
   obtain ⟨cga0, cga1, cga2, cga3, cga4, cga5, cgb0, cgb1, cgb2, cgc0, cgc1, cgc2, cgc3, cgc4, cgc5, cgd0, cgd1, cgd2⟩ := HF.out.cells
   go_wp2_with (first | (go_at_call 19; (with_reducible refine (impl_BoxOk.calls k a0_0 a0_1 a0_2 a0_3 a0_4 a0_5 _ _ H1.out).mono ?_); rintro e w5 ⟨rfl, hb⟩; have HF_ := Aside0.mk (HF.out.below hb); clear HF cga0 cga1 cga2 cga3 cga4 cga5 cgb0 cgb1 cgb2 cgc0 cgc1 cgc2 cgc3 cgc4 cgc5 cgd0 cgd1 cgd2 hb; have HF := HF_; clear HF_; obtain ⟨cga0, cga1, cga2, cga3, cga4, cga5, cgb0, cgb1, cgb2, cgc0, cgc1, cgc2, cgc3, cgc4, cgc5, cgd0, cgd1, cgd2⟩ := HF.out.cells) | (go_at_call 19; (with_reducible refine (impl_BoxOk.calls k a2_0 a2_1 a2_2 a2_3 a2_4 a2_5 _ _ H2.out).mono ?_); rintro e w6 ⟨rfl, hb⟩; have HF_ := Aside0.mk (HF.out.below hb); clear HF cga0 cga1 cga2 cga3 cga4 cga5 cgb0 cgb1 cgb2 cgc0 cgc1 cgc2 cgc3 cgc4 cgc5 cgd0 cgd1 cgd2 hb; have HF := HF_; clear HF_; obtain ⟨cga0, cga1, cga2, cga3, cga4, cga5, cgb0, cgb1, cgb2, cgc0, cgc1, cgc2, cgc3, cgc4, cgc5, cgd0, cgd1, cgd2⟩ := HF.out.cells) | (go_at_call 54; (with_reducible refine (impl_spotOk.calls a1_0 a1_1 a1_2 _ _ H3.out).mono ?_); rintro e w7 ⟨rfl, hb⟩; have HF_ := Aside0.mk (HF.out.below hb); clear HF cga0 cga1 cga2 cga3 cga4 cga5 cgb0 cgb1 cgb2 cgc0 cgc1 cgc2 cgc3 cgc4 cgc5 cgd0 cgd1 cgd2 hb; have HF := HF_; clear HF_; obtain ⟨cga0, cga1, cga2, cga3, cga4, cga5, cgb0, cgb1, cgb2, cgc0, cgc1, cgc2, cgc3, cgc4, cgc5, cgd0, cgd1, cgd2⟩ := HF.out.cells) | (go_at_call 54; (with_reducible refine (impl_spotOk.calls a3_0 a3_1 a3_2 _ _ H4.out).mono ?_); rintro e w8 ⟨rfl, hb⟩; have HF_ := Aside0.mk (HF.out.below hb); clear HF cga0 cga1 cga2 cga3 cga4 cga5 cgb0 cgb1 cgb2 cgc0 cgc1 cgc2 cgc3 cgc4 cgc5 cgd0 cgd1 cgd2 hb; have HF := HF_; clear HF_; obtain ⟨cga0, cga1, cga2, cga3, cga4, cga5, cgb0, cgb1, cgb2, cgc0, cgc1, cgc2, cgc3, cgc4, cgc5, cgd0, cgd1, cgd2⟩ := HF.out.cells))
   go_meet
   case rel => exact ⟨(a1_0 == a3_0 && (a1_1 == a3_1 && (a1_2 == a3_2))), by first | rfl | (simp; done), ⟨by first | rfl | (simp; done)⟩, HF⟩
 case rest =>
  clear HF
  obtain ⟨bb, rfl, H34, HF⟩ := hcut
  clear H1 H2 H3 H4
  obtain ⟨cga0, cga1, cga2, cga3, cga4, cga5, cgb0, cgb1, cgb2, cgc0, cgc1, cgc2, cgc3, cgc4, cgc5, cgd0, cgd1, cgd2⟩ := HF.out.cells
  cases bb with
  | true =>
   go_wp2
   go_ret
   exact ⟨by rw [← H34.out]; first | rfl | simp, HF.out.2.2.2.2⟩
  | false =>
   have r0 : IntKind.i64.wrap (a1_0 - a3_0) = wrap64 (a1_0 - a3_0) := IntWalk.i64_left _
   have r1 : IntKind.i64.wrap (a1_1 - a3_1) = wrap64 (a1_1 - a3_1) := IntWalk.i64_left _
   have r2 : IntKind.i64.wrap (a1_2 - a3_2) = wrap64 (a1_2 - a3_2) := IntWalk.i64_left _
   go_upto_region 3 with (fail)
   go_quiet (first | (go_at_call 55; (with_reducible refine (impl_size.calls (wrap64 (a1_0 - a3_0)) _ _ E0.out).mono ?_); rintro e w' ⟨rfl, ⟨⟨nd, rfl⟩⟩⟩; (first | exact ⟨rfl, _, World.drewN_drewN _ _ _⟩ | exact ⟨rfl, _, Eq.trans (World.drewN_drewN _ _ _) (congrArg (World.drewN _) (Nat.add_assoc _ _ _))⟩ | exact ⟨rfl, _, rfl⟩)) | (go_at_call 55; (with_reducible refine (impl_size.calls (wrap64 (a1_1 - a3_1)) _ _ E1.out).mono ?_); rintro e w' ⟨rfl, ⟨⟨nd, rfl⟩⟩⟩; (first | exact ⟨rfl, _, World.drewN_drewN _ _ _⟩ | exact ⟨rfl, _, Eq.trans (World.drewN_drewN _ _ _) (congrArg (World.drewN _) (Nat.add_assoc _ _ _))⟩ | exact ⟨rfl, _, rfl⟩)) | (go_at_call 55; (with_reducible refine (impl_size.calls (wrap64 (a1_2 - a3_2)) _ _ E2.out).mono ?_); rintro e w' ⟨rfl, ⟨⟨nd, rfl⟩⟩⟩; (first | exact ⟨rfl, _, World.drewN_drewN _ _ _⟩ | exact ⟨rfl, _, Eq.trans (World.drewN_drewN _ _ _) (congrArg (World.drewN _) (Nat.add_assoc _ _ _))⟩ | exact ⟨rfl, _, rfl⟩)))
   have HF2 : Aside0 (impl_KeepsApart.St a0_0 a0_1 a0_2 a0_3 a0_4 a0_5 a1_0 a1_1 a1_2 a2_0 a2_1 a2_2 a2_3 a2_4 a2_5 a3_0 a3_1 a3_2 ga gb gc gd w (wc.drewN nq)) := ⟨HF.out.below (pw_below_drewN (Below.refl _ _) nq)⟩
   clear HF cga0 cga1 cga2 cga3 cga4 cga5 cgb0 cgb1 cgb2 cgc0 cgc1 cgc2 cgc3 cgc4 cgc5 cgd0 cgd1 cgd2 r0 r1 r2 E0 E1 E2
   generalize wc.drewN nq = w9 at HF2 ⊢
   obtain ⟨cga0, cga1, cga2, cga3, cga4, cga5, cgb0, cgb1, cgb2, cgc0, cgc1, cgc2, cgc3, cgc4, cgc5, cgd0, cgd1, cgd2⟩ := HF2.out.cells
   have HB : Aside0 (Below w.heap.size w w9) := ⟨HF2.out.2.2.2.2⟩
   by_cases q0 : v = 0
   ·subst q0
    go_wp2_with (first | (go_at_call 56; (with_reducible refine (impl_Apart.calls k a0_2 a2_2 _ _ E3.out).mono ?_); rintro e w10 ⟨rfl, hb⟩; have HB_ := Aside0.mk (below_step HB.out hb); clear HB HF2 hb; have HB := HB_; clear HB_))
    go_ret
    exact ⟨by rw [← H34.out]; first | rfl | (simp [impl_KeepsApart.val, *]; done), HB.out⟩
   ·have b0 : (v == 0) = false := beq_eq_false_iff_ne.2 q0
    by_cases q1 : v = 1
    ·subst q1
     go_wp2_with (first | (go_at_call 56; (with_reducible refine (impl_Apart.calls k a0_2 a2_2 _ _ E3.out).mono ?_); rintro e w10 ⟨rfl, hb⟩; have HB_ := Aside0.mk (below_step HB.out hb); clear HB HF2 hb; have HB := HB_; clear HB_))
     go_ret
     exact ⟨by rw [← H34.out]; first | rfl | (simp [impl_KeepsApart.val, *]; done), HB.out⟩
    ·have b1 : (v == 1) = false := beq_eq_false_iff_ne.2 q1
     by_cases q2 : v = 2
     ·subst q2
      go_wp2_with (first | (go_at_call 56; (with_reducible refine (impl_Apart.calls k a0_2 a2_2 _ _ E3.out).mono ?_); rintro e w10 ⟨rfl, hb⟩; have HB_ := Aside0.mk (below_step HB.out hb); clear HB HF2 hb; have HB := HB_; clear HB_))
      go_ret
      exact ⟨by rw [← H34.out]; first | rfl | (simp [impl_KeepsApart.val, *]; done), HB.out⟩
     ·have b2 : (v == 2) = false := beq_eq_false_iff_ne.2 q2
      go_wp2_with (first | (go_at_call 56; (with_reducible refine (impl_Apart.calls k a0_2 a2_2 _ _ E3.out).mono ?_); rintro e w10 ⟨rfl, hb⟩; have HB_ := Aside0.mk (below_step HB.out hb); clear HB HF2 hb; have HB := HB_; clear HB_))
      go_ret
      exact ⟨by rw [← H34.out]; first | rfl | (simp [impl_KeepsApart.val, *]; done), HB.out⟩


-- NOT PRINTED: function 32 (impl_StowCode_7_1)

-- NOT PRINTED: function 31 (impl_StowCode_7)

end Go.Proofs.Ythfkmjbefdmopaa.PA
