/- What Go's functions that the laws reach come to: laid by a program of this session over the print's words. -/
import Derived.Test.YthfkmjbefdmopaaPAx0
import Derived.Test.YthfkmjbefdmopaaPAx22
namespace Go.Proofs.Ythfkmjbefdmopaa.PA
open Go.RowKit Go.Proofs.YthfkmjbefdmopaaW.PrintWords Go.Proofs.YthfkmjbefdmopaaW.PrintLast Go.Proofs.YthfkmjbefdmopaaW.PrintMore
attribute [local go_sem] max2_int min2_int max_two min_two max_three min_three max_four min_four   -- for this text's walks alone
set_option linter.unusedVariables false
set_option linter.unusedSimpArgs false

/-! ### laws_eqStowS: function 11 -/
def laws_eqStowS.l0 : Nat → List (S51) → List (S51) → Int → Option (Bool)
  | 0, _, _, _ => none
  | k + 1, x0, x1, x5 => if x5 < (x0.length : Int) then (if 0 ≤ x5 then (if x5 < (x1.length : Int) then ((laws_eqStow.f ((rd_T51 x0 x5).f0.f0) ((rd_T51 x0 x5).f0.f1) ((rd_T51 x0 x5).f0.f2) ((rd_T51 x0 x5).f0.f3) ((rd_T51 x0 x5).f0.f4) ((rd_T51 x0 x5).f0.f5) ((rd_T51 x0 x5).f1.f0) ((rd_T51 x0 x5).f1.f1) ((rd_T51 x0 x5).f1.f2) ((rd_T51 x1 x5).f0.f0) ((rd_T51 x1 x5).f0.f1) ((rd_T51 x1 x5).f0.f2) ((rd_T51 x1 x5).f0.f3) ((rd_T51 x1 x5).f0.f4) ((rd_T51 x1 x5).f0.f5) ((rd_T51 x1 x5).f1.f0) ((rd_T51 x1 x5).f1.f1) ((rd_T51 x1 x5).f1.f2)).bind fun t260 => (if t260 = true then (laws_eqStowS.l0 k x0 x1 (wrap64 (x5 + 1))) else (some false))) else (none)) else (none)) else (some true)
def laws_eqStowS.f (k : Nat) (l0 : List (S51)) (l1 : List (S51)) : Option (Bool) := if (l0.length : Int) = (l1.length : Int) then (laws_eqStowS.l0 k l0 l1 0) else (some false)
theorem laws_eqStowS.mono_l : ∀ k, (∀ y0 y1 y2, LeO (laws_eqStowS.l0 k y0 y1 y2) (laws_eqStowS.l0 (k + 1) y0 y1 y2))
  | 0 => fun _ _ _ r h => by simp [laws_eqStowS.l0] at h
  | k + 1 => by
    have ih0 := laws_eqStowS.mono_l k
    · intro y0 y1 y2
      unfold laws_eqStowS.l0
      repeat' first
      | (with_reducible exact ih0 _ _ _)
      | (with_reducible exact LeO.refl _)
      | (with_reducible exact LeO.none _)
      | (with_reducible refine LeO.ite ?_ ?_)
      | (with_reducible refine LeO.bind ?_ (fun _ => ?_))
      | exact ih0 _ _ _
      | exact LeO.none _
      | refine LeO.ite ?_ ?_
      | refine LeO.bind ?_ (fun _ => ?_)
theorem laws_eqStowS.mono : ∀ a0 a1 k, LeO (laws_eqStowS.f k a0 a1) (laws_eqStowS.f (k + 1) a0 a1) := by
  intro a0 a1 k
  have ih0 := laws_eqStowS.mono_l k
  unfold laws_eqStowS.f
  repeat' first
      | (with_reducible exact ih0 _ _ _)
      | (with_reducible exact LeO.refl _)
      | (with_reducible exact LeO.none _)
      | (with_reducible refine LeO.ite ?_ ?_)
      | (with_reducible refine LeO.bind ?_ (fun _ => ?_))
      | exact ih0 _ _ _
      | exact LeO.none _
      | refine LeO.ite ?_ ?_
      | refine LeO.bind ?_ (fun _ => ?_)
def laws_eqStowS.T6 : Bool × List (List Nat × List Nat) := (true, [([], []), ([], []), ([0, 1], [0, 1]), ([2], [2]), ([], []), ([], []), ([4, 5], [4, 5]), ([6], [6]), ([3, 7], [3, 7]), ([8], [8])])
def laws_eqStowS.B6 : List Nat := [0, 0, 3, 7, 0, 0, 48, 112, 255, 511]
theorem laws_eqStowS.tab6 : rtab .any (opsOf Try.f11 6) = laws_eqStowS.T6 := by kernel_rfl
theorem laws_eqStowS.bits6 : waitsOk laws_eqStowS.T6.2 laws_eqStowS.B6 = true := by kernel_rfl
set_option maxHeartbeats 8000000 in
set_option maxRecDepth 100000 in
theorem laws_eqStowS.calls (k : Nat) (A0 : Option Addr) (c0 : Nat) (l0 : List (S51)) (A1 : Option Addr) (c1 : Nat) (l1 : List (S51)) (r : Bool) (w : World) (hr0 : Kd.C k51 w A0 l0.length l0) (hc0 : l0.length ≤ c0) (hr1 : Kd.C k51 w A1 l1.length l1) (hc1 : l1.length ≤ c1) (h : laws_eqStowS.f k l0 l1 = some r) :
 Calls Try.prog 11 #[.slice A0 l0.length c0, .slice A1 l1.length c1] w fun e w' => e = .returned (.bool r) ∧ Below w.heap.size w w' := by
 have hu51 := Try.underlying51
 have HR0 := Aside0.mk hr0
 have HC0 := Aside0.mk hc0
 clear hr0 hc0
 have HR1 := Aside0.mk hr1
 have HC1 := Aside0.mk hc1
 clear hr1 hc1
 have HB := Aside0.mk (Below.refl w.heap.size w)
 have H : (if (l0.length : Int) = (l1.length : Int) then (laws_eqStowS.l0 k l0 l1 0) else (some false)) = some r := h
 clear h
 by_cases c3 : (l0.length : Int) = (l1.length : Int)
 ·rw [if_pos c3] at H
  have c3b0 : ((l0.length : Int) == (l1.length : Int)) = true := beq_iff_eq.mpr c3
  have c3b1 : ((l0.length : Int) != (l1.length : Int)) = false := bne_eq_false_iff_eq.mpr c3
  have c3b2 : (l0.length == l1.length) = true := by first | simpa using c3 | (simp at c3 ⊢; omega)
  clear c3
  have H' := Aside0.mk H
  clear H
  go_enter Try.func11, Try.ntmps11
  go_wp2
  go_loopg [5] k (fun kq v5 w' => ∃ (x5_1 : Int), v5 = .int .i64 x5_1 ∧ Aside0 (laws_eqStowS.l0 kq l0 l1 x5_1 = some r) ∧ Aside0 (kq ≤ k) ∧ Aside0 (Below w.heap.size w w'))
  case atStart => exact ⟨(0), (by first | rfl | (simp; done) | (simp [*]; done)), H', ⟨Nat.le_refl _⟩, ⟨Sk.bl_⟩⟩
  case round =>
   clear H'
   (try clear c1); (try clear p2); (try clear c3); (try clear c3b0); (try clear c3b1); (try clear c3b2)
   obtain ⟨x5_1, rfl, HA, HK1, HB⟩ := hrel
   cases gk with
   | zero => exact absurd HA.out (by simp [laws_eqStowS.l0])
   | succ k1 =>
    have H := HA.out
    clear HA
    simp only [laws_eqStowS.l0] at H
    by_cases c4 : x5_1 < (l0.length : Int)
    ·rw [if_pos c4] at H
     have c4b0 : decide (x5_1 < (l0.length : Int)) = true := decide_eq_true c4
     clear c4
     by_cases c5 : 0 ≤ x5_1
     ·rw [if_pos c5] at H
      have c5b0 : decide (0 ≤ x5_1) = true := decide_eq_true c5
      clear c5
      by_cases c6 : x5_1 < (l1.length : Int)
      ·rw [if_pos c6] at H
       have c6b0 : decide (x5_1 < (l1.length : Int)) = true := decide_eq_true c6
       clear c6
       replace H := Option.bind_eq_some_iff.mp H
       obtain ⟨t260, A70, H⟩ := H
       (try dsimp only at H)
       have A7 := Aside0.mk A70
       clear A70
       by_cases c8 : t260 = true
       ·subst c8
        rw [if_pos rfl] at H
        have H' := Aside0.mk H
        clear H
        try go_wp2
        have n0_ := Aside0.mk (below_drew1 HB.out)
        clear HB
        have HB := n0_
        clear n0_
        have p258 : 0 ≤ (x5_1 : Int) := of_decide_eq_true (by first | (with_reducible assumption) | assumption)
        have q258 : x5_1 < (l0.length : Int) := of_decide_eq_true (by first | (with_reducible assumption) | assumption)
        obtain ⟨ad258, e258, hx258_0, hx258_1, hx258_2, hx258_3, hx258_4, hx258_5, hx258_6, hx258_7, hx258_8⟩ := at_T51 HR0.out x5_1 p258 q258
        have hw258_8 := hx258_8
        have hw258_7 := hx258_7
        have hw258_6 := hx258_6
        have hw258_5 := hx258_5
        have hw258_4 := hx258_4
        have hw258_3 := hx258_3
        have hw258_2 := hx258_2
        have hw258_1 := hx258_1
        have hw258_0 := hx258_0
        cases e258
        replace hx258_0 := (HB.out.cell (World.block_lt_of_cell? w _ hx258_0)).trans hx258_0
        replace hx258_1 := (HB.out.cell (World.block_lt_of_cell? w _ hx258_1)).trans hx258_1
        replace hx258_2 := (HB.out.cell (World.block_lt_of_cell? w _ hx258_2)).trans hx258_2
        replace hx258_3 := (HB.out.cell (World.block_lt_of_cell? w _ hx258_3)).trans hx258_3
        replace hx258_4 := (HB.out.cell (World.block_lt_of_cell? w _ hx258_4)).trans hx258_4
        replace hx258_5 := (HB.out.cell (World.block_lt_of_cell? w _ hx258_5)).trans hx258_5
        replace hx258_6 := (HB.out.cell (World.block_lt_of_cell? w _ hx258_6)).trans hx258_6
        replace hx258_7 := (HB.out.cell (World.block_lt_of_cell? w _ hx258_7)).trans hx258_7
        replace hx258_8 := (HB.out.cell (World.block_lt_of_cell? w _ hx258_8)).trans hx258_8
        replace p258 := eq_true p258
        replace q258 := eq_true q258
        have p259 : 0 ≤ (x5_1 : Int) := of_decide_eq_true (by first | (with_reducible assumption) | assumption)
        have q259 : x5_1 < (l1.length : Int) := of_decide_eq_true (by first | (with_reducible assumption) | assumption)
        obtain ⟨ad259, e259, hx259_0, hx259_1, hx259_2, hx259_3, hx259_4, hx259_5, hx259_6, hx259_7, hx259_8⟩ := at_T51 HR1.out x5_1 p259 q259
        have hw259_8 := hx259_8
        have hw259_7 := hx259_7
        have hw259_6 := hx259_6
        have hw259_5 := hx259_5
        have hw259_4 := hx259_4
        have hw259_3 := hx259_3
        have hw259_2 := hx259_2
        have hw259_1 := hx259_1
        have hw259_0 := hx259_0
        cases e259
        replace hx259_0 := (HB.out.cell (World.block_lt_of_cell? w _ hx259_0)).trans hx259_0
        replace hx259_1 := (HB.out.cell (World.block_lt_of_cell? w _ hx259_1)).trans hx259_1
        replace hx259_2 := (HB.out.cell (World.block_lt_of_cell? w _ hx259_2)).trans hx259_2
        replace hx259_3 := (HB.out.cell (World.block_lt_of_cell? w _ hx259_3)).trans hx259_3
        replace hx259_4 := (HB.out.cell (World.block_lt_of_cell? w _ hx259_4)).trans hx259_4
        replace hx259_5 := (HB.out.cell (World.block_lt_of_cell? w _ hx259_5)).trans hx259_5
        replace hx259_6 := (HB.out.cell (World.block_lt_of_cell? w _ hx259_6)).trans hx259_6
        replace hx259_7 := (HB.out.cell (World.block_lt_of_cell? w _ hx259_7)).trans hx259_7
        replace hx259_8 := (HB.out.cell (World.block_lt_of_cell? w _ hx259_8)).trans hx259_8
        replace p259 := eq_true p259
        replace q259 := eq_true q259
        refine start_ (n := 10) (S := fun w' => w'.cell? (ad258.add ((x5_1).toNat * 9)) = some (.string ((rd_T51 l0 x5_1).f0.f0)) ∧ w'.cell? ⟨(ad258.add ((x5_1).toNat * 9)).block, (ad258.add ((x5_1).toNat * 9)).off + 1, none⟩ = some (.int .i64 ((rd_T51 l0 x5_1).f0.f1)) ∧ w'.cell? ⟨(ad258.add ((x5_1).toNat * 9)).block, (ad258.add ((x5_1).toNat * 9)).off + 2, none⟩ = some (.int .i64 ((rd_T51 l0 x5_1).f0.f2)) ∧ w'.cell? ⟨(ad258.add ((x5_1).toNat * 9)).block, (ad258.add ((x5_1).toNat * 9)).off + 3, none⟩ = some (.bool ((rd_T51 l0 x5_1).f0.f3)) ∧ w'.cell? ⟨(ad258.add ((x5_1).toNat * 9)).block, (ad258.add ((x5_1).toNat * 9)).off + 4, none⟩ = some (.int .i64 ((rd_T51 l0 x5_1).f0.f4)) ∧ w'.cell? ⟨(ad258.add ((x5_1).toNat * 9)).block, (ad258.add ((x5_1).toNat * 9)).off + 5, none⟩ = some (.int .i64 ((rd_T51 l0 x5_1).f0.f5)) ∧ w'.cell? ⟨(ad258.add ((x5_1).toNat * 9)).block, (ad258.add ((x5_1).toNat * 9)).off + 6, none⟩ = some (.int .i64 ((rd_T51 l0 x5_1).f1.f0)) ∧ w'.cell? ⟨(ad258.add ((x5_1).toNat * 9)).block, (ad258.add ((x5_1).toNat * 9)).off + 7, none⟩ = some (.int .i64 ((rd_T51 l0 x5_1).f1.f1)) ∧ w'.cell? ⟨(ad258.add ((x5_1).toNat * 9)).block, (ad258.add ((x5_1).toNat * 9)).off + 8, none⟩ = some (.int .i64 ((rd_T51 l0 x5_1).f1.f2)) ∧ w'.cell? (ad259.add ((x5_1).toNat * 9)) = some (.string ((rd_T51 l1 x5_1).f0.f0)) ∧ w'.cell? ⟨(ad259.add ((x5_1).toNat * 9)).block, (ad259.add ((x5_1).toNat * 9)).off + 1, none⟩ = some (.int .i64 ((rd_T51 l1 x5_1).f0.f1)) ∧ w'.cell? ⟨(ad259.add ((x5_1).toNat * 9)).block, (ad259.add ((x5_1).toNat * 9)).off + 2, none⟩ = some (.int .i64 ((rd_T51 l1 x5_1).f0.f2)) ∧ w'.cell? ⟨(ad259.add ((x5_1).toNat * 9)).block, (ad259.add ((x5_1).toNat * 9)).off + 3, none⟩ = some (.bool ((rd_T51 l1 x5_1).f0.f3)) ∧ w'.cell? ⟨(ad259.add ((x5_1).toNat * 9)).block, (ad259.add ((x5_1).toNat * 9)).off + 4, none⟩ = some (.int .i64 ((rd_T51 l1 x5_1).f0.f4)) ∧ w'.cell? ⟨(ad259.add ((x5_1).toNat * 9)).block, (ad259.add ((x5_1).toNat * 9)).off + 5, none⟩ = some (.int .i64 ((rd_T51 l1 x5_1).f0.f5)) ∧ w'.cell? ⟨(ad259.add ((x5_1).toNat * 9)).block, (ad259.add ((x5_1).toNat * 9)).off + 6, none⟩ = some (.int .i64 ((rd_T51 l1 x5_1).f1.f0)) ∧ w'.cell? ⟨(ad259.add ((x5_1).toNat * 9)).block, (ad259.add ((x5_1).toNat * 9)).off + 7, none⟩ = some (.int .i64 ((rd_T51 l1 x5_1).f1.f1)) ∧ w'.cell? ⟨(ad259.add ((x5_1).toNat * 9)).block, (ad259.add ((x5_1).toNat * 9)).off + 8, none⟩ = some (.int .i64 ((rd_T51 l1 x5_1).f1.f2))) (ds := []) #[false, false, false, false, false, false, false, false, false, false] (by kernel_rfl) rfl rfl ⟨((HB.out.cell (World.block_lt_of_cell? w _ hw258_0)).trans hw258_0), ((HB.out.cell (World.block_lt_of_cell? w _ hw258_1)).trans hw258_1), ((HB.out.cell (World.block_lt_of_cell? w _ hw258_2)).trans hw258_2), ((HB.out.cell (World.block_lt_of_cell? w _ hw258_3)).trans hw258_3), ((HB.out.cell (World.block_lt_of_cell? w _ hw258_4)).trans hw258_4), ((HB.out.cell (World.block_lt_of_cell? w _ hw258_5)).trans hw258_5), ((HB.out.cell (World.block_lt_of_cell? w _ hw258_6)).trans hw258_6), ((HB.out.cell (World.block_lt_of_cell? w _ hw258_7)).trans hw258_7), ((HB.out.cell (World.block_lt_of_cell? w _ hw258_8)).trans hw258_8), ((HB.out.cell (World.block_lt_of_cell? w _ hw259_0)).trans hw259_0), ((HB.out.cell (World.block_lt_of_cell? w _ hw259_1)).trans hw259_1), ((HB.out.cell (World.block_lt_of_cell? w _ hw259_2)).trans hw259_2), ((HB.out.cell (World.block_lt_of_cell? w _ hw259_3)).trans hw259_3), ((HB.out.cell (World.block_lt_of_cell? w _ hw259_4)).trans hw259_4), ((HB.out.cell (World.block_lt_of_cell? w _ hw259_5)).trans hw259_5), ((HB.out.cell (World.block_lt_of_cell? w _ hw259_6)).trans hw259_6), ((HB.out.cell (World.block_lt_of_cell? w _ hw259_7)).trans hw259_7), ((HB.out.cell (World.block_lt_of_cell? w _ hw259_8)).trans hw259_8)⟩ (fun hHeld => ?_); refine with_tabW laws_eqStowS.tab6 laws_eqStowS.bits6 (fun HT_ HW_ => ?_)
        generalize wr.drew = w9 at HB hx258_0 hx258_1 hx258_2 hx258_3 hx258_4 hx258_5 hx258_6 hx258_7 hx258_8 hx259_0 hx259_1 hx259_2 hx259_3 hx259_4 hx259_5 hx259_6 hx259_7 hx259_8 hHeld ⊢
        refine pure_ (i := 0) (N := some 17) (v := ?_) (a' := ?_) #[true, false, false, false, false, false, false, false, false, false] rfl rfl (any_of HT_.out (by kernel_rfl)) (fun _ _ _ h => h) (Or.inl ⟨by rfl, ?_⟩) ?_ ?_
        rotate_left
        ·intro w'
         go_simp
         with_reducible rfl
        rotate_left
        ·simp only [Act.put, List.setIfInBounds_toArray, List.set_cons_zero, List.set_cons_succ, i64_w, i32_w]
         rfl
        refine pure_ (i := 1) (N := some 18) (v := ?_) (a' := ?_) #[true, true, false, false, false, false, false, false, false, false] rfl rfl (any_of HT_.out (by kernel_rfl)) (fun _ _ _ h => h) (Or.inl ⟨by rfl, ?_⟩) ?_ ?_
        rotate_left
        ·intro w'
         go_simp
         with_reducible rfl
        rotate_left
        ·simp only [Act.put, List.setIfInBounds_toArray, List.set_cons_zero, List.set_cons_succ, i64_w, i32_w]
         rfl
        refine pure_ (i := 2) (N := some 19) (v := ?_) (a' := ?_) #[true, true, true, false, false, false, false, false, false, false] rfl rfl (any_of HT_.out (by kernel_rfl)) (fun _ _ _ h => h) (Or.inl ⟨by rfl, ?_⟩) ?_ ?_
        rotate_left
        ·intro w'
         go_simp
         with_reducible rfl
        rotate_left
        ·simp only [Act.put, List.setIfInBounds_toArray, List.set_cons_zero, List.set_cons_succ, i64_w, i32_w]
         rfl
        refine pure_ (i := 4) (N := some 21) (v := ?_) (a' := ?_) #[true, true, true, false, true, false, false, false, false, false] rfl rfl (any_of HT_.out (by kernel_rfl)) (fun _ _ _ h => h) (Or.inl ⟨by rfl, ?_⟩) ?_ ?_
        rotate_left
        ·intro w'
         go_simp
         with_reducible rfl
        rotate_left
        ·simp only [Act.put, List.setIfInBounds_toArray, List.set_cons_zero, List.set_cons_succ, i64_w, i32_w]
         rfl
        refine pure_ (i := 5) (N := some 22) (v := ?_) (a' := ?_) #[true, true, true, false, true, true, false, false, false, false] rfl rfl (any_of HT_.out (by kernel_rfl)) (fun _ _ _ h => h) (Or.inl ⟨by rfl, ?_⟩) ?_ ?_
        rotate_left
        ·intro w'
         go_simp
         with_reducible rfl
        rotate_left
        ·simp only [Act.put, List.setIfInBounds_toArray, List.set_cons_zero, List.set_cons_succ, i64_w, i32_w]
         rfl
        refine pure_ (i := 6) (N := some 23) (v := ?_) (a' := ?_) #[true, true, true, false, true, true, true, false, false, false] rfl rfl (any_of HT_.out (by kernel_rfl)) (fun _ _ _ h => h) (Or.inl ⟨by rfl, ?_⟩) ?_ ?_
        rotate_left
        ·intro w'
         go_simp
         with_reducible rfl
        rotate_left
        ·simp only [Act.put, List.setIfInBounds_toArray, List.set_cons_zero, List.set_cons_succ, i64_w, i32_w]
         rfl
        refine take_ (i := 3) (N := some 20) (v := ?_) (a' := ?_) #[true, true, true, true, true, true, true, false, false, false] rfl rfl (take_ofW HT_.out HW_.out (by kernel_rfl)) (fun _ _ _ h => h) (Or.inl ⟨by rfl, ?_⟩) hHeld ?_ ?_
        rotate_left
        ·rintro w' ⟨s0, s1, s2, s3, s4, s5, s6, s7, s8, s9, s10, s11, s12, s13, s14, s15, s16, s17⟩
         go_simp
         with_reducible rfl
        rotate_left
        ·simp only [Act.put, List.setIfInBounds_toArray, List.set_cons_zero, List.set_cons_succ, i64_w, i32_w]
         rfl
        refine take_ (i := 7) (N := some 24) (v := ?_) (a' := ?_) #[true, true, true, true, true, true, true, true, false, false] rfl rfl (take_ofW HT_.out HW_.out (by kernel_rfl)) (fun _ _ _ h => h) (Or.inl ⟨by rfl, ?_⟩) hHeld ?_ ?_
        rotate_left
        ·rintro w' ⟨s0, s1, s2, s3, s4, s5, s6, s7, s8, s9, s10, s11, s12, s13, s14, s15, s16, s17⟩
         go_simp
         with_reducible rfl
        rotate_left
        ·simp only [Act.put, List.setIfInBounds_toArray, List.set_cons_zero, List.set_cons_succ, i64_w, i32_w]
         rfl
        refine one_ (i := 8) (N := some 25) #[true, true, true, true, true, true, true, true, true, false] rfl rfl (one_of HT_.out (by kernel_rfl)) (by decide) (fun K hK => ?_)
        refine goes_ Try.func35 (by kernel_rfl) rfl #[.agg #[.string ((rd_T51 l0 x5_1).f0.f0), .int .i64 ((rd_T51 l0 x5_1).f0.f1), .int .i64 ((rd_T51 l0 x5_1).f0.f2), .bool ((rd_T51 l0 x5_1).f0.f3), .int .i64 ((rd_T51 l0 x5_1).f0.f4), .int .i64 ((rd_T51 l0 x5_1).f0.f5), .int .i64 ((rd_T51 l0 x5_1).f1.f0), .int .i64 ((rd_T51 l0 x5_1).f1.f1), .int .i64 ((rd_T51 l0 x5_1).f1.f2)], .agg #[.string ((rd_T51 l1 x5_1).f0.f0), .int .i64 ((rd_T51 l1 x5_1).f0.f1), .int .i64 ((rd_T51 l1 x5_1).f0.f2), .bool ((rd_T51 l1 x5_1).f0.f3), .int .i64 ((rd_T51 l1 x5_1).f0.f4), .int .i64 ((rd_T51 l1 x5_1).f0.f5), .int .i64 ((rd_T51 l1 x5_1).f1.f0), .int .i64 ((rd_T51 l1 x5_1).f1.f1), .int .i64 ((rd_T51 l1 x5_1).f1.f2)]] (by rfl) rfl rfl (by (try simp only [List.map_toArray, List.map_cons, List.map_nil]); first | done | rfl | (simp only [List.length_drop, List.length_take]; rfl)) ?_
        with_reducible refine (laws_eqStow.calls ((rd_T51 l0 x5_1).f0.f0) ((rd_T51 l0 x5_1).f0.f1) ((rd_T51 l0 x5_1).f0.f2) ((rd_T51 l0 x5_1).f0.f3) ((rd_T51 l0 x5_1).f0.f4) ((rd_T51 l0 x5_1).f0.f5) ((rd_T51 l0 x5_1).f1.f0) ((rd_T51 l0 x5_1).f1.f1) ((rd_T51 l0 x5_1).f1.f2) ((rd_T51 l1 x5_1).f0.f0) ((rd_T51 l1 x5_1).f0.f1) ((rd_T51 l1 x5_1).f0.f2) ((rd_T51 l1 x5_1).f0.f3) ((rd_T51 l1 x5_1).f0.f4) ((rd_T51 l1 x5_1).f0.f5) ((rd_T51 l1 x5_1).f1.f0) ((rd_T51 l1 x5_1).f1.f1) ((rd_T51 l1 x5_1).f1.f2) true _ A7.out).mono ?_
        rintro e w10 ⟨rfl, hb⟩
        refine ⟨_, rfl, ?_⟩
        have n0_ := Aside0.mk (below_step Sk.bl_ hb)
        clear HB
        have HB := n0_
        clear n0_
        (try clear hb)
        (try clear hb2)
        (try clear hk)
        (try clear hi)
        refine hK.out _ _ ⟨((HB.out.cell (World.block_lt_of_cell? w _ hw258_0)).trans hw258_0), ((HB.out.cell (World.block_lt_of_cell? w _ hw258_1)).trans hw258_1), ((HB.out.cell (World.block_lt_of_cell? w _ hw258_2)).trans hw258_2), ((HB.out.cell (World.block_lt_of_cell? w _ hw258_3)).trans hw258_3), ((HB.out.cell (World.block_lt_of_cell? w _ hw258_4)).trans hw258_4), ((HB.out.cell (World.block_lt_of_cell? w _ hw258_5)).trans hw258_5), ((HB.out.cell (World.block_lt_of_cell? w _ hw258_6)).trans hw258_6), ((HB.out.cell (World.block_lt_of_cell? w _ hw258_7)).trans hw258_7), ((HB.out.cell (World.block_lt_of_cell? w _ hw258_8)).trans hw258_8), ((HB.out.cell (World.block_lt_of_cell? w _ hw259_0)).trans hw259_0), ((HB.out.cell (World.block_lt_of_cell? w _ hw259_1)).trans hw259_1), ((HB.out.cell (World.block_lt_of_cell? w _ hw259_2)).trans hw259_2), ((HB.out.cell (World.block_lt_of_cell? w _ hw259_3)).trans hw259_3), ((HB.out.cell (World.block_lt_of_cell? w _ hw259_4)).trans hw259_4), ((HB.out.cell (World.block_lt_of_cell? w _ hw259_5)).trans hw259_5), ((HB.out.cell (World.block_lt_of_cell? w _ hw259_6)).trans hw259_6), ((HB.out.cell (World.block_lt_of_cell? w _ hw259_7)).trans hw259_7), ((HB.out.cell (World.block_lt_of_cell? w _ hw259_8)).trans hw259_8)⟩ (fun hHeld => ?_)
        clear hK K
        refine norm_ (a' := ?_) ?_ ?_
        rotate_left
        ·show Act.put _ (some 25) _ = _
         simp only [Act.put, List.setIfInBounds_toArray, List.set_cons_zero, List.set_cons_succ, i64_w, i32_w]
         rfl
        refine pure_ (i := 9) (N := some 26) (v := ?_) (a' := ?_) #[true, true, true, true, true, true, true, true, true, true] rfl rfl (any_of HT_.out (by kernel_rfl)) (fun _ _ _ h => h) (Or.inl ⟨by rfl, ?_⟩) ?_ ?_
        rotate_left
        ·intro w'
         go_simp
         with_reducible rfl
        rotate_left
        ·simp only [Act.put, List.setIfInBounds_toArray, List.set_cons_zero, List.set_cons_succ, i64_w, i32_w]
         rfl
        refine done_ (done_of HT_.out (by kernel_rfl)) ?_
        try go_wp2
        go_roundg k1
        case measure => have := HK1.out; omega
        case rel => exact ⟨(wrap64 (x5_1 + 1)), (by first | rfl | (simp; done) | (simp [*]; done)), H', ⟨by have := HK1.out; omega⟩, ⟨Sk.bl_⟩⟩
       ·replace c8 := Bool.eq_false_iff.mpr c8
        subst c8
        rw [if_neg (show ¬ (false = true) by decide)] at H
        obtain rfl := Option.some.inj H
        try go_wp2
        have n0_ := Aside0.mk (below_drew1 HB.out)
        clear HB
        have HB := n0_
        clear n0_
        have p258 : 0 ≤ (x5_1 : Int) := of_decide_eq_true (by first | (with_reducible assumption) | assumption)
        have q258 : x5_1 < (l0.length : Int) := of_decide_eq_true (by first | (with_reducible assumption) | assumption)
        obtain ⟨ad258, e258, hx258_0, hx258_1, hx258_2, hx258_3, hx258_4, hx258_5, hx258_6, hx258_7, hx258_8⟩ := at_T51 HR0.out x5_1 p258 q258
        have hw258_8 := hx258_8
        have hw258_7 := hx258_7
        have hw258_6 := hx258_6
        have hw258_5 := hx258_5
        have hw258_4 := hx258_4
        have hw258_3 := hx258_3
        have hw258_2 := hx258_2
        have hw258_1 := hx258_1
        have hw258_0 := hx258_0
        cases e258
        replace hx258_0 := (HB.out.cell (World.block_lt_of_cell? w _ hx258_0)).trans hx258_0
        replace hx258_1 := (HB.out.cell (World.block_lt_of_cell? w _ hx258_1)).trans hx258_1
        replace hx258_2 := (HB.out.cell (World.block_lt_of_cell? w _ hx258_2)).trans hx258_2
        replace hx258_3 := (HB.out.cell (World.block_lt_of_cell? w _ hx258_3)).trans hx258_3
        replace hx258_4 := (HB.out.cell (World.block_lt_of_cell? w _ hx258_4)).trans hx258_4
        replace hx258_5 := (HB.out.cell (World.block_lt_of_cell? w _ hx258_5)).trans hx258_5
        replace hx258_6 := (HB.out.cell (World.block_lt_of_cell? w _ hx258_6)).trans hx258_6
        replace hx258_7 := (HB.out.cell (World.block_lt_of_cell? w _ hx258_7)).trans hx258_7
        replace hx258_8 := (HB.out.cell (World.block_lt_of_cell? w _ hx258_8)).trans hx258_8
        replace p258 := eq_true p258
        replace q258 := eq_true q258
        have p259 : 0 ≤ (x5_1 : Int) := of_decide_eq_true (by first | (with_reducible assumption) | assumption)
        have q259 : x5_1 < (l1.length : Int) := of_decide_eq_true (by first | (with_reducible assumption) | assumption)
        obtain ⟨ad259, e259, hx259_0, hx259_1, hx259_2, hx259_3, hx259_4, hx259_5, hx259_6, hx259_7, hx259_8⟩ := at_T51 HR1.out x5_1 p259 q259
        have hw259_8 := hx259_8
        have hw259_7 := hx259_7
        have hw259_6 := hx259_6
        have hw259_5 := hx259_5
        have hw259_4 := hx259_4
        have hw259_3 := hx259_3
        have hw259_2 := hx259_2
        have hw259_1 := hx259_1
        have hw259_0 := hx259_0
        cases e259
        replace hx259_0 := (HB.out.cell (World.block_lt_of_cell? w _ hx259_0)).trans hx259_0
        replace hx259_1 := (HB.out.cell (World.block_lt_of_cell? w _ hx259_1)).trans hx259_1
        replace hx259_2 := (HB.out.cell (World.block_lt_of_cell? w _ hx259_2)).trans hx259_2
        replace hx259_3 := (HB.out.cell (World.block_lt_of_cell? w _ hx259_3)).trans hx259_3
        replace hx259_4 := (HB.out.cell (World.block_lt_of_cell? w _ hx259_4)).trans hx259_4
        replace hx259_5 := (HB.out.cell (World.block_lt_of_cell? w _ hx259_5)).trans hx259_5
        replace hx259_6 := (HB.out.cell (World.block_lt_of_cell? w _ hx259_6)).trans hx259_6
        replace hx259_7 := (HB.out.cell (World.block_lt_of_cell? w _ hx259_7)).trans hx259_7
        replace hx259_8 := (HB.out.cell (World.block_lt_of_cell? w _ hx259_8)).trans hx259_8
        replace p259 := eq_true p259
        replace q259 := eq_true q259
        refine start_ (n := 10) (S := fun w' => w'.cell? (ad258.add ((x5_1).toNat * 9)) = some (.string ((rd_T51 l0 x5_1).f0.f0)) ∧ w'.cell? ⟨(ad258.add ((x5_1).toNat * 9)).block, (ad258.add ((x5_1).toNat * 9)).off + 1, none⟩ = some (.int .i64 ((rd_T51 l0 x5_1).f0.f1)) ∧ w'.cell? ⟨(ad258.add ((x5_1).toNat * 9)).block, (ad258.add ((x5_1).toNat * 9)).off + 2, none⟩ = some (.int .i64 ((rd_T51 l0 x5_1).f0.f2)) ∧ w'.cell? ⟨(ad258.add ((x5_1).toNat * 9)).block, (ad258.add ((x5_1).toNat * 9)).off + 3, none⟩ = some (.bool ((rd_T51 l0 x5_1).f0.f3)) ∧ w'.cell? ⟨(ad258.add ((x5_1).toNat * 9)).block, (ad258.add ((x5_1).toNat * 9)).off + 4, none⟩ = some (.int .i64 ((rd_T51 l0 x5_1).f0.f4)) ∧ w'.cell? ⟨(ad258.add ((x5_1).toNat * 9)).block, (ad258.add ((x5_1).toNat * 9)).off + 5, none⟩ = some (.int .i64 ((rd_T51 l0 x5_1).f0.f5)) ∧ w'.cell? ⟨(ad258.add ((x5_1).toNat * 9)).block, (ad258.add ((x5_1).toNat * 9)).off + 6, none⟩ = some (.int .i64 ((rd_T51 l0 x5_1).f1.f0)) ∧ w'.cell? ⟨(ad258.add ((x5_1).toNat * 9)).block, (ad258.add ((x5_1).toNat * 9)).off + 7, none⟩ = some (.int .i64 ((rd_T51 l0 x5_1).f1.f1)) ∧ w'.cell? ⟨(ad258.add ((x5_1).toNat * 9)).block, (ad258.add ((x5_1).toNat * 9)).off + 8, none⟩ = some (.int .i64 ((rd_T51 l0 x5_1).f1.f2)) ∧ w'.cell? (ad259.add ((x5_1).toNat * 9)) = some (.string ((rd_T51 l1 x5_1).f0.f0)) ∧ w'.cell? ⟨(ad259.add ((x5_1).toNat * 9)).block, (ad259.add ((x5_1).toNat * 9)).off + 1, none⟩ = some (.int .i64 ((rd_T51 l1 x5_1).f0.f1)) ∧ w'.cell? ⟨(ad259.add ((x5_1).toNat * 9)).block, (ad259.add ((x5_1).toNat * 9)).off + 2, none⟩ = some (.int .i64 ((rd_T51 l1 x5_1).f0.f2)) ∧ w'.cell? ⟨(ad259.add ((x5_1).toNat * 9)).block, (ad259.add ((x5_1).toNat * 9)).off + 3, none⟩ = some (.bool ((rd_T51 l1 x5_1).f0.f3)) ∧ w'.cell? ⟨(ad259.add ((x5_1).toNat * 9)).block, (ad259.add ((x5_1).toNat * 9)).off + 4, none⟩ = some (.int .i64 ((rd_T51 l1 x5_1).f0.f4)) ∧ w'.cell? ⟨(ad259.add ((x5_1).toNat * 9)).block, (ad259.add ((x5_1).toNat * 9)).off + 5, none⟩ = some (.int .i64 ((rd_T51 l1 x5_1).f0.f5)) ∧ w'.cell? ⟨(ad259.add ((x5_1).toNat * 9)).block, (ad259.add ((x5_1).toNat * 9)).off + 6, none⟩ = some (.int .i64 ((rd_T51 l1 x5_1).f1.f0)) ∧ w'.cell? ⟨(ad259.add ((x5_1).toNat * 9)).block, (ad259.add ((x5_1).toNat * 9)).off + 7, none⟩ = some (.int .i64 ((rd_T51 l1 x5_1).f1.f1)) ∧ w'.cell? ⟨(ad259.add ((x5_1).toNat * 9)).block, (ad259.add ((x5_1).toNat * 9)).off + 8, none⟩ = some (.int .i64 ((rd_T51 l1 x5_1).f1.f2))) (ds := []) #[false, false, false, false, false, false, false, false, false, false] (by kernel_rfl) rfl rfl ⟨((HB.out.cell (World.block_lt_of_cell? w _ hw258_0)).trans hw258_0), ((HB.out.cell (World.block_lt_of_cell? w _ hw258_1)).trans hw258_1), ((HB.out.cell (World.block_lt_of_cell? w _ hw258_2)).trans hw258_2), ((HB.out.cell (World.block_lt_of_cell? w _ hw258_3)).trans hw258_3), ((HB.out.cell (World.block_lt_of_cell? w _ hw258_4)).trans hw258_4), ((HB.out.cell (World.block_lt_of_cell? w _ hw258_5)).trans hw258_5), ((HB.out.cell (World.block_lt_of_cell? w _ hw258_6)).trans hw258_6), ((HB.out.cell (World.block_lt_of_cell? w _ hw258_7)).trans hw258_7), ((HB.out.cell (World.block_lt_of_cell? w _ hw258_8)).trans hw258_8), ((HB.out.cell (World.block_lt_of_cell? w _ hw259_0)).trans hw259_0), ((HB.out.cell (World.block_lt_of_cell? w _ hw259_1)).trans hw259_1), ((HB.out.cell (World.block_lt_of_cell? w _ hw259_2)).trans hw259_2), ((HB.out.cell (World.block_lt_of_cell? w _ hw259_3)).trans hw259_3), ((HB.out.cell (World.block_lt_of_cell? w _ hw259_4)).trans hw259_4), ((HB.out.cell (World.block_lt_of_cell? w _ hw259_5)).trans hw259_5), ((HB.out.cell (World.block_lt_of_cell? w _ hw259_6)).trans hw259_6), ((HB.out.cell (World.block_lt_of_cell? w _ hw259_7)).trans hw259_7), ((HB.out.cell (World.block_lt_of_cell? w _ hw259_8)).trans hw259_8)⟩ (fun hHeld => ?_); refine with_tabW laws_eqStowS.tab6 laws_eqStowS.bits6 (fun HT_ HW_ => ?_)
        generalize wr.drew = w11 at HB hx258_0 hx258_1 hx258_2 hx258_3 hx258_4 hx258_5 hx258_6 hx258_7 hx258_8 hx259_0 hx259_1 hx259_2 hx259_3 hx259_4 hx259_5 hx259_6 hx259_7 hx259_8 hHeld ⊢
        refine pure_ (i := 0) (N := some 17) (v := ?_) (a' := ?_) #[true, false, false, false, false, false, false, false, false, false] rfl rfl (any_of HT_.out (by kernel_rfl)) (fun _ _ _ h => h) (Or.inl ⟨by rfl, ?_⟩) ?_ ?_
        rotate_left
        ·intro w'
         go_simp
         with_reducible rfl
        rotate_left
        ·simp only [Act.put, List.setIfInBounds_toArray, List.set_cons_zero, List.set_cons_succ, i64_w, i32_w]
         rfl
        refine pure_ (i := 1) (N := some 18) (v := ?_) (a' := ?_) #[true, true, false, false, false, false, false, false, false, false] rfl rfl (any_of HT_.out (by kernel_rfl)) (fun _ _ _ h => h) (Or.inl ⟨by rfl, ?_⟩) ?_ ?_
        rotate_left
        ·intro w'
         go_simp
         with_reducible rfl
        rotate_left
        ·simp only [Act.put, List.setIfInBounds_toArray, List.set_cons_zero, List.set_cons_succ, i64_w, i32_w]
         rfl
        refine pure_ (i := 2) (N := some 19) (v := ?_) (a' := ?_) #[true, true, true, false, false, false, false, false, false, false] rfl rfl (any_of HT_.out (by kernel_rfl)) (fun _ _ _ h => h) (Or.inl ⟨by rfl, ?_⟩) ?_ ?_
        rotate_left
        ·intro w'
         go_simp
         with_reducible rfl
        rotate_left
        ·simp only [Act.put, List.setIfInBounds_toArray, List.set_cons_zero, List.set_cons_succ, i64_w, i32_w]
         rfl
        refine pure_ (i := 4) (N := some 21) (v := ?_) (a' := ?_) #[true, true, true, false, true, false, false, false, false, false] rfl rfl (any_of HT_.out (by kernel_rfl)) (fun _ _ _ h => h) (Or.inl ⟨by rfl, ?_⟩) ?_ ?_
        rotate_left
        ·intro w'
         go_simp
         with_reducible rfl
        rotate_left
        ·simp only [Act.put, List.setIfInBounds_toArray, List.set_cons_zero, List.set_cons_succ, i64_w, i32_w]
         rfl
        refine pure_ (i := 5) (N := some 22) (v := ?_) (a' := ?_) #[true, true, true, false, true, true, false, false, false, false] rfl rfl (any_of HT_.out (by kernel_rfl)) (fun _ _ _ h => h) (Or.inl ⟨by rfl, ?_⟩) ?_ ?_
        rotate_left
        ·intro w'
         go_simp
         with_reducible rfl
        rotate_left
        ·simp only [Act.put, List.setIfInBounds_toArray, List.set_cons_zero, List.set_cons_succ, i64_w, i32_w]
         rfl
        refine pure_ (i := 6) (N := some 23) (v := ?_) (a' := ?_) #[true, true, true, false, true, true, true, false, false, false] rfl rfl (any_of HT_.out (by kernel_rfl)) (fun _ _ _ h => h) (Or.inl ⟨by rfl, ?_⟩) ?_ ?_
        rotate_left
        ·intro w'
         go_simp
         with_reducible rfl
        rotate_left
        ·simp only [Act.put, List.setIfInBounds_toArray, List.set_cons_zero, List.set_cons_succ, i64_w, i32_w]
         rfl
        refine take_ (i := 3) (N := some 20) (v := ?_) (a' := ?_) #[true, true, true, true, true, true, true, false, false, false] rfl rfl (take_ofW HT_.out HW_.out (by kernel_rfl)) (fun _ _ _ h => h) (Or.inl ⟨by rfl, ?_⟩) hHeld ?_ ?_
        rotate_left
        ·rintro w' ⟨s0, s1, s2, s3, s4, s5, s6, s7, s8, s9, s10, s11, s12, s13, s14, s15, s16, s17⟩
         go_simp
         with_reducible rfl
        rotate_left
        ·simp only [Act.put, List.setIfInBounds_toArray, List.set_cons_zero, List.set_cons_succ, i64_w, i32_w]
         rfl
        refine take_ (i := 7) (N := some 24) (v := ?_) (a' := ?_) #[true, true, true, true, true, true, true, true, false, false] rfl rfl (take_ofW HT_.out HW_.out (by kernel_rfl)) (fun _ _ _ h => h) (Or.inl ⟨by rfl, ?_⟩) hHeld ?_ ?_
        rotate_left
        ·rintro w' ⟨s0, s1, s2, s3, s4, s5, s6, s7, s8, s9, s10, s11, s12, s13, s14, s15, s16, s17⟩
         go_simp
         with_reducible rfl
        rotate_left
        ·simp only [Act.put, List.setIfInBounds_toArray, List.set_cons_zero, List.set_cons_succ, i64_w, i32_w]
         rfl
        refine one_ (i := 8) (N := some 25) #[true, true, true, true, true, true, true, true, true, false] rfl rfl (one_of HT_.out (by kernel_rfl)) (by decide) (fun K hK => ?_)
        refine goes_ Try.func35 (by kernel_rfl) rfl #[.agg #[.string ((rd_T51 l0 x5_1).f0.f0), .int .i64 ((rd_T51 l0 x5_1).f0.f1), .int .i64 ((rd_T51 l0 x5_1).f0.f2), .bool ((rd_T51 l0 x5_1).f0.f3), .int .i64 ((rd_T51 l0 x5_1).f0.f4), .int .i64 ((rd_T51 l0 x5_1).f0.f5), .int .i64 ((rd_T51 l0 x5_1).f1.f0), .int .i64 ((rd_T51 l0 x5_1).f1.f1), .int .i64 ((rd_T51 l0 x5_1).f1.f2)], .agg #[.string ((rd_T51 l1 x5_1).f0.f0), .int .i64 ((rd_T51 l1 x5_1).f0.f1), .int .i64 ((rd_T51 l1 x5_1).f0.f2), .bool ((rd_T51 l1 x5_1).f0.f3), .int .i64 ((rd_T51 l1 x5_1).f0.f4), .int .i64 ((rd_T51 l1 x5_1).f0.f5), .int .i64 ((rd_T51 l1 x5_1).f1.f0), .int .i64 ((rd_T51 l1 x5_1).f1.f1), .int .i64 ((rd_T51 l1 x5_1).f1.f2)]] (by rfl) rfl rfl (by (try simp only [List.map_toArray, List.map_cons, List.map_nil]); first | done | rfl | (simp only [List.length_drop, List.length_take]; rfl)) ?_
        with_reducible refine (laws_eqStow.calls ((rd_T51 l0 x5_1).f0.f0) ((rd_T51 l0 x5_1).f0.f1) ((rd_T51 l0 x5_1).f0.f2) ((rd_T51 l0 x5_1).f0.f3) ((rd_T51 l0 x5_1).f0.f4) ((rd_T51 l0 x5_1).f0.f5) ((rd_T51 l0 x5_1).f1.f0) ((rd_T51 l0 x5_1).f1.f1) ((rd_T51 l0 x5_1).f1.f2) ((rd_T51 l1 x5_1).f0.f0) ((rd_T51 l1 x5_1).f0.f1) ((rd_T51 l1 x5_1).f0.f2) ((rd_T51 l1 x5_1).f0.f3) ((rd_T51 l1 x5_1).f0.f4) ((rd_T51 l1 x5_1).f0.f5) ((rd_T51 l1 x5_1).f1.f0) ((rd_T51 l1 x5_1).f1.f1) ((rd_T51 l1 x5_1).f1.f2) false _ A7.out).mono ?_
        rintro e w12 ⟨rfl, hb⟩
        refine ⟨_, rfl, ?_⟩
        have n0_ := Aside0.mk (below_step Sk.bl_ hb)
        clear HB
        have HB := n0_
        clear n0_
        (try clear hb)
        (try clear hb2)
        (try clear hk)
        (try clear hi)
        refine hK.out _ _ ⟨((HB.out.cell (World.block_lt_of_cell? w _ hw258_0)).trans hw258_0), ((HB.out.cell (World.block_lt_of_cell? w _ hw258_1)).trans hw258_1), ((HB.out.cell (World.block_lt_of_cell? w _ hw258_2)).trans hw258_2), ((HB.out.cell (World.block_lt_of_cell? w _ hw258_3)).trans hw258_3), ((HB.out.cell (World.block_lt_of_cell? w _ hw258_4)).trans hw258_4), ((HB.out.cell (World.block_lt_of_cell? w _ hw258_5)).trans hw258_5), ((HB.out.cell (World.block_lt_of_cell? w _ hw258_6)).trans hw258_6), ((HB.out.cell (World.block_lt_of_cell? w _ hw258_7)).trans hw258_7), ((HB.out.cell (World.block_lt_of_cell? w _ hw258_8)).trans hw258_8), ((HB.out.cell (World.block_lt_of_cell? w _ hw259_0)).trans hw259_0), ((HB.out.cell (World.block_lt_of_cell? w _ hw259_1)).trans hw259_1), ((HB.out.cell (World.block_lt_of_cell? w _ hw259_2)).trans hw259_2), ((HB.out.cell (World.block_lt_of_cell? w _ hw259_3)).trans hw259_3), ((HB.out.cell (World.block_lt_of_cell? w _ hw259_4)).trans hw259_4), ((HB.out.cell (World.block_lt_of_cell? w _ hw259_5)).trans hw259_5), ((HB.out.cell (World.block_lt_of_cell? w _ hw259_6)).trans hw259_6), ((HB.out.cell (World.block_lt_of_cell? w _ hw259_7)).trans hw259_7), ((HB.out.cell (World.block_lt_of_cell? w _ hw259_8)).trans hw259_8)⟩ (fun hHeld => ?_)
        clear hK K
        refine norm_ (a' := ?_) ?_ ?_
        rotate_left
        ·show Act.put _ (some 25) _ = _
         simp only [Act.put, List.setIfInBounds_toArray, List.set_cons_zero, List.set_cons_succ, i64_w, i32_w]
         rfl
        refine pure_ (i := 9) (N := some 26) (v := ?_) (a' := ?_) #[true, true, true, true, true, true, true, true, true, true] rfl rfl (any_of HT_.out (by kernel_rfl)) (fun _ _ _ h => h) (Or.inl ⟨by rfl, ?_⟩) ?_ ?_
        rotate_left
        ·intro w'
         go_simp
         with_reducible rfl
        rotate_left
        ·simp only [Act.put, List.setIfInBounds_toArray, List.set_cons_zero, List.set_cons_succ, i64_w, i32_w]
         rfl
        refine done_ (done_of HT_.out (by kernel_rfl)) ?_
        try go_wp2
        go_ret
        exact ⟨by first | rfl | (simp [errW_none, errW_some] <;> rfl) | (simp [*, errW_none, errW_some] <;> rfl), Sk.bl_⟩
      ·rw [if_neg c6] at H
       exact absurd H (by simp)
     ·rw [if_neg c5] at H
      exact absurd H (by simp)
    ·rw [if_neg c4] at H
     have c4b0 : decide (x5_1 < (l0.length : Int)) = false := decide_eq_false c4
     clear c4
     obtain rfl := Option.some.inj H
     go_wp2
     go_ret
     exact ⟨by first | rfl | (simp [errW_none, errW_some] <;> rfl) | (simp [*, errW_none, errW_some] <;> rfl), Sk.bl_⟩
 ·rw [if_neg c3] at H
  have c3b0 : ((l0.length : Int) == (l1.length : Int)) = false := beq_eq_false_iff_ne.mpr c3
  have c3b1 : ((l0.length : Int) != (l1.length : Int)) = true := bne_iff_ne.mpr c3
  have c3b2 : (l0.length == l1.length) = false := by first | simpa using c3 | (simp at c3 ⊢; omega)
  obtain rfl := Option.some.inj H
  go_enter Try.func11, Try.ntmps11
  go_wp2
  go_ret
  exact ⟨by first | rfl | (simp [errW_none, errW_some] <;> rfl) | (simp [*, errW_none, errW_some] <;> rfl), Sk.bl_⟩

end Go.Proofs.Ythfkmjbefdmopaa.PA
