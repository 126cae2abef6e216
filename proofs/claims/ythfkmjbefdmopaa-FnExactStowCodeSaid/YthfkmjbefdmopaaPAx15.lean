/- What Go's functions that the laws reach come to: laid by a program of this session over the print's words. -/
import Derived.Test.YthfkmjbefdmopaaPAx0
import Derived.Test.YthfkmjbefdmopaaPAx11
import Derived.Test.YthfkmjbefdmopaaPAx14
import Derived.Test.YthfkmjbefdmopaaSteps
namespace Go.Proofs.Ythfkmjbefdmopaa.PA
open Go.RowKit Go.Proofs.YthfkmjbefdmopaaW.PrintWords Go.Proofs.YthfkmjbefdmopaaW.PrintLast Go.Proofs.YthfkmjbefdmopaaW.PrintMore Go.Proofs.Ythfkmjbefdmopaa
attribute [local go_sem] max2_int min2_int max_two min_two max_three min_three max_four min_four   -- for this text's walks alone
set_option linter.unusedVariables false
set_option linter.unusedSimpArgs false

/-! ### impl_StackOk: function 28 -/
def impl_StackOk.l0 : Nat → List (S48) → Int → Int → List (S48) → Int → Int → Option (Bool)
  | 0, _, _, _, _, _, _ => none
  | k + 1, x0, x1, x5, x16, x17, x18 => if x18 < x17 then (if 0 ≤ x18 then (if x18 < (x16.length : Int) then ((impl_BoxOk.f k ((rd_T48 x16 x18).f0) ((rd_T48 x16 x18).f1) ((rd_T48 x16 x18).f2) ((rd_T48 x16 x18).f3) ((rd_T48 x16 x18).f4) ((rd_T48 x16 x18).f5)).bind fun t221 => (if t221 = true then (if x18 > 0 then (if 0 ≤ (wrap64 (x18 - 1)) then (if (wrap64 (x18 - 1)) < (x0.length : Int) then (if ((rd_T48 x16 x18).f1) > ((rd_T48 x0 (wrap64 (x18 - 1))).f1) then (some false) else (if (rd_T48 x16 x18).f3 = true then (if x18 > 1 then (some false) else (impl_StackOk.l0 k x0 x1 (wrap64 (x5 + ((rd_T48 x16 x18).f1))) x16 x17 (wrap64 (x18 + 1)))) else (impl_StackOk.l0 k x0 x1 (wrap64 (x5 + ((rd_T48 x16 x18).f1))) x16 x17 (wrap64 (x18 + 1))))) else (none)) else (none)) else (if (rd_T48 x16 x18).f3 = true then (if x18 > 1 then (some false) else (impl_StackOk.l0 k x0 x1 (wrap64 (x5 + ((rd_T48 x16 x18).f1))) x16 x17 (wrap64 (x18 + 1)))) else (impl_StackOk.l0 k x0 x1 (wrap64 (x5 + ((rd_T48 x16 x18).f1))) x16 x17 (wrap64 (x18 + 1))))) else (some false))) else (none)) else (none)) else (some (decide (x5 ≤ x1)))
def impl_StackOk.f (k : Nat) (l0 : List (S48)) (a1 : Int) : Option (Bool) := if (l0.length : Int) > 20 then (some false) else ((impl_in.f a1 0 1000000).bind fun t218 => (if t218 = true then (impl_StackOk.l0 k l0 a1 0 l0 (l0.length : Int) 0) else (some false)))
theorem impl_StackOk.mono_l : ∀ k, (∀ y0 y1 y2 y3 y4 y5, LeO (impl_StackOk.l0 k y0 y1 y2 y3 y4 y5) (impl_StackOk.l0 (k + 1) y0 y1 y2 y3 y4 y5))
  | 0 => fun _ _ _ _ _ _ r h => by simp [impl_StackOk.l0] at h
  | k + 1 => by
    have ih0 := impl_StackOk.mono_l k
    · intro y0 y1 y2 y3 y4 y5
      unfold impl_StackOk.l0
      repeat' first
      | (with_reducible exact ih0 _ _ _ _ _ _)
      | (with_reducible exact impl_BoxOk.mono _ _ _ _ _ _ _)
      | (with_reducible exact LeO.refl _)
      | (with_reducible exact LeO.none _)
      | (with_reducible refine LeO.ite ?_ ?_)
      | (with_reducible refine LeO.bind ?_ (fun _ => ?_))
      | exact ih0 _ _ _ _ _ _
      | exact impl_BoxOk.mono _ _ _ _ _ _ _
      | exact LeO.none _
      | refine LeO.ite ?_ ?_
      | refine LeO.bind ?_ (fun _ => ?_)
theorem impl_StackOk.mono : ∀ a0 a1 k, LeO (impl_StackOk.f k a0 a1) (impl_StackOk.f (k + 1) a0 a1) := by
  intro a0 a1 k
  have ih0 := impl_StackOk.mono_l k
  unfold impl_StackOk.f
  repeat' first
      | (with_reducible exact ih0 _ _ _ _ _ _)
      | (with_reducible exact impl_BoxOk.mono _ _ _ _ _ _ _)
      | (with_reducible exact LeO.refl _)
      | (with_reducible exact LeO.none _)
      | (with_reducible refine LeO.ite ?_ ?_)
      | (with_reducible refine LeO.bind ?_ (fun _ => ?_))
      | exact ih0 _ _ _ _ _ _
      | exact impl_BoxOk.mono _ _ _ _ _ _ _
      | exact LeO.none _
      | refine LeO.ite ?_ ?_
      | refine LeO.bind ?_ (fun _ => ?_)
def impl_StackOk.T7 : Bool × List (List Nat × List Nat) := (true, [([], []), ([0], [0]), ([1], [1]), ([2, 1], [2]), ([3], [3]), ([4, 3], [3, 4]), ([5, 3, 3], [3, 5]), ([6], [6]), ([7, 6], [6, 7]), ([6], [6]), ([6], [6]), ([10, 6], [6, 10]), ([9, 11, 6], [6, 9, 11]), ([12, 6], [6, 12]), ([13, 6], [6, 13]), ([8, 14, 6], [6, 8, 14]), ([6, 15, 3], [3, 6, 15]), ([3, 16], [3, 16]), ([17, 6], [17]), ([18], [18]), ([19, 18], [18, 19]), ([20, 18, 18], [18, 20]), ([21], [21]), ([22, 21], [21, 22]), ([21, 23, 18], [18, 21, 23]), ([18, 24], [18, 24])])
def impl_StackOk.B7 : List Nat := [0, 1, 3, 7, 15, 31, 63, 127, 255, 127, 127, 1151, 3711, 7807, 15999, 32767, 65535, 131071, 262143, 524287, 1048575, 2097151, 4194303, 8388607, 16777215, 33554431]
theorem impl_StackOk.tab7 : rtab .any (opsOf Try.f28 7) = impl_StackOk.T7 := by kernel_rfl
theorem impl_StackOk.bits7 : waitsOk impl_StackOk.T7.2 impl_StackOk.B7 = true := by kernel_rfl
theorem impl_StackOk.cl6 {w : World} {g : Nat} {t : TypeId} {c0 c1 c2 c3 c4 c5 : Value} (h : w.heap[g]? = some (.cells #[c0, c1, c2, c3, c4, c5] t (0, 0))) : w.cell? ⟨g, 0, none⟩ = some c0 ∧ w.cell? ⟨g, 1, none⟩ = some c1 ∧ w.cell? ⟨g, 2, none⟩ = some c2 ∧ w.cell? ⟨g, 3, none⟩ = some c3 ∧ w.cell? ⟨g, 4, none⟩ = some c4 ∧ w.cell? ⟨g, 5, none⟩ = some c5 := ⟨(blk_cell h 0).trans rfl, (blk_cell h 1).trans rfl, (blk_cell h 2).trans rfl, (blk_cell h 3).trans rfl, (blk_cell h 4).trans rfl, (blk_cell h 5).trans rfl⟩
theorem impl_StackOk.fz6 {w : World} {g : Nat} {t : TypeId} {c0 c1 c2 c3 c4 c5 : Value} (h : w.heap[g]? = some (.cells #[c0, c1, c2, c3, c4, c5] t (0, 0))) : w.frozen? ⟨g, 0, none⟩ = false ∧ w.frozen? ⟨g, 1, none⟩ = false ∧ w.frozen? ⟨g, 2, none⟩ = false ∧ w.frozen? ⟨g, 3, none⟩ = false ∧ w.frozen? ⟨g, 4, none⟩ = false ∧ w.frozen? ⟨g, 5, none⟩ = false := ⟨blk_frozen h 0, blk_frozen h 1, blk_frozen h 2, blk_frozen h 3, blk_frozen h 4, blk_frozen h 5⟩
abbrev impl_StackOk.v0 : Array Bool := #[false, false, false, false, false, false, false, false, false, false, false, false, false, false, false, false, false, false, false, false, false, false, false, false, false, false]
abbrev impl_StackOk.v1 : Array Bool := #[true, false, false, false, false, false, false, false, false, false, false, false, false, false, false, false, false, false, false, false, false, false, false, false, false, false]
abbrev impl_StackOk.v2 : Array Bool := #[true, true, false, false, false, false, false, false, false, false, false, false, false, false, false, false, false, false, false, false, false, false, false, false, false, false]
abbrev impl_StackOk.v3 : Array Bool := #[true, true, true, false, false, false, false, false, false, false, false, false, false, false, false, false, false, false, false, false, false, false, false, false, false, false]
abbrev impl_StackOk.v4 : Array Bool := #[true, true, true, true, false, false, false, false, false, false, false, false, false, false, false, false, false, false, false, false, false, false, false, false, false, false]
abbrev impl_StackOk.v5 : Array Bool := #[true, true, true, true, true, false, false, false, false, false, false, false, false, false, false, false, false, false, false, false, false, false, false, false, false, false]
abbrev impl_StackOk.v6 : Array Bool := #[true, true, true, true, true, true, false, false, false, false, false, false, false, false, false, false, false, false, false, false, false, false, false, false, false, false]
abbrev impl_StackOk.v7 : Array Bool := #[true, true, true, true, true, true, true, false, false, false, false, false, false, false, false, false, false, false, false, false, false, false, false, false, false, false]
abbrev impl_StackOk.v8 : Array Bool := #[true, true, true, true, true, true, true, true, false, false, false, false, false, false, false, false, false, false, false, false, false, false, false, false, false, false]
abbrev impl_StackOk.v9 : Array Bool := #[true, true, true, true, true, true, true, true, false, true, false, false, false, false, false, false, false, false, false, false, false, false, false, false, false, false]
abbrev impl_StackOk.v10 : Array Bool := #[true, true, true, true, true, true, true, true, false, true, true, false, false, false, false, false, false, false, false, false, false, false, false, false, false, false]
abbrev impl_StackOk.v11 : Array Bool := #[true, true, true, true, true, true, true, true, false, true, true, true, false, false, false, false, false, false, false, false, false, false, false, false, false, false]
abbrev impl_StackOk.v12 : Array Bool := #[true, true, true, true, true, true, true, true, false, true, true, true, true, false, false, false, false, false, false, false, false, false, false, false, false, false]
abbrev impl_StackOk.v13 : Array Bool := #[true, true, true, true, true, true, true, true, false, true, true, true, true, true, false, false, false, false, false, false, false, false, false, false, false, false]
abbrev impl_StackOk.v14 : Array Bool := #[true, true, true, true, true, true, true, true, true, true, true, true, true, true, false, false, false, false, false, false, false, false, false, false, false, false]
abbrev impl_StackOk.v15 : Array Bool := #[true, true, true, true, true, true, true, true, true, true, true, true, true, true, true, false, false, false, false, false, false, false, false, false, false, false]
abbrev impl_StackOk.v16 : Array Bool := #[true, true, true, true, true, true, true, true, true, true, true, true, true, true, true, true, false, false, false, false, false, false, false, false, false, false]
abbrev impl_StackOk.v17 : Array Bool := #[true, true, true, true, true, true, true, true, true, true, true, true, true, true, true, true, true, false, false, false, false, false, false, false, false, false]
abbrev impl_StackOk.v18 : Array Bool := #[true, true, true, true, true, true, true, true, true, true, true, true, true, true, true, true, true, true, false, false, false, false, false, false, false, false]
abbrev impl_StackOk.v19 : Array Bool := #[true, true, true, true, true, true, true, true, true, true, true, true, true, true, true, true, true, true, true, false, false, false, false, false, false, false]
abbrev impl_StackOk.v20 : Array Bool := #[true, true, true, true, true, true, true, true, true, true, true, true, true, true, true, true, true, true, true, true, false, false, false, false, false, false]
abbrev impl_StackOk.v21 : Array Bool := #[true, true, true, true, true, true, true, true, true, true, true, true, true, true, true, true, true, true, true, true, true, false, false, false, false, false]
abbrev impl_StackOk.v22 : Array Bool := #[true, true, true, true, true, true, true, true, true, true, true, true, true, true, true, true, true, true, true, true, true, true, false, false, false, false]
abbrev impl_StackOk.v23 : Array Bool := #[true, true, true, true, true, true, true, true, true, true, true, true, true, true, true, true, true, true, true, true, true, true, true, false, false, false]
abbrev impl_StackOk.v24 : Array Bool := #[true, true, true, true, true, true, true, true, true, true, true, true, true, true, true, true, true, true, true, true, true, true, true, true, false, false]
abbrev impl_StackOk.v25 : Array Bool := #[true, true, true, true, true, true, true, true, true, true, true, true, true, true, true, true, true, true, true, true, true, true, true, true, true, false]
abbrev impl_StackOk.v26 : Array Bool := #[true, true, true, true, true, true, true, true, true, true, true, true, true, true, true, true, true, true, true, true, true, true, true, true, true, true]
abbrev impl_StackOk.v27 : Array Bool := #[true, true, true, true, true, true, true, true, true, false, false, false, false, false, false, false, false, false, false, false, false, false, false, false, false, false]
abbrev impl_StackOk.v28 : Array Bool := #[true, true, true, true, true, true, true, true, true, true, false, false, false, false, false, false, false, false, false, false, false, false, false, false, false, false]
abbrev impl_StackOk.v29 : Array Bool := #[true, true, true, true, true, true, true, true, true, true, true, false, false, false, false, false, false, false, false, false, false, false, false, false, false, false]
abbrev impl_StackOk.v30 : Array Bool := #[true, true, true, true, true, true, true, true, true, true, true, true, false, false, false, false, false, false, false, false, false, false, false, false, false, false]
abbrev impl_StackOk.v31 : Array Bool := #[true, true, true, true, true, true, true, true, true, true, true, true, true, false, false, false, false, false, false, false, false, false, false, false, false, false]
set_option maxHeartbeats 80000000 in
set_option maxRecDepth 100000 in
theorem impl_StackOk.calls (k : Nat) (A0 : Option Addr) (c0 : Nat) (l0 : List (S48)) (a1 : Int) (r : Bool) (w : World) (hr0 : Kd.C k48 w A0 l0.length l0) (hc0 : l0.length ≤ c0) (h : impl_StackOk.f k l0 a1 = some r) :
 Calls Try.prog 28 #[.slice A0 l0.length c0, .int .i64 a1] w fun e w' => e = .returned (.bool r) ∧ Below w.heap.size w w' := by
 have hu48 := Try.underlying48
 have HR0 := Aside0.mk hr0
 have HC0 := Aside0.mk hc0
 clear hr0 hc0
 have HB := Aside0.mk (Below.refl w.heap.size w)
 have H : (if (l0.length : Int) > 20 then (some false) else ((impl_in.f a1 0 1000000).bind fun t218 => (if t218 = true then (impl_StackOk.l0 k l0 a1 0 l0 (l0.length : Int) 0) else (some false)))) = some r := h
 clear h
 by_cases c3 : (l0.length : Int) > 20
 ·rw [if_pos c3] at H
  have c3b0 : decide (20 < (l0.length : Int)) = true := decide_eq_true c3
  have c3b1 : decide (20 < l0.length) = true := decide_eq_true (by omega)
  clear c3
  obtain rfl := Option.some.inj H
  go_enter Try.func28, Try.ntmps28
  go_wp2
  go_ret
  exact ⟨by first | rfl | (simp [errW_none, errW_some] <;> rfl) | (simp [*, errW_none, errW_some] <;> rfl), Sk.bl_⟩
 ·rw [if_neg c3] at H
  have c3b0 : decide (20 < (l0.length : Int)) = false := decide_eq_false c3
  have c3b1 : decide (20 < l0.length) = false := decide_eq_false (by omega)
  clear c3
  replace H := Option.bind_eq_some_iff.mp H
  obtain ⟨t218, A40, H⟩ := H
  (try dsimp only at H)
  have A4 := Aside0.mk A40
  clear A40
  by_cases c5 : t218 = true
  ·subst c5
   rw [if_pos rfl] at H
   have H' := Aside0.mk H
   clear H
   go_enter Try.func28, Try.ntmps28
   go_wp2_with (first | (go_at_call 24; (with_reducible refine (impl_in.calls a1 0 1000000 true _ (by first | exact A4.out | (have h_ := A4.out; (try rw [← Nbq21.out] at h_); (try rw [← Nbq41.out] at h_); exact h_))).mono ?_); rintro e w' ⟨rfl, ⟨nd, rfl⟩⟩))
   go_loopg [5, 18] k (fun kq v5 v18 w' => ∃ (x5_1 : Int) (x18_1 : Int), v5 = .int .i64 x5_1 ∧ v18 = .int .i64 x18_1 ∧ Aside0 (impl_StackOk.l0 kq l0 a1 x5_1 l0 (l0.length : Int) x18_1 = some r) ∧ Aside0 (kq ≤ k) ∧ Aside0 (Below w.heap.size w w'))
   case atStart => exact ⟨(0), (0), (by first | rfl | (simp; done) | (simp [*]; done)), (by first | rfl | (simp; done) | (simp [*]; done)), H', ⟨Nat.le_refl _⟩, ⟨Sk.bl_⟩⟩
   case round =>
    clear H'
    (try clear c2); (try clear p2); (try clear c3); (try clear c3b0); (try clear c3b1); (try clear c5)
    obtain ⟨x5_1, x18_1, rfl, rfl, HA, HK1, HB⟩ := hrel
    cases gk with
    | zero => exact absurd HA.out (by simp [impl_StackOk.l0])
    | succ k1 =>
     have H := HA.out
     clear HA
     simp only [impl_StackOk.l0] at H
     by_cases c6 : x18_1 < (l0.length : Int)
     ·rw [if_pos c6] at H
      have c6b0 : decide (x18_1 < (l0.length : Int)) = true := decide_eq_true c6
      clear c6
      by_cases c7 : 0 ≤ x18_1
      ·rw [if_pos c7] at H
       have c7b0 : decide (0 ≤ x18_1) = true := decide_eq_true c7
       clear c7
       by_cases c8 : x18_1 < (l0.length : Int)
       ·rw [if_pos c8] at H
        have c8b0 : decide (x18_1 < (l0.length : Int)) = true := decide_eq_true c8
        clear c8
        replace H := Option.bind_eq_some_iff.mp H
        obtain ⟨t221, A90, H⟩ := H
        (try dsimp only at H)
        have A9 := Aside0.mk A90
        clear A90
        by_cases c10 : t221 = true
        ·subst c10
         rw [if_pos rfl] at H
         by_cases c11 : x18_1 > 0
         ·rw [if_pos c11] at H
          have c11b0 : decide (0 < x18_1) = true := decide_eq_true c11
          clear c11
          obtain ⟨ji12, hji12⟩ : ∃ j_ : Int, (wrap64 (x18_1 - 1)) = j_ := ⟨_, rfl⟩
          replace H : (if 0 ≤ (ji12) then (if (ji12) < (l0.length : Int) then (if ((rd_T48 l0 x18_1).f1) > ((rd_T48 l0 (ji12)).f1) then (some false) else (if (rd_T48 l0 x18_1).f3 = true then (if x18_1 > 1 then (some false) else (impl_StackOk.l0 k1 l0 a1 (wrap64 (x5_1 + ((rd_T48 l0 x18_1).f1))) l0 (l0.length : Int) (wrap64 (x18_1 + 1)))) else (impl_StackOk.l0 k1 l0 a1 (wrap64 (x5_1 + ((rd_T48 l0 x18_1).f1))) l0 (l0.length : Int) (wrap64 (x18_1 + 1))))) else (none)) else (none)) = some r := by first | (rw [hji12] at H; exact H) | (simp only [hji12] at H ⊢; exact H)
          (try rw [hji12] at A9)
          have hji12w : (IntKind.i64.wrap (x18_1 - 1)) = ji12 := (i64_w _).trans hji12
          by_cases c13 : 0 ≤ (ji12)
          ·rw [if_pos c13] at H
           have c13b0 : decide (0 ≤ (ji12)) = true := decide_eq_true c13
           clear c13
           by_cases c14 : (ji12) < (l0.length : Int)
           ·rw [if_pos c14] at H
            have c14b0 : decide ((ji12) < (l0.length : Int)) = true := decide_eq_true c14
            clear c14
            by_cases c15 : ((rd_T48 l0 x18_1).f1) > ((rd_T48 l0 (ji12)).f1)
            ·rw [if_pos c15] at H
             have c15b0 : decide (((rd_T48 l0 (ji12)).f1) < ((rd_T48 l0 x18_1).f1)) = true := decide_eq_true c15
             clear c15
             obtain rfl := Option.some.inj H
             have p219 : 0 ≤ (x18_1 : Int) := of_decide_eq_true (by first | (with_reducible assumption) | assumption)
             have q219 : x18_1 < (l0.length : Int) := of_decide_eq_true (by first | (with_reducible assumption) | assumption)
             obtain ⟨ad219, e219, hx219_0, hx219_1, hx219_2, hx219_3, hx219_4, hx219_5⟩ := at_T48 HR0.out x18_1 p219 q219
             cases e219
             replace hx219_0 := (HB.out.cell (World.block_lt_of_cell? w _ hx219_0)).trans hx219_0
             replace hx219_1 := (HB.out.cell (World.block_lt_of_cell? w _ hx219_1)).trans hx219_1
             replace hx219_2 := (HB.out.cell (World.block_lt_of_cell? w _ hx219_2)).trans hx219_2
             replace hx219_3 := (HB.out.cell (World.block_lt_of_cell? w _ hx219_3)).trans hx219_3
             replace hx219_4 := (HB.out.cell (World.block_lt_of_cell? w _ hx219_4)).trans hx219_4
             replace hx219_5 := (HB.out.cell (World.block_lt_of_cell? w _ hx219_5)).trans hx219_5
             replace p219 := eq_true p219
             replace q219 := eq_true q219
             try go_wp2_with (first | ((with_reducible refine gate_dst (N := 7) rfl ?_); refine box_event ?hg (N := 7) ?hd (cs := #[.string (⟨#[]⟩ : ByteArray), .int .i64 0, .int .i64 0, .bool false, .int .i64 0, .int .i64 0]) (t := 48) ?hr ?_; (case hd => rfl); (case hg => rfl); (case hr => first | (go_simp; done) | (go_simp; rfl)); intro gb220 hg w16 hbox hb; have n0_ := Aside0.mk (below_step Sk.bl_ hb); have n1_ := Aside0.mk (hbox); have n2_ := Aside0.mk ((by rw [hg]; exact (below_size Sk.bl_) : w.heap.size ≤ gb220)); have n3_ := Aside0.mk ((by rw [hg]; exact (below_size Sk.bl_) : w.heap.size ≤ gb220)); clear HB; have HB := n0_; have BK220 := n1_; have GW220 := n2_; have GE220 := n3_; clear n0_ n1_ n2_ n3_; clear hb hbox hg; obtain ⟨hcz17_0, hcz17_1, hcz17_2, hcz17_3, hcz17_4, hcz17_5⟩ := impl_StackOk.cl6 BK220.out; obtain ⟨hfz17_0, hfz17_1, hfz17_2, hfz17_3, hfz17_4, hfz17_5⟩ := impl_StackOk.fz6 BK220.out))
             have n0_ : Aside0 (((((((w16.setCell ⟨gb220, 0, none⟩ (.string ((rd_T48 l0 x18_1).f0))).setCell ⟨gb220, 1, none⟩ (.int .i64 ((rd_T48 l0 x18_1).f1))).setCell ⟨gb220, 2, none⟩ (.int .i64 ((rd_T48 l0 x18_1).f2))).setCell ⟨gb220, 3, none⟩ (.bool ((rd_T48 l0 x18_1).f3))).setCell ⟨gb220, 4, none⟩ (.int .i64 ((rd_T48 l0 x18_1).f4))).setCell ⟨gb220, 5, none⟩ (.int .i64 ((rd_T48 l0 x18_1).f5))).heap[gb220]? = some (.cells #[.string ((rd_T48 l0 x18_1).f0), .int .i64 ((rd_T48 l0 x18_1).f1), .int .i64 ((rd_T48 l0 x18_1).f2), .bool ((rd_T48 l0 x18_1).f3), .int .i64 ((rd_T48 l0 x18_1).f4), .int .i64 ((rd_T48 l0 x18_1).f5)] 48 (0, 0))) := ⟨by (with_reducible repeat (first | refine blk_drewN ?_ _ | refine blk_drew ?_ | refine blk_alloc ?_ _)); refine blk_put (cs := #[.string ((rd_T48 l0 x18_1).f0), .int .i64 ((rd_T48 l0 x18_1).f1), .int .i64 ((rd_T48 l0 x18_1).f2), .bool ((rd_T48 l0 x18_1).f3), .int .i64 ((rd_T48 l0 x18_1).f4), .int .i64 0]) ?_ 5 _ rfl; (with_reducible repeat (first | refine blk_drewN ?_ _ | refine blk_drew ?_ | refine blk_alloc ?_ _)); refine blk_put (cs := #[.string ((rd_T48 l0 x18_1).f0), .int .i64 ((rd_T48 l0 x18_1).f1), .int .i64 ((rd_T48 l0 x18_1).f2), .bool ((rd_T48 l0 x18_1).f3), .int .i64 0, .int .i64 0]) ?_ 4 _ rfl; (with_reducible repeat (first | refine blk_drewN ?_ _ | refine blk_drew ?_ | refine blk_alloc ?_ _)); refine blk_put (cs := #[.string ((rd_T48 l0 x18_1).f0), .int .i64 ((rd_T48 l0 x18_1).f1), .int .i64 ((rd_T48 l0 x18_1).f2), .bool false, .int .i64 0, .int .i64 0]) ?_ 3 _ rfl; (with_reducible repeat (first | refine blk_drewN ?_ _ | refine blk_drew ?_ | refine blk_alloc ?_ _)); refine blk_put (cs := #[.string ((rd_T48 l0 x18_1).f0), .int .i64 ((rd_T48 l0 x18_1).f1), .int .i64 0, .bool false, .int .i64 0, .int .i64 0]) ?_ 2 _ rfl; (with_reducible repeat (first | refine blk_drewN ?_ _ | refine blk_drew ?_ | refine blk_alloc ?_ _)); refine blk_put (cs := #[.string ((rd_T48 l0 x18_1).f0), .int .i64 0, .int .i64 0, .bool false, .int .i64 0, .int .i64 0]) ?_ 1 _ rfl; (with_reducible repeat (first | refine blk_drewN ?_ _ | refine blk_drew ?_ | refine blk_alloc ?_ _)); refine blk_put (cs := #[.string (⟨#[]⟩ : ByteArray), .int .i64 0, .int .i64 0, .bool false, .int .i64 0, .int .i64 0]) ?_ 0 _ rfl; (with_reducible repeat (first | refine blk_drewN ?_ _ | refine blk_drew ?_ | refine blk_alloc ?_ _)); exact BK220.out⟩
             have n1_ : Aside0 (Below w.heap.size w ((((((w16.setCell ⟨gb220, 0, none⟩ (.string ((rd_T48 l0 x18_1).f0))).setCell ⟨gb220, 1, none⟩ (.int .i64 ((rd_T48 l0 x18_1).f1))).setCell ⟨gb220, 2, none⟩ (.int .i64 ((rd_T48 l0 x18_1).f2))).setCell ⟨gb220, 3, none⟩ (.bool ((rd_T48 l0 x18_1).f3))).setCell ⟨gb220, 4, none⟩ (.int .i64 ((rd_T48 l0 x18_1).f4))).setCell ⟨gb220, 5, none⟩ (.int .i64 ((rd_T48 l0 x18_1).f5)))) := ⟨by repeat (first | (with_reducible first | exact HB.out | apply below_alloc | apply pw_below_drewN | apply below_drew1 | refine below_set ?_ GE220.out) | exact HB.out)⟩
             (try clear BK220)
             (try clear HB)
             generalize ((((((w16.setCell ⟨gb220, 0, none⟩ (.string ((rd_T48 l0 x18_1).f0))).setCell ⟨gb220, 1, none⟩ (.int .i64 ((rd_T48 l0 x18_1).f1))).setCell ⟨gb220, 2, none⟩ (.int .i64 ((rd_T48 l0 x18_1).f2))).setCell ⟨gb220, 3, none⟩ (.bool ((rd_T48 l0 x18_1).f3))).setCell ⟨gb220, 4, none⟩ (.int .i64 ((rd_T48 l0 x18_1).f4))).setCell ⟨gb220, 5, none⟩ (.int .i64 ((rd_T48 l0 x18_1).f5))) = w18 at n0_ n1_ ⊢
             have BK220 := n0_
             have HB := n1_
             clear n0_ n1_
             have n0_ := Aside0.mk (blk_drew BK220.out)
             have n1_ := Aside0.mk (below_drew1 HB.out)
             clear BK220
             clear HB
             have BK220 := n0_
             have HB := n1_
             clear n0_ n1_
             have p222 : 0 ≤ ((ji12) : Int) := of_decide_eq_true (by first | (with_reducible assumption) | assumption)
             have q222 : (ji12) < (l0.length : Int) := of_decide_eq_true (by first | (with_reducible assumption) | assumption)
             obtain ⟨ad222, e222, hx222_0, hx222_1, hx222_2, hx222_3, hx222_4, hx222_5⟩ := at_T48 HR0.out (ji12) p222 q222
             have hw222_5 := hx222_5
             have hw222_4 := hx222_4
             have hw222_3 := hx222_3
             have hw222_2 := hx222_2
             have hw222_1 := hx222_1
             have hw222_0 := hx222_0
             obtain rfl : ad219 = ad222 := (by injection e222)
             replace hx222_0 := (HB.out.cell (World.block_lt_of_cell? w _ hx222_0)).trans hx222_0
             replace hx222_1 := (HB.out.cell (World.block_lt_of_cell? w _ hx222_1)).trans hx222_1
             replace hx222_2 := (HB.out.cell (World.block_lt_of_cell? w _ hx222_2)).trans hx222_2
             replace hx222_3 := (HB.out.cell (World.block_lt_of_cell? w _ hx222_3)).trans hx222_3
             replace hx222_4 := (HB.out.cell (World.block_lt_of_cell? w _ hx222_4)).trans hx222_4
             replace hx222_5 := (HB.out.cell (World.block_lt_of_cell? w _ hx222_5)).trans hx222_5
             replace p222 := eq_true p222
             replace q222 := eq_true q222
             refine start_ (n := 26) (S := fun w' => w'.cell? ⟨gb220, 0, none⟩ = some (.string ((rd_T48 l0 x18_1).f0)) ∧ w'.cell? ⟨gb220, 1, none⟩ = some (.int .i64 ((rd_T48 l0 x18_1).f1)) ∧ w'.cell? ⟨gb220, 2, none⟩ = some (.int .i64 ((rd_T48 l0 x18_1).f2)) ∧ w'.cell? ⟨gb220, 3, none⟩ = some (.bool ((rd_T48 l0 x18_1).f3)) ∧ w'.cell? ⟨gb220, 4, none⟩ = some (.int .i64 ((rd_T48 l0 x18_1).f4)) ∧ w'.cell? ⟨gb220, 5, none⟩ = some (.int .i64 ((rd_T48 l0 x18_1).f5)) ∧ w'.cell? (ad219.add (((ji12)).toNat * 6)) = some (.string ((rd_T48 l0 (ji12)).f0)) ∧ w'.cell? ⟨(ad219.add (((ji12)).toNat * 6)).block, (ad219.add (((ji12)).toNat * 6)).off + 1, none⟩ = some (.int .i64 ((rd_T48 l0 (ji12)).f1)) ∧ w'.cell? ⟨(ad219.add (((ji12)).toNat * 6)).block, (ad219.add (((ji12)).toNat * 6)).off + 2, none⟩ = some (.int .i64 ((rd_T48 l0 (ji12)).f2)) ∧ w'.cell? ⟨(ad219.add (((ji12)).toNat * 6)).block, (ad219.add (((ji12)).toNat * 6)).off + 3, none⟩ = some (.bool ((rd_T48 l0 (ji12)).f3)) ∧ w'.cell? ⟨(ad219.add (((ji12)).toNat * 6)).block, (ad219.add (((ji12)).toNat * 6)).off + 4, none⟩ = some (.int .i64 ((rd_T48 l0 (ji12)).f4)) ∧ w'.cell? ⟨(ad219.add (((ji12)).toNat * 6)).block, (ad219.add (((ji12)).toNat * 6)).off + 5, none⟩ = some (.int .i64 ((rd_T48 l0 (ji12)).f5))) (ds := []) impl_StackOk.v0 (by kernel_rfl) rfl rfl ⟨(blk_cell BK220.out 0).trans rfl, (blk_cell BK220.out 1).trans rfl, (blk_cell BK220.out 2).trans rfl, (blk_cell BK220.out 3).trans rfl, (blk_cell BK220.out 4).trans rfl, (blk_cell BK220.out 5).trans rfl, ((HB.out.cell (World.block_lt_of_cell? w _ hw222_0)).trans hw222_0), ((HB.out.cell (World.block_lt_of_cell? w _ hw222_1)).trans hw222_1), ((HB.out.cell (World.block_lt_of_cell? w _ hw222_2)).trans hw222_2), ((HB.out.cell (World.block_lt_of_cell? w _ hw222_3)).trans hw222_3), ((HB.out.cell (World.block_lt_of_cell? w _ hw222_4)).trans hw222_4), ((HB.out.cell (World.block_lt_of_cell? w _ hw222_5)).trans hw222_5)⟩ (fun hHeld => ?_); refine with_tabW impl_StackOk.tab7 impl_StackOk.bits7 (fun HT_ HW_ => ?_)
             generalize w18.drew = w19 at BK220 HB hx222_0 hx222_1 hx222_2 hx222_3 hx222_4 hx222_5 hHeld ⊢
             refine Sk.tk12 0 23 impl_StackOk.v1 HT_.out HW_.out hHeld (h := ?_)
             refine one_ (i := 1) (N := some 24) impl_StackOk.v2 rfl rfl (one_of HT_.out (by kernel_rfl)) (by decide) (fun K hK => ?_)
             refine goes_ Try.func19 (by kernel_rfl) rfl #[.agg #[.string ((rd_T48 l0 x18_1).f0), .int .i64 ((rd_T48 l0 x18_1).f1), .int .i64 ((rd_T48 l0 x18_1).f2), .bool ((rd_T48 l0 x18_1).f3), .int .i64 ((rd_T48 l0 x18_1).f4), .int .i64 ((rd_T48 l0 x18_1).f5)]] (by rfl) rfl rfl (by (try simp only [List.map_toArray, List.map_cons, List.map_nil]); first | done | rfl | (simp only [List.length_drop, List.length_take]; rfl)) ?_
             with_reducible refine (impl_BoxOk.calls k1 ((rd_T48 l0 x18_1).f0) ((rd_T48 l0 x18_1).f1) ((rd_T48 l0 x18_1).f2) ((rd_T48 l0 x18_1).f3) ((rd_T48 l0 x18_1).f4) ((rd_T48 l0 x18_1).f5) true _ (by first | exact A9.out | (have h_ := A9.out; (try rw [← Nbq21.out] at h_); (try rw [← Nbq41.out] at h_); exact h_))).mono ?_
             rintro e w20 ⟨rfl, hb⟩
             refine ⟨_, rfl, ?_⟩
             have n0_ := Aside0.mk (blk_below (g := gb220) (by (with_reducible repeat (first | refine blk_drewN ?_ _ | refine blk_drew ?_ | refine blk_alloc ?_ _)); exact BK220.out) hb)
             have n1_ := Aside0.mk (below_step (by repeat (first | (with_reducible first | exact HB.out | apply below_alloc | apply pw_below_drewN | apply below_drew1 | refine below_set ?_ GE220.out) | exact HB.out)) hb)
             clear BK220
             clear HB
             have BK220 := n0_
             have HB := n1_
             clear n0_ n1_
             (try clear hb)
             refine hK.out _ _ ⟨(blk_cell BK220.out 0).trans rfl, (blk_cell BK220.out 1).trans rfl, (blk_cell BK220.out 2).trans rfl, (blk_cell BK220.out 3).trans rfl, (blk_cell BK220.out 4).trans rfl, (blk_cell BK220.out 5).trans rfl, ((HB.out.cell (World.block_lt_of_cell? w _ hw222_0)).trans hw222_0), ((HB.out.cell (World.block_lt_of_cell? w _ hw222_1)).trans hw222_1), ((HB.out.cell (World.block_lt_of_cell? w _ hw222_2)).trans hw222_2), ((HB.out.cell (World.block_lt_of_cell? w _ hw222_3)).trans hw222_3), ((HB.out.cell (World.block_lt_of_cell? w _ hw222_4)).trans hw222_4), ((HB.out.cell (World.block_lt_of_cell? w _ hw222_5)).trans hw222_5)⟩ (fun hHeld => ?_)
             clear hK K
             refine Sk.nm 24 (h := ?_)
             refine Sk.pq 2 25 impl_StackOk.v3 HT_.out (h := ?_)
             refine Sk.pq 3 26 impl_StackOk.v4 HT_.out (h := ?_)
             refine Sk.pq 4 27 impl_StackOk.v5 HT_.out (h := ?_)
             refine Sk.pq 5 28 impl_StackOk.v6 HT_.out (h := ?_)
             refine Sk.pq 6 29 impl_StackOk.v7 HT_.out (h := ?_)
             refine Sk.pq 7 30 impl_StackOk.v8 HT_.out (h := ?_)
             refine Sk.pq 9 32 impl_StackOk.v9 HT_.out (h := ?_)
             refine Sk.pq 10 33 impl_StackOk.v10 HT_.out (h := ?_)
             refine Sk.pq 11 34 impl_StackOk.v11 HT_.out (h := ?_)
             refine Sk.pq 12 35 impl_StackOk.v12 HT_.out (h := ?_)
             refine Sk.pq 13 36 impl_StackOk.v13 HT_.out (h := ?_)
             refine Sk.tk12 8 31 impl_StackOk.v14 HT_.out HW_.out hHeld (h := ?_)
             refine Sk.tk12 14 37 impl_StackOk.v15 HT_.out HW_.out hHeld (h := ?_)
             refine Sk.pq 15 38 impl_StackOk.v16 HT_.out (h := ?_)
             refine Sk.pq 16 39 impl_StackOk.v17 HT_.out (h := ?_)
             refine Sk.pq 17 40 impl_StackOk.v18 HT_.out (h := ?_)
             refine Sk.pq 18 41 impl_StackOk.v19 HT_.out (h := ?_)
             refine Sk.pu 19 42 impl_StackOk.v20 HT_.out (h := ?_)
             refine Sk.pu 20 43 impl_StackOk.v21 HT_.out (h := ?_)
             refine Sk.pu 21 44 impl_StackOk.v22 HT_.out (h := ?_)
             refine Sk.pu 22 45 impl_StackOk.v23 HT_.out (h := ?_)
             refine Sk.pu 23 46 impl_StackOk.v24 HT_.out (h := ?_)
             refine Sk.pu 24 47 impl_StackOk.v25 HT_.out (h := ?_)
             refine Sk.pq 25 48 impl_StackOk.v26 HT_.out (h := ?_)
             refine done_ (done_of HT_.out (by kernel_rfl)) ?_
             try go_wp2
             go_ret
             exact ⟨by first | rfl | (simp [errW_none, errW_some] <;> rfl) | (simp only [← hji12]; first | rfl | (simp [errW_none, errW_some] <;> rfl)) | (simp [*, errW_none, errW_some] <;> rfl), by repeat (first | (with_reducible first | exact HB.out | apply below_alloc | apply pw_below_drewN | apply below_drew1 | refine below_set ?_ GE220.out) | exact HB.out)⟩
            ·rw [if_neg c15] at H
             have c15b0 : decide (((rd_T48 l0 (ji12)).f1) < ((rd_T48 l0 x18_1).f1)) = false := decide_eq_false c15
             clear c15
             obtain ⟨bq21, hbq21⟩ : ∃ b_ : Bool, b_ = ((rd_T48 l0 x18_1).f3) := ⟨_, rfl⟩
             replace H : (if bq21 = true then (if x18_1 > 1 then (some false) else (impl_StackOk.l0 k1 l0 a1 (wrap64 (x5_1 + ((rd_T48 l0 x18_1).f1))) l0 (l0.length : Int) (wrap64 (x18_1 + 1)))) else (impl_StackOk.l0 k1 l0 a1 (wrap64 (x5_1 + ((rd_T48 l0 x18_1).f1))) l0 (l0.length : Int) (wrap64 (x18_1 + 1)))) = some r := by rw [← hbq21] at H; exact H
             have Nbq21 := Aside0.mk hbq21
             clear hbq21
             by_cases c22 : bq21 = true
             ·subst c22
              rw [if_pos rfl] at H
              by_cases c23 : x18_1 > 1
              ·rw [if_pos c23] at H
               have c23b0 : decide (1 < x18_1) = true := decide_eq_true c23
               clear c23
               obtain rfl := Option.some.inj H
               have p219 : 0 ≤ (x18_1 : Int) := of_decide_eq_true (by first | (with_reducible assumption) | assumption)
               have q219 : x18_1 < (l0.length : Int) := of_decide_eq_true (by first | (with_reducible assumption) | assumption)
               obtain ⟨ad219, e219, hx219_0, hx219_1, hx219_2, hx219_3, hx219_4, hx219_5⟩ := at_T48 HR0.out x18_1 p219 q219
               (try rw [← Nbq21.out] at hx219_3)
               cases e219
               replace hx219_0 := (HB.out.cell (World.block_lt_of_cell? w _ hx219_0)).trans hx219_0
               replace hx219_1 := (HB.out.cell (World.block_lt_of_cell? w _ hx219_1)).trans hx219_1
               replace hx219_2 := (HB.out.cell (World.block_lt_of_cell? w _ hx219_2)).trans hx219_2
               replace hx219_3 := (HB.out.cell (World.block_lt_of_cell? w _ hx219_3)).trans hx219_3
               replace hx219_4 := (HB.out.cell (World.block_lt_of_cell? w _ hx219_4)).trans hx219_4
               replace hx219_5 := (HB.out.cell (World.block_lt_of_cell? w _ hx219_5)).trans hx219_5
               replace p219 := eq_true p219
               replace q219 := eq_true q219
               try go_wp2_with (first | ((with_reducible refine gate_dst (N := 7) rfl ?_); refine box_event ?hg (N := 7) ?hd (cs := #[.string (⟨#[]⟩ : ByteArray), .int .i64 0, .int .i64 0, .bool false, .int .i64 0, .int .i64 0]) (t := 48) ?hr ?_; (case hd => rfl); (case hg => rfl); (case hr => first | (go_simp; done) | (go_simp; rfl)); intro gb220 hg w24 hbox hb; have n0_ := Aside0.mk (below_step Sk.bl_ hb); have n1_ := Aside0.mk (hbox); have n2_ := Aside0.mk ((by rw [hg]; exact (below_size Sk.bl_) : w.heap.size ≤ gb220)); have n3_ := Aside0.mk ((by rw [hg]; exact (below_size Sk.bl_) : w.heap.size ≤ gb220)); clear HB; have HB := n0_; have BK220 := n1_; have GW220 := n2_; have GE220 := n3_; clear n0_ n1_ n2_ n3_; clear hb hbox hg; obtain ⟨hcz25_0, hcz25_1, hcz25_2, hcz25_3, hcz25_4, hcz25_5⟩ := impl_StackOk.cl6 BK220.out; obtain ⟨hfz25_0, hfz25_1, hfz25_2, hfz25_3, hfz25_4, hfz25_5⟩ := impl_StackOk.fz6 BK220.out))
               have n0_ : Aside0 (((((((w24.setCell ⟨gb220, 0, none⟩ (.string ((rd_T48 l0 x18_1).f0))).setCell ⟨gb220, 1, none⟩ (.int .i64 ((rd_T48 l0 x18_1).f1))).setCell ⟨gb220, 2, none⟩ (.int .i64 ((rd_T48 l0 x18_1).f2))).setCell ⟨gb220, 3, none⟩ (.bool true)).setCell ⟨gb220, 4, none⟩ (.int .i64 ((rd_T48 l0 x18_1).f4))).setCell ⟨gb220, 5, none⟩ (.int .i64 ((rd_T48 l0 x18_1).f5))).heap[gb220]? = some (.cells #[.string ((rd_T48 l0 x18_1).f0), .int .i64 ((rd_T48 l0 x18_1).f1), .int .i64 ((rd_T48 l0 x18_1).f2), .bool true, .int .i64 ((rd_T48 l0 x18_1).f4), .int .i64 ((rd_T48 l0 x18_1).f5)] 48 (0, 0))) := ⟨by (with_reducible repeat (first | refine blk_drewN ?_ _ | refine blk_drew ?_ | refine blk_alloc ?_ _)); refine blk_put (cs := #[.string ((rd_T48 l0 x18_1).f0), .int .i64 ((rd_T48 l0 x18_1).f1), .int .i64 ((rd_T48 l0 x18_1).f2), .bool true, .int .i64 ((rd_T48 l0 x18_1).f4), .int .i64 0]) ?_ 5 _ rfl; (with_reducible repeat (first | refine blk_drewN ?_ _ | refine blk_drew ?_ | refine blk_alloc ?_ _)); refine blk_put (cs := #[.string ((rd_T48 l0 x18_1).f0), .int .i64 ((rd_T48 l0 x18_1).f1), .int .i64 ((rd_T48 l0 x18_1).f2), .bool true, .int .i64 0, .int .i64 0]) ?_ 4 _ rfl; (with_reducible repeat (first | refine blk_drewN ?_ _ | refine blk_drew ?_ | refine blk_alloc ?_ _)); refine blk_put (cs := #[.string ((rd_T48 l0 x18_1).f0), .int .i64 ((rd_T48 l0 x18_1).f1), .int .i64 ((rd_T48 l0 x18_1).f2), .bool false, .int .i64 0, .int .i64 0]) ?_ 3 _ rfl; (with_reducible repeat (first | refine blk_drewN ?_ _ | refine blk_drew ?_ | refine blk_alloc ?_ _)); refine blk_put (cs := #[.string ((rd_T48 l0 x18_1).f0), .int .i64 ((rd_T48 l0 x18_1).f1), .int .i64 0, .bool false, .int .i64 0, .int .i64 0]) ?_ 2 _ rfl; (with_reducible repeat (first | refine blk_drewN ?_ _ | refine blk_drew ?_ | refine blk_alloc ?_ _)); refine blk_put (cs := #[.string ((rd_T48 l0 x18_1).f0), .int .i64 0, .int .i64 0, .bool false, .int .i64 0, .int .i64 0]) ?_ 1 _ rfl; (with_reducible repeat (first | refine blk_drewN ?_ _ | refine blk_drew ?_ | refine blk_alloc ?_ _)); refine blk_put (cs := #[.string (⟨#[]⟩ : ByteArray), .int .i64 0, .int .i64 0, .bool false, .int .i64 0, .int .i64 0]) ?_ 0 _ rfl; (with_reducible repeat (first | refine blk_drewN ?_ _ | refine blk_drew ?_ | refine blk_alloc ?_ _)); exact BK220.out⟩
               have n1_ : Aside0 (Below w.heap.size w ((((((w24.setCell ⟨gb220, 0, none⟩ (.string ((rd_T48 l0 x18_1).f0))).setCell ⟨gb220, 1, none⟩ (.int .i64 ((rd_T48 l0 x18_1).f1))).setCell ⟨gb220, 2, none⟩ (.int .i64 ((rd_T48 l0 x18_1).f2))).setCell ⟨gb220, 3, none⟩ (.bool true)).setCell ⟨gb220, 4, none⟩ (.int .i64 ((rd_T48 l0 x18_1).f4))).setCell ⟨gb220, 5, none⟩ (.int .i64 ((rd_T48 l0 x18_1).f5)))) := ⟨by repeat (first | (with_reducible first | exact HB.out | apply below_alloc | apply pw_below_drewN | apply below_drew1 | refine below_set ?_ GE220.out) | exact HB.out)⟩
               (try clear BK220)
               (try clear HB)
               generalize ((((((w24.setCell ⟨gb220, 0, none⟩ (.string ((rd_T48 l0 x18_1).f0))).setCell ⟨gb220, 1, none⟩ (.int .i64 ((rd_T48 l0 x18_1).f1))).setCell ⟨gb220, 2, none⟩ (.int .i64 ((rd_T48 l0 x18_1).f2))).setCell ⟨gb220, 3, none⟩ (.bool true)).setCell ⟨gb220, 4, none⟩ (.int .i64 ((rd_T48 l0 x18_1).f4))).setCell ⟨gb220, 5, none⟩ (.int .i64 ((rd_T48 l0 x18_1).f5))) = w26 at n0_ n1_ ⊢
               have BK220 := n0_
               have HB := n1_
               clear n0_ n1_
               have n0_ := Aside0.mk (blk_drew BK220.out)
               have n1_ := Aside0.mk (below_drew1 HB.out)
               clear BK220
               clear HB
               have BK220 := n0_
               have HB := n1_
               clear n0_ n1_
               have p222 : 0 ≤ ((ji12) : Int) := of_decide_eq_true (by first | (with_reducible assumption) | assumption)
               have q222 : (ji12) < (l0.length : Int) := of_decide_eq_true (by first | (with_reducible assumption) | assumption)
               obtain ⟨ad222, e222, hx222_0, hx222_1, hx222_2, hx222_3, hx222_4, hx222_5⟩ := at_T48 HR0.out (ji12) p222 q222
               have hw222_5 := hx222_5
               have hw222_4 := hx222_4
               have hw222_3 := hx222_3
               have hw222_2 := hx222_2
               have hw222_1 := hx222_1
               have hw222_0 := hx222_0
               (try rw [← Nbq21.out] at hx222_3)
               obtain rfl : ad219 = ad222 := (by injection e222)
               replace hx222_0 := (HB.out.cell (World.block_lt_of_cell? w _ hx222_0)).trans hx222_0
               replace hx222_1 := (HB.out.cell (World.block_lt_of_cell? w _ hx222_1)).trans hx222_1
               replace hx222_2 := (HB.out.cell (World.block_lt_of_cell? w _ hx222_2)).trans hx222_2
               replace hx222_3 := (HB.out.cell (World.block_lt_of_cell? w _ hx222_3)).trans hx222_3
               replace hx222_4 := (HB.out.cell (World.block_lt_of_cell? w _ hx222_4)).trans hx222_4
               replace hx222_5 := (HB.out.cell (World.block_lt_of_cell? w _ hx222_5)).trans hx222_5
               replace p222 := eq_true p222
               replace q222 := eq_true q222
               refine start_ (n := 26) (S := fun w' => w'.cell? ⟨gb220, 0, none⟩ = some (.string ((rd_T48 l0 x18_1).f0)) ∧ w'.cell? ⟨gb220, 1, none⟩ = some (.int .i64 ((rd_T48 l0 x18_1).f1)) ∧ w'.cell? ⟨gb220, 2, none⟩ = some (.int .i64 ((rd_T48 l0 x18_1).f2)) ∧ w'.cell? ⟨gb220, 3, none⟩ = some (.bool true) ∧ w'.cell? ⟨gb220, 4, none⟩ = some (.int .i64 ((rd_T48 l0 x18_1).f4)) ∧ w'.cell? ⟨gb220, 5, none⟩ = some (.int .i64 ((rd_T48 l0 x18_1).f5)) ∧ w'.cell? (ad219.add (((ji12)).toNat * 6)) = some (.string ((rd_T48 l0 (ji12)).f0)) ∧ w'.cell? ⟨(ad219.add (((ji12)).toNat * 6)).block, (ad219.add (((ji12)).toNat * 6)).off + 1, none⟩ = some (.int .i64 ((rd_T48 l0 (ji12)).f1)) ∧ w'.cell? ⟨(ad219.add (((ji12)).toNat * 6)).block, (ad219.add (((ji12)).toNat * 6)).off + 2, none⟩ = some (.int .i64 ((rd_T48 l0 (ji12)).f2)) ∧ w'.cell? ⟨(ad219.add (((ji12)).toNat * 6)).block, (ad219.add (((ji12)).toNat * 6)).off + 3, none⟩ = some (.bool ((rd_T48 l0 (ji12)).f3)) ∧ w'.cell? ⟨(ad219.add (((ji12)).toNat * 6)).block, (ad219.add (((ji12)).toNat * 6)).off + 4, none⟩ = some (.int .i64 ((rd_T48 l0 (ji12)).f4)) ∧ w'.cell? ⟨(ad219.add (((ji12)).toNat * 6)).block, (ad219.add (((ji12)).toNat * 6)).off + 5, none⟩ = some (.int .i64 ((rd_T48 l0 (ji12)).f5))) (ds := []) impl_StackOk.v0 (by kernel_rfl) rfl rfl ⟨(blk_cell BK220.out 0).trans rfl, (blk_cell BK220.out 1).trans rfl, (blk_cell BK220.out 2).trans rfl, (blk_cell BK220.out 3).trans rfl, (blk_cell BK220.out 4).trans rfl, (blk_cell BK220.out 5).trans rfl, ((HB.out.cell (World.block_lt_of_cell? w _ hw222_0)).trans hw222_0), ((HB.out.cell (World.block_lt_of_cell? w _ hw222_1)).trans hw222_1), ((HB.out.cell (World.block_lt_of_cell? w _ hw222_2)).trans hw222_2), ((HB.out.cell (World.block_lt_of_cell? w _ hw222_3)).trans hw222_3), ((HB.out.cell (World.block_lt_of_cell? w _ hw222_4)).trans hw222_4), ((HB.out.cell (World.block_lt_of_cell? w _ hw222_5)).trans hw222_5)⟩ (fun hHeld => ?_); refine with_tabW impl_StackOk.tab7 impl_StackOk.bits7 (fun HT_ HW_ => ?_)
               generalize w26.drew = w27 at BK220 HB hx222_0 hx222_1 hx222_2 hx222_3 hx222_4 hx222_5 hHeld ⊢
               refine Sk.tk12 0 23 impl_StackOk.v1 HT_.out HW_.out hHeld (h := ?_)
               refine one_ (i := 1) (N := some 24) impl_StackOk.v2 rfl rfl (one_of HT_.out (by kernel_rfl)) (by decide) (fun K hK => ?_)
               refine goes_ Try.func19 (by kernel_rfl) rfl #[.agg #[.string ((rd_T48 l0 x18_1).f0), .int .i64 ((rd_T48 l0 x18_1).f1), .int .i64 ((rd_T48 l0 x18_1).f2), .bool true, .int .i64 ((rd_T48 l0 x18_1).f4), .int .i64 ((rd_T48 l0 x18_1).f5)]] (by rfl) rfl rfl (by (try simp only [List.map_toArray, List.map_cons, List.map_nil]); first | done | rfl | (simp only [List.length_drop, List.length_take]; rfl)) ?_
               with_reducible refine (impl_BoxOk.calls k1 ((rd_T48 l0 x18_1).f0) ((rd_T48 l0 x18_1).f1) ((rd_T48 l0 x18_1).f2) true ((rd_T48 l0 x18_1).f4) ((rd_T48 l0 x18_1).f5) true _ (by first | exact A9.out | (have h_ := A9.out; (try rw [← Nbq21.out] at h_); (try rw [← Nbq41.out] at h_); exact h_))).mono ?_
               rintro e w28 ⟨rfl, hb⟩
               refine ⟨_, rfl, ?_⟩
               have n0_ := Aside0.mk (blk_below (g := gb220) (by (with_reducible repeat (first | refine blk_drewN ?_ _ | refine blk_drew ?_ | refine blk_alloc ?_ _)); exact BK220.out) hb)
               have n1_ := Aside0.mk (below_step (by repeat (first | (with_reducible first | exact HB.out | apply below_alloc | apply pw_below_drewN | apply below_drew1 | refine below_set ?_ GE220.out) | exact HB.out)) hb)
               clear BK220
               clear HB
               have BK220 := n0_
               have HB := n1_
               clear n0_ n1_
               (try clear hb)
               refine hK.out _ _ ⟨(blk_cell BK220.out 0).trans rfl, (blk_cell BK220.out 1).trans rfl, (blk_cell BK220.out 2).trans rfl, (blk_cell BK220.out 3).trans rfl, (blk_cell BK220.out 4).trans rfl, (blk_cell BK220.out 5).trans rfl, ((HB.out.cell (World.block_lt_of_cell? w _ hw222_0)).trans hw222_0), ((HB.out.cell (World.block_lt_of_cell? w _ hw222_1)).trans hw222_1), ((HB.out.cell (World.block_lt_of_cell? w _ hw222_2)).trans hw222_2), ((HB.out.cell (World.block_lt_of_cell? w _ hw222_3)).trans hw222_3), ((HB.out.cell (World.block_lt_of_cell? w _ hw222_4)).trans hw222_4), ((HB.out.cell (World.block_lt_of_cell? w _ hw222_5)).trans hw222_5)⟩ (fun hHeld => ?_)
               clear hK K
               refine Sk.nm 24 (h := ?_)
               refine Sk.pq 2 25 impl_StackOk.v3 HT_.out (h := ?_)
               refine Sk.pq 3 26 impl_StackOk.v4 HT_.out (h := ?_)
               refine Sk.pq 4 27 impl_StackOk.v5 HT_.out (h := ?_)
               refine Sk.pq 5 28 impl_StackOk.v6 HT_.out (h := ?_)
               refine Sk.pq 6 29 impl_StackOk.v7 HT_.out (h := ?_)
               refine Sk.pq 7 30 impl_StackOk.v8 HT_.out (h := ?_)
               refine Sk.pq 9 32 impl_StackOk.v9 HT_.out (h := ?_)
               refine Sk.pq 10 33 impl_StackOk.v10 HT_.out (h := ?_)
               refine Sk.pq 11 34 impl_StackOk.v11 HT_.out (h := ?_)
               refine Sk.pq 12 35 impl_StackOk.v12 HT_.out (h := ?_)
               refine Sk.pq 13 36 impl_StackOk.v13 HT_.out (h := ?_)
               refine Sk.tk12 8 31 impl_StackOk.v14 HT_.out HW_.out hHeld (h := ?_)
               refine Sk.tk12 14 37 impl_StackOk.v15 HT_.out HW_.out hHeld (h := ?_)
               refine Sk.pq 15 38 impl_StackOk.v16 HT_.out (h := ?_)
               refine Sk.pq 16 39 impl_StackOk.v17 HT_.out (h := ?_)
               refine Sk.pq 17 40 impl_StackOk.v18 HT_.out (h := ?_)
               refine Sk.pq 18 41 impl_StackOk.v19 HT_.out (h := ?_)
               refine Sk.pq 19 42 impl_StackOk.v20 HT_.out (h := ?_)
               refine Sk.tk12 20 43 impl_StackOk.v21 HT_.out HW_.out hHeld (h := ?_)
               refine Sk.pq 21 44 impl_StackOk.v22 HT_.out (h := ?_)
               refine Sk.pq 22 45 impl_StackOk.v23 HT_.out (h := ?_)
               refine Sk.pq 23 46 impl_StackOk.v24 HT_.out (h := ?_)
               refine Sk.pq 24 47 impl_StackOk.v25 HT_.out (h := ?_)
               refine Sk.pq 25 48 impl_StackOk.v26 HT_.out (h := ?_)
               refine done_ (done_of HT_.out (by kernel_rfl)) ?_
               try go_wp2
               go_ret
               exact ⟨by first | rfl | (simp [errW_none, errW_some] <;> rfl) | (simp only [← hji12]; first | rfl | (simp [errW_none, errW_some] <;> rfl)) | (simp [*, errW_none, errW_some] <;> rfl), by repeat (first | (with_reducible first | exact HB.out | apply below_alloc | apply pw_below_drewN | apply below_drew1 | refine below_set ?_ GE220.out) | exact HB.out)⟩
              ·rw [if_neg c23] at H
               have c23b0 : decide (1 < x18_1) = false := decide_eq_false c23
               clear c23
               have H' := Aside0.mk H
               clear H
               have p219 : 0 ≤ (x18_1 : Int) := of_decide_eq_true (by first | (with_reducible assumption) | assumption)
               have q219 : x18_1 < (l0.length : Int) := of_decide_eq_true (by first | (with_reducible assumption) | assumption)
               obtain ⟨ad219, e219, hx219_0, hx219_1, hx219_2, hx219_3, hx219_4, hx219_5⟩ := at_T48 HR0.out x18_1 p219 q219
               (try rw [← Nbq21.out] at hx219_3)
               cases e219
               replace hx219_0 := (HB.out.cell (World.block_lt_of_cell? w _ hx219_0)).trans hx219_0
               replace hx219_1 := (HB.out.cell (World.block_lt_of_cell? w _ hx219_1)).trans hx219_1
               replace hx219_2 := (HB.out.cell (World.block_lt_of_cell? w _ hx219_2)).trans hx219_2
               replace hx219_3 := (HB.out.cell (World.block_lt_of_cell? w _ hx219_3)).trans hx219_3
               replace hx219_4 := (HB.out.cell (World.block_lt_of_cell? w _ hx219_4)).trans hx219_4
               replace hx219_5 := (HB.out.cell (World.block_lt_of_cell? w _ hx219_5)).trans hx219_5
               replace p219 := eq_true p219
               replace q219 := eq_true q219
               try go_wp2_with (first | ((with_reducible refine gate_dst (N := 7) rfl ?_); refine box_event ?hg (N := 7) ?hd (cs := #[.string (⟨#[]⟩ : ByteArray), .int .i64 0, .int .i64 0, .bool false, .int .i64 0, .int .i64 0]) (t := 48) ?hr ?_; (case hd => rfl); (case hg => rfl); (case hr => first | (go_simp; done) | (go_simp; rfl)); intro gb220 hg w29 hbox hb; have n0_ := Aside0.mk (below_step Sk.bl_ hb); have n1_ := Aside0.mk (hbox); have n2_ := Aside0.mk ((by rw [hg]; exact (below_size Sk.bl_) : w.heap.size ≤ gb220)); have n3_ := Aside0.mk ((by rw [hg]; exact (below_size Sk.bl_) : w.heap.size ≤ gb220)); clear HB; have HB := n0_; have BK220 := n1_; have GW220 := n2_; have GE220 := n3_; clear n0_ n1_ n2_ n3_; clear hb hbox hg; obtain ⟨hcz30_0, hcz30_1, hcz30_2, hcz30_3, hcz30_4, hcz30_5⟩ := impl_StackOk.cl6 BK220.out; obtain ⟨hfz30_0, hfz30_1, hfz30_2, hfz30_3, hfz30_4, hfz30_5⟩ := impl_StackOk.fz6 BK220.out))
               have n0_ : Aside0 (((((((w29.setCell ⟨gb220, 0, none⟩ (.string ((rd_T48 l0 x18_1).f0))).setCell ⟨gb220, 1, none⟩ (.int .i64 ((rd_T48 l0 x18_1).f1))).setCell ⟨gb220, 2, none⟩ (.int .i64 ((rd_T48 l0 x18_1).f2))).setCell ⟨gb220, 3, none⟩ (.bool true)).setCell ⟨gb220, 4, none⟩ (.int .i64 ((rd_T48 l0 x18_1).f4))).setCell ⟨gb220, 5, none⟩ (.int .i64 ((rd_T48 l0 x18_1).f5))).heap[gb220]? = some (.cells #[.string ((rd_T48 l0 x18_1).f0), .int .i64 ((rd_T48 l0 x18_1).f1), .int .i64 ((rd_T48 l0 x18_1).f2), .bool true, .int .i64 ((rd_T48 l0 x18_1).f4), .int .i64 ((rd_T48 l0 x18_1).f5)] 48 (0, 0))) := ⟨by (with_reducible repeat (first | refine blk_drewN ?_ _ | refine blk_drew ?_ | refine blk_alloc ?_ _)); refine blk_put (cs := #[.string ((rd_T48 l0 x18_1).f0), .int .i64 ((rd_T48 l0 x18_1).f1), .int .i64 ((rd_T48 l0 x18_1).f2), .bool true, .int .i64 ((rd_T48 l0 x18_1).f4), .int .i64 0]) ?_ 5 _ rfl; (with_reducible repeat (first | refine blk_drewN ?_ _ | refine blk_drew ?_ | refine blk_alloc ?_ _)); refine blk_put (cs := #[.string ((rd_T48 l0 x18_1).f0), .int .i64 ((rd_T48 l0 x18_1).f1), .int .i64 ((rd_T48 l0 x18_1).f2), .bool true, .int .i64 0, .int .i64 0]) ?_ 4 _ rfl; (with_reducible repeat (first | refine blk_drewN ?_ _ | refine blk_drew ?_ | refine blk_alloc ?_ _)); refine blk_put (cs := #[.string ((rd_T48 l0 x18_1).f0), .int .i64 ((rd_T48 l0 x18_1).f1), .int .i64 ((rd_T48 l0 x18_1).f2), .bool false, .int .i64 0, .int .i64 0]) ?_ 3 _ rfl; (with_reducible repeat (first | refine blk_drewN ?_ _ | refine blk_drew ?_ | refine blk_alloc ?_ _)); refine blk_put (cs := #[.string ((rd_T48 l0 x18_1).f0), .int .i64 ((rd_T48 l0 x18_1).f1), .int .i64 0, .bool false, .int .i64 0, .int .i64 0]) ?_ 2 _ rfl; (with_reducible repeat (first | refine blk_drewN ?_ _ | refine blk_drew ?_ | refine blk_alloc ?_ _)); refine blk_put (cs := #[.string ((rd_T48 l0 x18_1).f0), .int .i64 0, .int .i64 0, .bool false, .int .i64 0, .int .i64 0]) ?_ 1 _ rfl; (with_reducible repeat (first | refine blk_drewN ?_ _ | refine blk_drew ?_ | refine blk_alloc ?_ _)); refine blk_put (cs := #[.string (⟨#[]⟩ : ByteArray), .int .i64 0, .int .i64 0, .bool false, .int .i64 0, .int .i64 0]) ?_ 0 _ rfl; (with_reducible repeat (first | refine blk_drewN ?_ _ | refine blk_drew ?_ | refine blk_alloc ?_ _)); exact BK220.out⟩
               have n1_ : Aside0 (Below w.heap.size w ((((((w29.setCell ⟨gb220, 0, none⟩ (.string ((rd_T48 l0 x18_1).f0))).setCell ⟨gb220, 1, none⟩ (.int .i64 ((rd_T48 l0 x18_1).f1))).setCell ⟨gb220, 2, none⟩ (.int .i64 ((rd_T48 l0 x18_1).f2))).setCell ⟨gb220, 3, none⟩ (.bool true)).setCell ⟨gb220, 4, none⟩ (.int .i64 ((rd_T48 l0 x18_1).f4))).setCell ⟨gb220, 5, none⟩ (.int .i64 ((rd_T48 l0 x18_1).f5)))) := ⟨by repeat (first | (with_reducible first | exact HB.out | apply below_alloc | apply pw_below_drewN | apply below_drew1 | refine below_set ?_ GE220.out) | exact HB.out)⟩
               (try clear BK220)
               (try clear HB)
               generalize ((((((w29.setCell ⟨gb220, 0, none⟩ (.string ((rd_T48 l0 x18_1).f0))).setCell ⟨gb220, 1, none⟩ (.int .i64 ((rd_T48 l0 x18_1).f1))).setCell ⟨gb220, 2, none⟩ (.int .i64 ((rd_T48 l0 x18_1).f2))).setCell ⟨gb220, 3, none⟩ (.bool true)).setCell ⟨gb220, 4, none⟩ (.int .i64 ((rd_T48 l0 x18_1).f4))).setCell ⟨gb220, 5, none⟩ (.int .i64 ((rd_T48 l0 x18_1).f5))) = w31 at n0_ n1_ ⊢
               have BK220 := n0_
               have HB := n1_
               clear n0_ n1_
               have n0_ := Aside0.mk (blk_drew BK220.out)
               have n1_ := Aside0.mk (below_drew1 HB.out)
               clear BK220
               clear HB
               have BK220 := n0_
               have HB := n1_
               clear n0_ n1_
               have p222 : 0 ≤ ((ji12) : Int) := of_decide_eq_true (by first | (with_reducible assumption) | assumption)
               have q222 : (ji12) < (l0.length : Int) := of_decide_eq_true (by first | (with_reducible assumption) | assumption)
               obtain ⟨ad222, e222, hx222_0, hx222_1, hx222_2, hx222_3, hx222_4, hx222_5⟩ := at_T48 HR0.out (ji12) p222 q222
               have hw222_5 := hx222_5
               have hw222_4 := hx222_4
               have hw222_3 := hx222_3
               have hw222_2 := hx222_2
               have hw222_1 := hx222_1
               have hw222_0 := hx222_0
               (try rw [← Nbq21.out] at hx222_3)
               obtain rfl : ad219 = ad222 := (by injection e222)
               replace hx222_0 := (HB.out.cell (World.block_lt_of_cell? w _ hx222_0)).trans hx222_0
               replace hx222_1 := (HB.out.cell (World.block_lt_of_cell? w _ hx222_1)).trans hx222_1
               replace hx222_2 := (HB.out.cell (World.block_lt_of_cell? w _ hx222_2)).trans hx222_2
               replace hx222_3 := (HB.out.cell (World.block_lt_of_cell? w _ hx222_3)).trans hx222_3
               replace hx222_4 := (HB.out.cell (World.block_lt_of_cell? w _ hx222_4)).trans hx222_4
               replace hx222_5 := (HB.out.cell (World.block_lt_of_cell? w _ hx222_5)).trans hx222_5
               replace p222 := eq_true p222
               replace q222 := eq_true q222
               refine start_ (n := 26) (S := fun w' => w'.cell? ⟨gb220, 0, none⟩ = some (.string ((rd_T48 l0 x18_1).f0)) ∧ w'.cell? ⟨gb220, 1, none⟩ = some (.int .i64 ((rd_T48 l0 x18_1).f1)) ∧ w'.cell? ⟨gb220, 2, none⟩ = some (.int .i64 ((rd_T48 l0 x18_1).f2)) ∧ w'.cell? ⟨gb220, 3, none⟩ = some (.bool true) ∧ w'.cell? ⟨gb220, 4, none⟩ = some (.int .i64 ((rd_T48 l0 x18_1).f4)) ∧ w'.cell? ⟨gb220, 5, none⟩ = some (.int .i64 ((rd_T48 l0 x18_1).f5)) ∧ w'.cell? (ad219.add (((ji12)).toNat * 6)) = some (.string ((rd_T48 l0 (ji12)).f0)) ∧ w'.cell? ⟨(ad219.add (((ji12)).toNat * 6)).block, (ad219.add (((ji12)).toNat * 6)).off + 1, none⟩ = some (.int .i64 ((rd_T48 l0 (ji12)).f1)) ∧ w'.cell? ⟨(ad219.add (((ji12)).toNat * 6)).block, (ad219.add (((ji12)).toNat * 6)).off + 2, none⟩ = some (.int .i64 ((rd_T48 l0 (ji12)).f2)) ∧ w'.cell? ⟨(ad219.add (((ji12)).toNat * 6)).block, (ad219.add (((ji12)).toNat * 6)).off + 3, none⟩ = some (.bool ((rd_T48 l0 (ji12)).f3)) ∧ w'.cell? ⟨(ad219.add (((ji12)).toNat * 6)).block, (ad219.add (((ji12)).toNat * 6)).off + 4, none⟩ = some (.int .i64 ((rd_T48 l0 (ji12)).f4)) ∧ w'.cell? ⟨(ad219.add (((ji12)).toNat * 6)).block, (ad219.add (((ji12)).toNat * 6)).off + 5, none⟩ = some (.int .i64 ((rd_T48 l0 (ji12)).f5))) (ds := []) impl_StackOk.v0 (by kernel_rfl) rfl rfl ⟨(blk_cell BK220.out 0).trans rfl, (blk_cell BK220.out 1).trans rfl, (blk_cell BK220.out 2).trans rfl, (blk_cell BK220.out 3).trans rfl, (blk_cell BK220.out 4).trans rfl, (blk_cell BK220.out 5).trans rfl, ((HB.out.cell (World.block_lt_of_cell? w _ hw222_0)).trans hw222_0), ((HB.out.cell (World.block_lt_of_cell? w _ hw222_1)).trans hw222_1), ((HB.out.cell (World.block_lt_of_cell? w _ hw222_2)).trans hw222_2), ((HB.out.cell (World.block_lt_of_cell? w _ hw222_3)).trans hw222_3), ((HB.out.cell (World.block_lt_of_cell? w _ hw222_4)).trans hw222_4), ((HB.out.cell (World.block_lt_of_cell? w _ hw222_5)).trans hw222_5)⟩ (fun hHeld => ?_); refine with_tabW impl_StackOk.tab7 impl_StackOk.bits7 (fun HT_ HW_ => ?_)
               generalize w31.drew = w32 at BK220 HB hx222_0 hx222_1 hx222_2 hx222_3 hx222_4 hx222_5 hHeld ⊢
               refine Sk.tk12 0 23 impl_StackOk.v1 HT_.out HW_.out hHeld (h := ?_)
               refine one_ (i := 1) (N := some 24) impl_StackOk.v2 rfl rfl (one_of HT_.out (by kernel_rfl)) (by decide) (fun K hK => ?_)
               refine goes_ Try.func19 (by kernel_rfl) rfl #[.agg #[.string ((rd_T48 l0 x18_1).f0), .int .i64 ((rd_T48 l0 x18_1).f1), .int .i64 ((rd_T48 l0 x18_1).f2), .bool true, .int .i64 ((rd_T48 l0 x18_1).f4), .int .i64 ((rd_T48 l0 x18_1).f5)]] (by rfl) rfl rfl (by (try simp only [List.map_toArray, List.map_cons, List.map_nil]); first | done | rfl | (simp only [List.length_drop, List.length_take]; rfl)) ?_
               with_reducible refine (impl_BoxOk.calls k1 ((rd_T48 l0 x18_1).f0) ((rd_T48 l0 x18_1).f1) ((rd_T48 l0 x18_1).f2) true ((rd_T48 l0 x18_1).f4) ((rd_T48 l0 x18_1).f5) true _ (by first | exact A9.out | (have h_ := A9.out; (try rw [← Nbq21.out] at h_); (try rw [← Nbq41.out] at h_); exact h_))).mono ?_
               rintro e w33 ⟨rfl, hb⟩
               refine ⟨_, rfl, ?_⟩
               have n0_ := Aside0.mk (blk_below (g := gb220) (by (with_reducible repeat (first | refine blk_drewN ?_ _ | refine blk_drew ?_ | refine blk_alloc ?_ _)); exact BK220.out) hb)
               have n1_ := Aside0.mk (below_step (by repeat (first | (with_reducible first | exact HB.out | apply below_alloc | apply pw_below_drewN | apply below_drew1 | refine below_set ?_ GE220.out) | exact HB.out)) hb)
               clear BK220
               clear HB
               have BK220 := n0_
               have HB := n1_
               clear n0_ n1_
               (try clear hb)
               refine hK.out _ _ ⟨(blk_cell BK220.out 0).trans rfl, (blk_cell BK220.out 1).trans rfl, (blk_cell BK220.out 2).trans rfl, (blk_cell BK220.out 3).trans rfl, (blk_cell BK220.out 4).trans rfl, (blk_cell BK220.out 5).trans rfl, ((HB.out.cell (World.block_lt_of_cell? w _ hw222_0)).trans hw222_0), ((HB.out.cell (World.block_lt_of_cell? w _ hw222_1)).trans hw222_1), ((HB.out.cell (World.block_lt_of_cell? w _ hw222_2)).trans hw222_2), ((HB.out.cell (World.block_lt_of_cell? w _ hw222_3)).trans hw222_3), ((HB.out.cell (World.block_lt_of_cell? w _ hw222_4)).trans hw222_4), ((HB.out.cell (World.block_lt_of_cell? w _ hw222_5)).trans hw222_5)⟩ (fun hHeld => ?_)
               clear hK K
               refine Sk.nm 24 (h := ?_)
               refine Sk.pq 2 25 impl_StackOk.v3 HT_.out (h := ?_)
               refine Sk.pq 3 26 impl_StackOk.v4 HT_.out (h := ?_)
               refine Sk.pq 4 27 impl_StackOk.v5 HT_.out (h := ?_)
               refine Sk.pq 5 28 impl_StackOk.v6 HT_.out (h := ?_)
               refine Sk.pq 6 29 impl_StackOk.v7 HT_.out (h := ?_)
               refine Sk.pq 7 30 impl_StackOk.v8 HT_.out (h := ?_)
               refine Sk.pq 9 32 impl_StackOk.v9 HT_.out (h := ?_)
               refine Sk.pq 10 33 impl_StackOk.v10 HT_.out (h := ?_)
               refine Sk.pq 11 34 impl_StackOk.v11 HT_.out (h := ?_)
               refine Sk.pq 12 35 impl_StackOk.v12 HT_.out (h := ?_)
               refine Sk.pq 13 36 impl_StackOk.v13 HT_.out (h := ?_)
               refine Sk.tk12 8 31 impl_StackOk.v14 HT_.out HW_.out hHeld (h := ?_)
               refine Sk.tk12 14 37 impl_StackOk.v15 HT_.out HW_.out hHeld (h := ?_)
               refine Sk.pq 15 38 impl_StackOk.v16 HT_.out (h := ?_)
               refine Sk.pq 16 39 impl_StackOk.v17 HT_.out (h := ?_)
               refine Sk.pq 17 40 impl_StackOk.v18 HT_.out (h := ?_)
               refine Sk.pq 18 41 impl_StackOk.v19 HT_.out (h := ?_)
               refine Sk.pq 19 42 impl_StackOk.v20 HT_.out (h := ?_)
               refine Sk.tk12 20 43 impl_StackOk.v21 HT_.out HW_.out hHeld (h := ?_)
               refine Sk.pq 21 44 impl_StackOk.v22 HT_.out (h := ?_)
               refine Sk.pq 22 45 impl_StackOk.v23 HT_.out (h := ?_)
               refine Sk.pq 23 46 impl_StackOk.v24 HT_.out (h := ?_)
               refine Sk.pq 24 47 impl_StackOk.v25 HT_.out (h := ?_)
               refine Sk.pq 25 48 impl_StackOk.v26 HT_.out (h := ?_)
               refine done_ (done_of HT_.out (by kernel_rfl)) ?_
               obtain ⟨hcz34_0, hcz34_1, hcz34_2, hcz34_3, hcz34_4, hcz34_5⟩ := impl_StackOk.cl6 BK220.out
               obtain ⟨hfz34_0, hfz34_1, hfz34_2, hfz34_3, hfz34_4, hfz34_5⟩ := impl_StackOk.fz6 BK220.out
               try go_wp2
               go_roundg k1
               case measure => have := HK1.out; omega
               case rel => exact ⟨(wrap64 (x5_1 + ((rd_T48 l0 x18_1).f1))), (wrap64 (x18_1 + 1)), (by first | rfl | (simp; done) | (simp [*]; done)), (by first | rfl | (simp; done) | (simp [*]; done)), H', ⟨by have := HK1.out; omega⟩, ⟨by repeat (first | (with_reducible first | exact HB.out | apply below_alloc | apply pw_below_drewN | apply below_drew1 | refine below_set ?_ GE220.out) | exact HB.out)⟩⟩
             ·replace c22 := Bool.eq_false_iff.mpr c22
              subst c22
              rw [if_neg (show ¬ (false = true) by decide)] at H
              have H' := Aside0.mk H
              clear H
              have p219 : 0 ≤ (x18_1 : Int) := of_decide_eq_true (by first | (with_reducible assumption) | assumption)
              have q219 : x18_1 < (l0.length : Int) := of_decide_eq_true (by first | (with_reducible assumption) | assumption)
              obtain ⟨ad219, e219, hx219_0, hx219_1, hx219_2, hx219_3, hx219_4, hx219_5⟩ := at_T48 HR0.out x18_1 p219 q219
              (try rw [← Nbq21.out] at hx219_3)
              cases e219
              replace hx219_0 := (HB.out.cell (World.block_lt_of_cell? w _ hx219_0)).trans hx219_0
              replace hx219_1 := (HB.out.cell (World.block_lt_of_cell? w _ hx219_1)).trans hx219_1
              replace hx219_2 := (HB.out.cell (World.block_lt_of_cell? w _ hx219_2)).trans hx219_2
              replace hx219_3 := (HB.out.cell (World.block_lt_of_cell? w _ hx219_3)).trans hx219_3
              replace hx219_4 := (HB.out.cell (World.block_lt_of_cell? w _ hx219_4)).trans hx219_4
              replace hx219_5 := (HB.out.cell (World.block_lt_of_cell? w _ hx219_5)).trans hx219_5
              replace p219 := eq_true p219
              replace q219 := eq_true q219
              try go_wp2_with (first | ((with_reducible refine gate_dst (N := 7) rfl ?_); refine box_event ?hg (N := 7) ?hd (cs := #[.string (⟨#[]⟩ : ByteArray), .int .i64 0, .int .i64 0, .bool false, .int .i64 0, .int .i64 0]) (t := 48) ?hr ?_; (case hd => rfl); (case hg => rfl); (case hr => first | (go_simp; done) | (go_simp; rfl)); intro gb220 hg w35 hbox hb; have n0_ := Aside0.mk (below_step Sk.bl_ hb); have n1_ := Aside0.mk (hbox); have n2_ := Aside0.mk ((by rw [hg]; exact (below_size Sk.bl_) : w.heap.size ≤ gb220)); have n3_ := Aside0.mk ((by rw [hg]; exact (below_size Sk.bl_) : w.heap.size ≤ gb220)); clear HB; have HB := n0_; have BK220 := n1_; have GW220 := n2_; have GE220 := n3_; clear n0_ n1_ n2_ n3_; clear hb hbox hg; obtain ⟨hcz36_0, hcz36_1, hcz36_2, hcz36_3, hcz36_4, hcz36_5⟩ := impl_StackOk.cl6 BK220.out; obtain ⟨hfz36_0, hfz36_1, hfz36_2, hfz36_3, hfz36_4, hfz36_5⟩ := impl_StackOk.fz6 BK220.out))
              have n0_ : Aside0 (((((((w35.setCell ⟨gb220, 0, none⟩ (.string ((rd_T48 l0 x18_1).f0))).setCell ⟨gb220, 1, none⟩ (.int .i64 ((rd_T48 l0 x18_1).f1))).setCell ⟨gb220, 2, none⟩ (.int .i64 ((rd_T48 l0 x18_1).f2))).setCell ⟨gb220, 3, none⟩ (.bool false)).setCell ⟨gb220, 4, none⟩ (.int .i64 ((rd_T48 l0 x18_1).f4))).setCell ⟨gb220, 5, none⟩ (.int .i64 ((rd_T48 l0 x18_1).f5))).heap[gb220]? = some (.cells #[.string ((rd_T48 l0 x18_1).f0), .int .i64 ((rd_T48 l0 x18_1).f1), .int .i64 ((rd_T48 l0 x18_1).f2), .bool false, .int .i64 ((rd_T48 l0 x18_1).f4), .int .i64 ((rd_T48 l0 x18_1).f5)] 48 (0, 0))) := ⟨by (with_reducible repeat (first | refine blk_drewN ?_ _ | refine blk_drew ?_ | refine blk_alloc ?_ _)); refine blk_put (cs := #[.string ((rd_T48 l0 x18_1).f0), .int .i64 ((rd_T48 l0 x18_1).f1), .int .i64 ((rd_T48 l0 x18_1).f2), .bool false, .int .i64 ((rd_T48 l0 x18_1).f4), .int .i64 0]) ?_ 5 _ rfl; (with_reducible repeat (first | refine blk_drewN ?_ _ | refine blk_drew ?_ | refine blk_alloc ?_ _)); refine blk_put (cs := #[.string ((rd_T48 l0 x18_1).f0), .int .i64 ((rd_T48 l0 x18_1).f1), .int .i64 ((rd_T48 l0 x18_1).f2), .bool false, .int .i64 0, .int .i64 0]) ?_ 4 _ rfl; (with_reducible repeat (first | refine blk_drewN ?_ _ | refine blk_drew ?_ | refine blk_alloc ?_ _)); refine blk_put (cs := #[.string ((rd_T48 l0 x18_1).f0), .int .i64 ((rd_T48 l0 x18_1).f1), .int .i64 ((rd_T48 l0 x18_1).f2), .bool false, .int .i64 0, .int .i64 0]) ?_ 3 _ rfl; (with_reducible repeat (first | refine blk_drewN ?_ _ | refine blk_drew ?_ | refine blk_alloc ?_ _)); refine blk_put (cs := #[.string ((rd_T48 l0 x18_1).f0), .int .i64 ((rd_T48 l0 x18_1).f1), .int .i64 0, .bool false, .int .i64 0, .int .i64 0]) ?_ 2 _ rfl; (with_reducible repeat (first | refine blk_drewN ?_ _ | refine blk_drew ?_ | refine blk_alloc ?_ _)); refine blk_put (cs := #[.string ((rd_T48 l0 x18_1).f0), .int .i64 0, .int .i64 0, .bool false, .int .i64 0, .int .i64 0]) ?_ 1 _ rfl; (with_reducible repeat (first | refine blk_drewN ?_ _ | refine blk_drew ?_ | refine blk_alloc ?_ _)); refine blk_put (cs := #[.string (⟨#[]⟩ : ByteArray), .int .i64 0, .int .i64 0, .bool false, .int .i64 0, .int .i64 0]) ?_ 0 _ rfl; (with_reducible repeat (first | refine blk_drewN ?_ _ | refine blk_drew ?_ | refine blk_alloc ?_ _)); exact BK220.out⟩
              have n1_ : Aside0 (Below w.heap.size w ((((((w35.setCell ⟨gb220, 0, none⟩ (.string ((rd_T48 l0 x18_1).f0))).setCell ⟨gb220, 1, none⟩ (.int .i64 ((rd_T48 l0 x18_1).f1))).setCell ⟨gb220, 2, none⟩ (.int .i64 ((rd_T48 l0 x18_1).f2))).setCell ⟨gb220, 3, none⟩ (.bool false)).setCell ⟨gb220, 4, none⟩ (.int .i64 ((rd_T48 l0 x18_1).f4))).setCell ⟨gb220, 5, none⟩ (.int .i64 ((rd_T48 l0 x18_1).f5)))) := ⟨by repeat (first | (with_reducible first | exact HB.out | apply below_alloc | apply pw_below_drewN | apply below_drew1 | refine below_set ?_ GE220.out) | exact HB.out)⟩
              (try clear BK220)
              (try clear HB)
              generalize ((((((w35.setCell ⟨gb220, 0, none⟩ (.string ((rd_T48 l0 x18_1).f0))).setCell ⟨gb220, 1, none⟩ (.int .i64 ((rd_T48 l0 x18_1).f1))).setCell ⟨gb220, 2, none⟩ (.int .i64 ((rd_T48 l0 x18_1).f2))).setCell ⟨gb220, 3, none⟩ (.bool false)).setCell ⟨gb220, 4, none⟩ (.int .i64 ((rd_T48 l0 x18_1).f4))).setCell ⟨gb220, 5, none⟩ (.int .i64 ((rd_T48 l0 x18_1).f5))) = w37 at n0_ n1_ ⊢
              have BK220 := n0_
              have HB := n1_
              clear n0_ n1_
              have n0_ := Aside0.mk (blk_drew BK220.out)
              have n1_ := Aside0.mk (below_drew1 HB.out)
              clear BK220
              clear HB
              have BK220 := n0_
              have HB := n1_
              clear n0_ n1_
              have p222 : 0 ≤ ((ji12) : Int) := of_decide_eq_true (by first | (with_reducible assumption) | assumption)
              have q222 : (ji12) < (l0.length : Int) := of_decide_eq_true (by first | (with_reducible assumption) | assumption)
              obtain ⟨ad222, e222, hx222_0, hx222_1, hx222_2, hx222_3, hx222_4, hx222_5⟩ := at_T48 HR0.out (ji12) p222 q222
              have hw222_5 := hx222_5
              have hw222_4 := hx222_4
              have hw222_3 := hx222_3
              have hw222_2 := hx222_2
              have hw222_1 := hx222_1
              have hw222_0 := hx222_0
              (try rw [← Nbq21.out] at hx222_3)
              obtain rfl : ad219 = ad222 := (by injection e222)
              replace hx222_0 := (HB.out.cell (World.block_lt_of_cell? w _ hx222_0)).trans hx222_0
              replace hx222_1 := (HB.out.cell (World.block_lt_of_cell? w _ hx222_1)).trans hx222_1
              replace hx222_2 := (HB.out.cell (World.block_lt_of_cell? w _ hx222_2)).trans hx222_2
              replace hx222_3 := (HB.out.cell (World.block_lt_of_cell? w _ hx222_3)).trans hx222_3
              replace hx222_4 := (HB.out.cell (World.block_lt_of_cell? w _ hx222_4)).trans hx222_4
              replace hx222_5 := (HB.out.cell (World.block_lt_of_cell? w _ hx222_5)).trans hx222_5
              replace p222 := eq_true p222
              replace q222 := eq_true q222
              refine start_ (n := 26) (S := fun w' => w'.cell? ⟨gb220, 0, none⟩ = some (.string ((rd_T48 l0 x18_1).f0)) ∧ w'.cell? ⟨gb220, 1, none⟩ = some (.int .i64 ((rd_T48 l0 x18_1).f1)) ∧ w'.cell? ⟨gb220, 2, none⟩ = some (.int .i64 ((rd_T48 l0 x18_1).f2)) ∧ w'.cell? ⟨gb220, 3, none⟩ = some (.bool false) ∧ w'.cell? ⟨gb220, 4, none⟩ = some (.int .i64 ((rd_T48 l0 x18_1).f4)) ∧ w'.cell? ⟨gb220, 5, none⟩ = some (.int .i64 ((rd_T48 l0 x18_1).f5)) ∧ w'.cell? (ad219.add (((ji12)).toNat * 6)) = some (.string ((rd_T48 l0 (ji12)).f0)) ∧ w'.cell? ⟨(ad219.add (((ji12)).toNat * 6)).block, (ad219.add (((ji12)).toNat * 6)).off + 1, none⟩ = some (.int .i64 ((rd_T48 l0 (ji12)).f1)) ∧ w'.cell? ⟨(ad219.add (((ji12)).toNat * 6)).block, (ad219.add (((ji12)).toNat * 6)).off + 2, none⟩ = some (.int .i64 ((rd_T48 l0 (ji12)).f2)) ∧ w'.cell? ⟨(ad219.add (((ji12)).toNat * 6)).block, (ad219.add (((ji12)).toNat * 6)).off + 3, none⟩ = some (.bool ((rd_T48 l0 (ji12)).f3)) ∧ w'.cell? ⟨(ad219.add (((ji12)).toNat * 6)).block, (ad219.add (((ji12)).toNat * 6)).off + 4, none⟩ = some (.int .i64 ((rd_T48 l0 (ji12)).f4)) ∧ w'.cell? ⟨(ad219.add (((ji12)).toNat * 6)).block, (ad219.add (((ji12)).toNat * 6)).off + 5, none⟩ = some (.int .i64 ((rd_T48 l0 (ji12)).f5))) (ds := []) impl_StackOk.v0 (by kernel_rfl) rfl rfl ⟨(blk_cell BK220.out 0).trans rfl, (blk_cell BK220.out 1).trans rfl, (blk_cell BK220.out 2).trans rfl, (blk_cell BK220.out 3).trans rfl, (blk_cell BK220.out 4).trans rfl, (blk_cell BK220.out 5).trans rfl, ((HB.out.cell (World.block_lt_of_cell? w _ hw222_0)).trans hw222_0), ((HB.out.cell (World.block_lt_of_cell? w _ hw222_1)).trans hw222_1), ((HB.out.cell (World.block_lt_of_cell? w _ hw222_2)).trans hw222_2), ((HB.out.cell (World.block_lt_of_cell? w _ hw222_3)).trans hw222_3), ((HB.out.cell (World.block_lt_of_cell? w _ hw222_4)).trans hw222_4), ((HB.out.cell (World.block_lt_of_cell? w _ hw222_5)).trans hw222_5)⟩ (fun hHeld => ?_); refine with_tabW impl_StackOk.tab7 impl_StackOk.bits7 (fun HT_ HW_ => ?_)
              generalize w37.drew = w38 at BK220 HB hx222_0 hx222_1 hx222_2 hx222_3 hx222_4 hx222_5 hHeld ⊢
              refine Sk.tk12 0 23 impl_StackOk.v1 HT_.out HW_.out hHeld (h := ?_)
              refine one_ (i := 1) (N := some 24) impl_StackOk.v2 rfl rfl (one_of HT_.out (by kernel_rfl)) (by decide) (fun K hK => ?_)
              refine goes_ Try.func19 (by kernel_rfl) rfl #[.agg #[.string ((rd_T48 l0 x18_1).f0), .int .i64 ((rd_T48 l0 x18_1).f1), .int .i64 ((rd_T48 l0 x18_1).f2), .bool false, .int .i64 ((rd_T48 l0 x18_1).f4), .int .i64 ((rd_T48 l0 x18_1).f5)]] (by rfl) rfl rfl (by (try simp only [List.map_toArray, List.map_cons, List.map_nil]); first | done | rfl | (simp only [List.length_drop, List.length_take]; rfl)) ?_
              with_reducible refine (impl_BoxOk.calls k1 ((rd_T48 l0 x18_1).f0) ((rd_T48 l0 x18_1).f1) ((rd_T48 l0 x18_1).f2) false ((rd_T48 l0 x18_1).f4) ((rd_T48 l0 x18_1).f5) true _ (by first | exact A9.out | (have h_ := A9.out; (try rw [← Nbq21.out] at h_); (try rw [← Nbq41.out] at h_); exact h_))).mono ?_
              rintro e w39 ⟨rfl, hb⟩
              refine ⟨_, rfl, ?_⟩
              have n0_ := Aside0.mk (blk_below (g := gb220) (by (with_reducible repeat (first | refine blk_drewN ?_ _ | refine blk_drew ?_ | refine blk_alloc ?_ _)); exact BK220.out) hb)
              have n1_ := Aside0.mk (below_step (by repeat (first | (with_reducible first | exact HB.out | apply below_alloc | apply pw_below_drewN | apply below_drew1 | refine below_set ?_ GE220.out) | exact HB.out)) hb)
              clear BK220
              clear HB
              have BK220 := n0_
              have HB := n1_
              clear n0_ n1_
              (try clear hb)
              refine hK.out _ _ ⟨(blk_cell BK220.out 0).trans rfl, (blk_cell BK220.out 1).trans rfl, (blk_cell BK220.out 2).trans rfl, (blk_cell BK220.out 3).trans rfl, (blk_cell BK220.out 4).trans rfl, (blk_cell BK220.out 5).trans rfl, ((HB.out.cell (World.block_lt_of_cell? w _ hw222_0)).trans hw222_0), ((HB.out.cell (World.block_lt_of_cell? w _ hw222_1)).trans hw222_1), ((HB.out.cell (World.block_lt_of_cell? w _ hw222_2)).trans hw222_2), ((HB.out.cell (World.block_lt_of_cell? w _ hw222_3)).trans hw222_3), ((HB.out.cell (World.block_lt_of_cell? w _ hw222_4)).trans hw222_4), ((HB.out.cell (World.block_lt_of_cell? w _ hw222_5)).trans hw222_5)⟩ (fun hHeld => ?_)
              clear hK K
              refine Sk.nm 24 (h := ?_)
              refine Sk.pq 2 25 impl_StackOk.v3 HT_.out (h := ?_)
              refine Sk.pq 3 26 impl_StackOk.v4 HT_.out (h := ?_)
              refine Sk.pq 4 27 impl_StackOk.v5 HT_.out (h := ?_)
              refine Sk.pq 5 28 impl_StackOk.v6 HT_.out (h := ?_)
              refine Sk.pq 6 29 impl_StackOk.v7 HT_.out (h := ?_)
              refine Sk.pq 7 30 impl_StackOk.v8 HT_.out (h := ?_)
              refine Sk.pq 9 32 impl_StackOk.v9 HT_.out (h := ?_)
              refine Sk.pq 10 33 impl_StackOk.v10 HT_.out (h := ?_)
              refine Sk.pq 11 34 impl_StackOk.v11 HT_.out (h := ?_)
              refine Sk.pq 12 35 impl_StackOk.v12 HT_.out (h := ?_)
              refine Sk.pq 13 36 impl_StackOk.v13 HT_.out (h := ?_)
              refine Sk.tk12 8 31 impl_StackOk.v14 HT_.out HW_.out hHeld (h := ?_)
              refine Sk.tk12 14 37 impl_StackOk.v15 HT_.out HW_.out hHeld (h := ?_)
              refine Sk.pq 15 38 impl_StackOk.v16 HT_.out (h := ?_)
              refine Sk.pq 16 39 impl_StackOk.v17 HT_.out (h := ?_)
              refine Sk.pq 17 40 impl_StackOk.v18 HT_.out (h := ?_)
              refine Sk.pq 18 41 impl_StackOk.v19 HT_.out (h := ?_)
              refine Sk.pq 19 42 impl_StackOk.v20 HT_.out (h := ?_)
              refine Sk.tk12 20 43 impl_StackOk.v21 HT_.out HW_.out hHeld (h := ?_)
              refine Sk.pq 21 44 impl_StackOk.v22 HT_.out (h := ?_)
              refine Sk.pu 22 45 impl_StackOk.v23 HT_.out (h := ?_)
              refine Sk.pu 23 46 impl_StackOk.v24 HT_.out (h := ?_)
              refine Sk.pq 24 47 impl_StackOk.v25 HT_.out (h := ?_)
              refine Sk.pq 25 48 impl_StackOk.v26 HT_.out (h := ?_)
              refine done_ (done_of HT_.out (by kernel_rfl)) ?_
              obtain ⟨hcz40_0, hcz40_1, hcz40_2, hcz40_3, hcz40_4, hcz40_5⟩ := impl_StackOk.cl6 BK220.out
              obtain ⟨hfz40_0, hfz40_1, hfz40_2, hfz40_3, hfz40_4, hfz40_5⟩ := impl_StackOk.fz6 BK220.out
              try go_wp2
              go_roundg k1
              case measure => have := HK1.out; omega
              case rel => exact ⟨(wrap64 (x5_1 + ((rd_T48 l0 x18_1).f1))), (wrap64 (x18_1 + 1)), (by first | rfl | (simp; done) | (simp [*]; done)), (by first | rfl | (simp; done) | (simp [*]; done)), H', ⟨by have := HK1.out; omega⟩, ⟨by repeat (first | (with_reducible first | exact HB.out | apply below_alloc | apply pw_below_drewN | apply below_drew1 | refine below_set ?_ GE220.out) | exact HB.out)⟩⟩
           ·rw [if_neg c14] at H
            exact absurd H (by simp)
          ·rw [if_neg c13] at H
           exact absurd H (by simp)
         ·rw [if_neg c11] at H
          have c11b0 : decide (0 < x18_1) = false := decide_eq_false c11
          clear c11
          obtain ⟨bq41, hbq41⟩ : ∃ b_ : Bool, b_ = ((rd_T48 l0 x18_1).f3) := ⟨_, rfl⟩
          replace H : (if bq41 = true then (if x18_1 > 1 then (some false) else (impl_StackOk.l0 k1 l0 a1 (wrap64 (x5_1 + ((rd_T48 l0 x18_1).f1))) l0 (l0.length : Int) (wrap64 (x18_1 + 1)))) else (impl_StackOk.l0 k1 l0 a1 (wrap64 (x5_1 + ((rd_T48 l0 x18_1).f1))) l0 (l0.length : Int) (wrap64 (x18_1 + 1)))) = some r := by rw [← hbq41] at H; exact H
          have Nbq41 := Aside0.mk hbq41
          clear hbq41
          by_cases c42 : bq41 = true
          ·subst c42
           rw [if_pos rfl] at H
           by_cases c43 : x18_1 > 1
           ·rw [if_pos c43] at H
            have c43b0 : decide (1 < x18_1) = true := decide_eq_true c43
            clear c43
            obtain rfl := Option.some.inj H
            have p219 : 0 ≤ (x18_1 : Int) := of_decide_eq_true (by first | (with_reducible assumption) | assumption)
            have q219 : x18_1 < (l0.length : Int) := of_decide_eq_true (by first | (with_reducible assumption) | assumption)
            obtain ⟨ad219, e219, hx219_0, hx219_1, hx219_2, hx219_3, hx219_4, hx219_5⟩ := at_T48 HR0.out x18_1 p219 q219
            (try rw [← Nbq41.out] at hx219_3)
            cases e219
            replace hx219_0 := (HB.out.cell (World.block_lt_of_cell? w _ hx219_0)).trans hx219_0
            replace hx219_1 := (HB.out.cell (World.block_lt_of_cell? w _ hx219_1)).trans hx219_1
            replace hx219_2 := (HB.out.cell (World.block_lt_of_cell? w _ hx219_2)).trans hx219_2
            replace hx219_3 := (HB.out.cell (World.block_lt_of_cell? w _ hx219_3)).trans hx219_3
            replace hx219_4 := (HB.out.cell (World.block_lt_of_cell? w _ hx219_4)).trans hx219_4
            replace hx219_5 := (HB.out.cell (World.block_lt_of_cell? w _ hx219_5)).trans hx219_5
            replace p219 := eq_true p219
            replace q219 := eq_true q219
            try go_wp2_with (first | ((with_reducible refine gate_dst (N := 7) rfl ?_); refine box_event ?hg (N := 7) ?hd (cs := #[.string (⟨#[]⟩ : ByteArray), .int .i64 0, .int .i64 0, .bool false, .int .i64 0, .int .i64 0]) (t := 48) ?hr ?_; (case hd => rfl); (case hg => rfl); (case hr => first | (go_simp; done) | (go_simp; rfl)); intro gb220 hg w44 hbox hb; have n0_ := Aside0.mk (below_step Sk.bl_ hb); have n1_ := Aside0.mk (hbox); have n2_ := Aside0.mk ((by rw [hg]; exact (below_size Sk.bl_) : w.heap.size ≤ gb220)); have n3_ := Aside0.mk ((by rw [hg]; exact (below_size Sk.bl_) : w.heap.size ≤ gb220)); clear HB; have HB := n0_; have BK220 := n1_; have GW220 := n2_; have GE220 := n3_; clear n0_ n1_ n2_ n3_; clear hb hbox hg; obtain ⟨hcz45_0, hcz45_1, hcz45_2, hcz45_3, hcz45_4, hcz45_5⟩ := impl_StackOk.cl6 BK220.out; obtain ⟨hfz45_0, hfz45_1, hfz45_2, hfz45_3, hfz45_4, hfz45_5⟩ := impl_StackOk.fz6 BK220.out))
            have n0_ : Aside0 (((((((w44.setCell ⟨gb220, 0, none⟩ (.string ((rd_T48 l0 x18_1).f0))).setCell ⟨gb220, 1, none⟩ (.int .i64 ((rd_T48 l0 x18_1).f1))).setCell ⟨gb220, 2, none⟩ (.int .i64 ((rd_T48 l0 x18_1).f2))).setCell ⟨gb220, 3, none⟩ (.bool true)).setCell ⟨gb220, 4, none⟩ (.int .i64 ((rd_T48 l0 x18_1).f4))).setCell ⟨gb220, 5, none⟩ (.int .i64 ((rd_T48 l0 x18_1).f5))).heap[gb220]? = some (.cells #[.string ((rd_T48 l0 x18_1).f0), .int .i64 ((rd_T48 l0 x18_1).f1), .int .i64 ((rd_T48 l0 x18_1).f2), .bool true, .int .i64 ((rd_T48 l0 x18_1).f4), .int .i64 ((rd_T48 l0 x18_1).f5)] 48 (0, 0))) := ⟨by (with_reducible repeat (first | refine blk_drewN ?_ _ | refine blk_drew ?_ | refine blk_alloc ?_ _)); refine blk_put (cs := #[.string ((rd_T48 l0 x18_1).f0), .int .i64 ((rd_T48 l0 x18_1).f1), .int .i64 ((rd_T48 l0 x18_1).f2), .bool true, .int .i64 ((rd_T48 l0 x18_1).f4), .int .i64 0]) ?_ 5 _ rfl; (with_reducible repeat (first | refine blk_drewN ?_ _ | refine blk_drew ?_ | refine blk_alloc ?_ _)); refine blk_put (cs := #[.string ((rd_T48 l0 x18_1).f0), .int .i64 ((rd_T48 l0 x18_1).f1), .int .i64 ((rd_T48 l0 x18_1).f2), .bool true, .int .i64 0, .int .i64 0]) ?_ 4 _ rfl; (with_reducible repeat (first | refine blk_drewN ?_ _ | refine blk_drew ?_ | refine blk_alloc ?_ _)); refine blk_put (cs := #[.string ((rd_T48 l0 x18_1).f0), .int .i64 ((rd_T48 l0 x18_1).f1), .int .i64 ((rd_T48 l0 x18_1).f2), .bool false, .int .i64 0, .int .i64 0]) ?_ 3 _ rfl; (with_reducible repeat (first | refine blk_drewN ?_ _ | refine blk_drew ?_ | refine blk_alloc ?_ _)); refine blk_put (cs := #[.string ((rd_T48 l0 x18_1).f0), .int .i64 ((rd_T48 l0 x18_1).f1), .int .i64 0, .bool false, .int .i64 0, .int .i64 0]) ?_ 2 _ rfl; (with_reducible repeat (first | refine blk_drewN ?_ _ | refine blk_drew ?_ | refine blk_alloc ?_ _)); refine blk_put (cs := #[.string ((rd_T48 l0 x18_1).f0), .int .i64 0, .int .i64 0, .bool false, .int .i64 0, .int .i64 0]) ?_ 1 _ rfl; (with_reducible repeat (first | refine blk_drewN ?_ _ | refine blk_drew ?_ | refine blk_alloc ?_ _)); refine blk_put (cs := #[.string (⟨#[]⟩ : ByteArray), .int .i64 0, .int .i64 0, .bool false, .int .i64 0, .int .i64 0]) ?_ 0 _ rfl; (with_reducible repeat (first | refine blk_drewN ?_ _ | refine blk_drew ?_ | refine blk_alloc ?_ _)); exact BK220.out⟩
            have n1_ : Aside0 (Below w.heap.size w ((((((w44.setCell ⟨gb220, 0, none⟩ (.string ((rd_T48 l0 x18_1).f0))).setCell ⟨gb220, 1, none⟩ (.int .i64 ((rd_T48 l0 x18_1).f1))).setCell ⟨gb220, 2, none⟩ (.int .i64 ((rd_T48 l0 x18_1).f2))).setCell ⟨gb220, 3, none⟩ (.bool true)).setCell ⟨gb220, 4, none⟩ (.int .i64 ((rd_T48 l0 x18_1).f4))).setCell ⟨gb220, 5, none⟩ (.int .i64 ((rd_T48 l0 x18_1).f5)))) := ⟨by repeat (first | (with_reducible first | exact HB.out | apply below_alloc | apply pw_below_drewN | apply below_drew1 | refine below_set ?_ GE220.out) | exact HB.out)⟩
            (try clear BK220)
            (try clear HB)
            generalize ((((((w44.setCell ⟨gb220, 0, none⟩ (.string ((rd_T48 l0 x18_1).f0))).setCell ⟨gb220, 1, none⟩ (.int .i64 ((rd_T48 l0 x18_1).f1))).setCell ⟨gb220, 2, none⟩ (.int .i64 ((rd_T48 l0 x18_1).f2))).setCell ⟨gb220, 3, none⟩ (.bool true)).setCell ⟨gb220, 4, none⟩ (.int .i64 ((rd_T48 l0 x18_1).f4))).setCell ⟨gb220, 5, none⟩ (.int .i64 ((rd_T48 l0 x18_1).f5))) = w46 at n0_ n1_ ⊢
            have BK220 := n0_
            have HB := n1_
            clear n0_ n1_
            have n0_ := Aside0.mk (blk_drew BK220.out)
            have n1_ := Aside0.mk (below_drew1 HB.out)
            clear BK220
            clear HB
            have BK220 := n0_
            have HB := n1_
            clear n0_ n1_
            refine start_ (n := 26) (S := fun w' => w'.cell? ⟨gb220, 0, none⟩ = some (.string ((rd_T48 l0 x18_1).f0)) ∧ w'.cell? ⟨gb220, 1, none⟩ = some (.int .i64 ((rd_T48 l0 x18_1).f1)) ∧ w'.cell? ⟨gb220, 2, none⟩ = some (.int .i64 ((rd_T48 l0 x18_1).f2)) ∧ w'.cell? ⟨gb220, 3, none⟩ = some (.bool true) ∧ w'.cell? ⟨gb220, 4, none⟩ = some (.int .i64 ((rd_T48 l0 x18_1).f4)) ∧ w'.cell? ⟨gb220, 5, none⟩ = some (.int .i64 ((rd_T48 l0 x18_1).f5))) (ds := []) impl_StackOk.v0 (by kernel_rfl) rfl rfl ⟨(blk_cell BK220.out 0).trans rfl, (blk_cell BK220.out 1).trans rfl, (blk_cell BK220.out 2).trans rfl, (blk_cell BK220.out 3).trans rfl, (blk_cell BK220.out 4).trans rfl, (blk_cell BK220.out 5).trans rfl⟩ (fun hHeld => ?_); refine with_tabW impl_StackOk.tab7 impl_StackOk.bits7 (fun HT_ HW_ => ?_)
            generalize w46.drew = w47 at BK220 HB hHeld ⊢
            refine Sk.tk6 0 23 impl_StackOk.v1 HT_.out HW_.out hHeld (h := ?_)
            refine one_ (i := 1) (N := some 24) impl_StackOk.v2 rfl rfl (one_of HT_.out (by kernel_rfl)) (by decide) (fun K hK => ?_)
            refine goes_ Try.func19 (by kernel_rfl) rfl #[.agg #[.string ((rd_T48 l0 x18_1).f0), .int .i64 ((rd_T48 l0 x18_1).f1), .int .i64 ((rd_T48 l0 x18_1).f2), .bool true, .int .i64 ((rd_T48 l0 x18_1).f4), .int .i64 ((rd_T48 l0 x18_1).f5)]] (by rfl) rfl rfl (by (try simp only [List.map_toArray, List.map_cons, List.map_nil]); first | done | rfl | (simp only [List.length_drop, List.length_take]; rfl)) ?_
            with_reducible refine (impl_BoxOk.calls k1 ((rd_T48 l0 x18_1).f0) ((rd_T48 l0 x18_1).f1) ((rd_T48 l0 x18_1).f2) true ((rd_T48 l0 x18_1).f4) ((rd_T48 l0 x18_1).f5) true _ (by first | exact A9.out | (have h_ := A9.out; (try rw [← Nbq21.out] at h_); (try rw [← Nbq41.out] at h_); exact h_))).mono ?_
            rintro e w48 ⟨rfl, hb⟩
            refine ⟨_, rfl, ?_⟩
            have n0_ := Aside0.mk (blk_below (g := gb220) (by (with_reducible repeat (first | refine blk_drewN ?_ _ | refine blk_drew ?_ | refine blk_alloc ?_ _)); exact BK220.out) hb)
            have n1_ := Aside0.mk (below_step (by repeat (first | (with_reducible first | exact HB.out | apply below_alloc | apply pw_below_drewN | apply below_drew1 | refine below_set ?_ GE220.out) | exact HB.out)) hb)
            clear BK220
            clear HB
            have BK220 := n0_
            have HB := n1_
            clear n0_ n1_
            (try clear hb)
            refine hK.out _ _ ⟨(blk_cell BK220.out 0).trans rfl, (blk_cell BK220.out 1).trans rfl, (blk_cell BK220.out 2).trans rfl, (blk_cell BK220.out 3).trans rfl, (blk_cell BK220.out 4).trans rfl, (blk_cell BK220.out 5).trans rfl⟩ (fun hHeld => ?_)
            clear hK K
            refine Sk.nm 24 (h := ?_)
            refine Sk.pq 2 25 impl_StackOk.v3 HT_.out (h := ?_)
            refine Sk.pq 3 26 impl_StackOk.v4 HT_.out (h := ?_)
            refine Sk.pq 4 27 impl_StackOk.v5 HT_.out (h := ?_)
            refine Sk.pq 5 28 impl_StackOk.v6 HT_.out (h := ?_)
            refine Sk.pq 6 29 impl_StackOk.v7 HT_.out (h := ?_)
            refine Sk.pu 7 30 impl_StackOk.v8 HT_.out (h := ?_)
            refine Sk.pu 8 31 impl_StackOk.v27 HT_.out (h := ?_)
            refine Sk.pu 9 32 impl_StackOk.v28 HT_.out (h := ?_)
            refine Sk.pu 10 33 impl_StackOk.v29 HT_.out (h := ?_)
            refine Sk.pu 11 34 impl_StackOk.v30 HT_.out (h := ?_)
            refine Sk.pu 12 35 impl_StackOk.v31 HT_.out (h := ?_)
            refine Sk.pu 13 36 impl_StackOk.v14 HT_.out (h := ?_)
            refine Sk.pu 14 37 impl_StackOk.v15 HT_.out (h := ?_)
            refine Sk.pu 15 38 impl_StackOk.v16 HT_.out (h := ?_)
            refine Sk.pq 16 39 impl_StackOk.v17 HT_.out (h := ?_)
            refine Sk.pq 17 40 impl_StackOk.v18 HT_.out (h := ?_)
            refine Sk.pq 18 41 impl_StackOk.v19 HT_.out (h := ?_)
            refine Sk.pq 19 42 impl_StackOk.v20 HT_.out (h := ?_)
            refine Sk.tk6 20 43 impl_StackOk.v21 HT_.out HW_.out hHeld (h := ?_)
            refine Sk.pq 21 44 impl_StackOk.v22 HT_.out (h := ?_)
            refine Sk.pq 22 45 impl_StackOk.v23 HT_.out (h := ?_)
            refine Sk.pq 23 46 impl_StackOk.v24 HT_.out (h := ?_)
            refine Sk.pq 24 47 impl_StackOk.v25 HT_.out (h := ?_)
            refine Sk.pq 25 48 impl_StackOk.v26 HT_.out (h := ?_)
            refine done_ (done_of HT_.out (by kernel_rfl)) ?_
            try go_wp2
            go_ret
            exact ⟨by first | rfl | (simp [errW_none, errW_some] <;> rfl) | (simp [*, errW_none, errW_some] <;> rfl), by repeat (first | (with_reducible first | exact HB.out | apply below_alloc | apply pw_below_drewN | apply below_drew1 | refine below_set ?_ GE220.out) | exact HB.out)⟩
           ·rw [if_neg c43] at H
            have c43b0 : decide (1 < x18_1) = false := decide_eq_false c43
            clear c43
            have H' := Aside0.mk H
            clear H
            have p219 : 0 ≤ (x18_1 : Int) := of_decide_eq_true (by first | (with_reducible assumption) | assumption)
            have q219 : x18_1 < (l0.length : Int) := of_decide_eq_true (by first | (with_reducible assumption) | assumption)
            obtain ⟨ad219, e219, hx219_0, hx219_1, hx219_2, hx219_3, hx219_4, hx219_5⟩ := at_T48 HR0.out x18_1 p219 q219
            (try rw [← Nbq41.out] at hx219_3)
            cases e219
            replace hx219_0 := (HB.out.cell (World.block_lt_of_cell? w _ hx219_0)).trans hx219_0
            replace hx219_1 := (HB.out.cell (World.block_lt_of_cell? w _ hx219_1)).trans hx219_1
            replace hx219_2 := (HB.out.cell (World.block_lt_of_cell? w _ hx219_2)).trans hx219_2
            replace hx219_3 := (HB.out.cell (World.block_lt_of_cell? w _ hx219_3)).trans hx219_3
            replace hx219_4 := (HB.out.cell (World.block_lt_of_cell? w _ hx219_4)).trans hx219_4
            replace hx219_5 := (HB.out.cell (World.block_lt_of_cell? w _ hx219_5)).trans hx219_5
            replace p219 := eq_true p219
            replace q219 := eq_true q219
            try go_wp2_with (first | ((with_reducible refine gate_dst (N := 7) rfl ?_); refine box_event ?hg (N := 7) ?hd (cs := #[.string (⟨#[]⟩ : ByteArray), .int .i64 0, .int .i64 0, .bool false, .int .i64 0, .int .i64 0]) (t := 48) ?hr ?_; (case hd => rfl); (case hg => rfl); (case hr => first | (go_simp; done) | (go_simp; rfl)); intro gb220 hg w49 hbox hb; have n0_ := Aside0.mk (below_step Sk.bl_ hb); have n1_ := Aside0.mk (hbox); have n2_ := Aside0.mk ((by rw [hg]; exact (below_size Sk.bl_) : w.heap.size ≤ gb220)); have n3_ := Aside0.mk ((by rw [hg]; exact (below_size Sk.bl_) : w.heap.size ≤ gb220)); clear HB; have HB := n0_; have BK220 := n1_; have GW220 := n2_; have GE220 := n3_; clear n0_ n1_ n2_ n3_; clear hb hbox hg; obtain ⟨hcz50_0, hcz50_1, hcz50_2, hcz50_3, hcz50_4, hcz50_5⟩ := impl_StackOk.cl6 BK220.out; obtain ⟨hfz50_0, hfz50_1, hfz50_2, hfz50_3, hfz50_4, hfz50_5⟩ := impl_StackOk.fz6 BK220.out))
            have n0_ : Aside0 (((((((w49.setCell ⟨gb220, 0, none⟩ (.string ((rd_T48 l0 x18_1).f0))).setCell ⟨gb220, 1, none⟩ (.int .i64 ((rd_T48 l0 x18_1).f1))).setCell ⟨gb220, 2, none⟩ (.int .i64 ((rd_T48 l0 x18_1).f2))).setCell ⟨gb220, 3, none⟩ (.bool true)).setCell ⟨gb220, 4, none⟩ (.int .i64 ((rd_T48 l0 x18_1).f4))).setCell ⟨gb220, 5, none⟩ (.int .i64 ((rd_T48 l0 x18_1).f5))).heap[gb220]? = some (.cells #[.string ((rd_T48 l0 x18_1).f0), .int .i64 ((rd_T48 l0 x18_1).f1), .int .i64 ((rd_T48 l0 x18_1).f2), .bool true, .int .i64 ((rd_T48 l0 x18_1).f4), .int .i64 ((rd_T48 l0 x18_1).f5)] 48 (0, 0))) := ⟨by (with_reducible repeat (first | refine blk_drewN ?_ _ | refine blk_drew ?_ | refine blk_alloc ?_ _)); refine blk_put (cs := #[.string ((rd_T48 l0 x18_1).f0), .int .i64 ((rd_T48 l0 x18_1).f1), .int .i64 ((rd_T48 l0 x18_1).f2), .bool true, .int .i64 ((rd_T48 l0 x18_1).f4), .int .i64 0]) ?_ 5 _ rfl; (with_reducible repeat (first | refine blk_drewN ?_ _ | refine blk_drew ?_ | refine blk_alloc ?_ _)); refine blk_put (cs := #[.string ((rd_T48 l0 x18_1).f0), .int .i64 ((rd_T48 l0 x18_1).f1), .int .i64 ((rd_T48 l0 x18_1).f2), .bool true, .int .i64 0, .int .i64 0]) ?_ 4 _ rfl; (with_reducible repeat (first | refine blk_drewN ?_ _ | refine blk_drew ?_ | refine blk_alloc ?_ _)); refine blk_put (cs := #[.string ((rd_T48 l0 x18_1).f0), .int .i64 ((rd_T48 l0 x18_1).f1), .int .i64 ((rd_T48 l0 x18_1).f2), .bool false, .int .i64 0, .int .i64 0]) ?_ 3 _ rfl; (with_reducible repeat (first | refine blk_drewN ?_ _ | refine blk_drew ?_ | refine blk_alloc ?_ _)); refine blk_put (cs := #[.string ((rd_T48 l0 x18_1).f0), .int .i64 ((rd_T48 l0 x18_1).f1), .int .i64 0, .bool false, .int .i64 0, .int .i64 0]) ?_ 2 _ rfl; (with_reducible repeat (first | refine blk_drewN ?_ _ | refine blk_drew ?_ | refine blk_alloc ?_ _)); refine blk_put (cs := #[.string ((rd_T48 l0 x18_1).f0), .int .i64 0, .int .i64 0, .bool false, .int .i64 0, .int .i64 0]) ?_ 1 _ rfl; (with_reducible repeat (first | refine blk_drewN ?_ _ | refine blk_drew ?_ | refine blk_alloc ?_ _)); refine blk_put (cs := #[.string (⟨#[]⟩ : ByteArray), .int .i64 0, .int .i64 0, .bool false, .int .i64 0, .int .i64 0]) ?_ 0 _ rfl; (with_reducible repeat (first | refine blk_drewN ?_ _ | refine blk_drew ?_ | refine blk_alloc ?_ _)); exact BK220.out⟩
            have n1_ : Aside0 (Below w.heap.size w ((((((w49.setCell ⟨gb220, 0, none⟩ (.string ((rd_T48 l0 x18_1).f0))).setCell ⟨gb220, 1, none⟩ (.int .i64 ((rd_T48 l0 x18_1).f1))).setCell ⟨gb220, 2, none⟩ (.int .i64 ((rd_T48 l0 x18_1).f2))).setCell ⟨gb220, 3, none⟩ (.bool true)).setCell ⟨gb220, 4, none⟩ (.int .i64 ((rd_T48 l0 x18_1).f4))).setCell ⟨gb220, 5, none⟩ (.int .i64 ((rd_T48 l0 x18_1).f5)))) := ⟨by repeat (first | (with_reducible first | exact HB.out | apply below_alloc | apply pw_below_drewN | apply below_drew1 | refine below_set ?_ GE220.out) | exact HB.out)⟩
            (try clear BK220)
            (try clear HB)
            generalize ((((((w49.setCell ⟨gb220, 0, none⟩ (.string ((rd_T48 l0 x18_1).f0))).setCell ⟨gb220, 1, none⟩ (.int .i64 ((rd_T48 l0 x18_1).f1))).setCell ⟨gb220, 2, none⟩ (.int .i64 ((rd_T48 l0 x18_1).f2))).setCell ⟨gb220, 3, none⟩ (.bool true)).setCell ⟨gb220, 4, none⟩ (.int .i64 ((rd_T48 l0 x18_1).f4))).setCell ⟨gb220, 5, none⟩ (.int .i64 ((rd_T48 l0 x18_1).f5))) = w51 at n0_ n1_ ⊢
            have BK220 := n0_
            have HB := n1_
            clear n0_ n1_
            have n0_ := Aside0.mk (blk_drew BK220.out)
            have n1_ := Aside0.mk (below_drew1 HB.out)
            clear BK220
            clear HB
            have BK220 := n0_
            have HB := n1_
            clear n0_ n1_
            refine start_ (n := 26) (S := fun w' => w'.cell? ⟨gb220, 0, none⟩ = some (.string ((rd_T48 l0 x18_1).f0)) ∧ w'.cell? ⟨gb220, 1, none⟩ = some (.int .i64 ((rd_T48 l0 x18_1).f1)) ∧ w'.cell? ⟨gb220, 2, none⟩ = some (.int .i64 ((rd_T48 l0 x18_1).f2)) ∧ w'.cell? ⟨gb220, 3, none⟩ = some (.bool true) ∧ w'.cell? ⟨gb220, 4, none⟩ = some (.int .i64 ((rd_T48 l0 x18_1).f4)) ∧ w'.cell? ⟨gb220, 5, none⟩ = some (.int .i64 ((rd_T48 l0 x18_1).f5))) (ds := []) impl_StackOk.v0 (by kernel_rfl) rfl rfl ⟨(blk_cell BK220.out 0).trans rfl, (blk_cell BK220.out 1).trans rfl, (blk_cell BK220.out 2).trans rfl, (blk_cell BK220.out 3).trans rfl, (blk_cell BK220.out 4).trans rfl, (blk_cell BK220.out 5).trans rfl⟩ (fun hHeld => ?_); refine with_tabW impl_StackOk.tab7 impl_StackOk.bits7 (fun HT_ HW_ => ?_)
            generalize w51.drew = w52 at BK220 HB hHeld ⊢
            refine Sk.tk6 0 23 impl_StackOk.v1 HT_.out HW_.out hHeld (h := ?_)
            refine one_ (i := 1) (N := some 24) impl_StackOk.v2 rfl rfl (one_of HT_.out (by kernel_rfl)) (by decide) (fun K hK => ?_)
            refine goes_ Try.func19 (by kernel_rfl) rfl #[.agg #[.string ((rd_T48 l0 x18_1).f0), .int .i64 ((rd_T48 l0 x18_1).f1), .int .i64 ((rd_T48 l0 x18_1).f2), .bool true, .int .i64 ((rd_T48 l0 x18_1).f4), .int .i64 ((rd_T48 l0 x18_1).f5)]] (by rfl) rfl rfl (by (try simp only [List.map_toArray, List.map_cons, List.map_nil]); first | done | rfl | (simp only [List.length_drop, List.length_take]; rfl)) ?_
            with_reducible refine (impl_BoxOk.calls k1 ((rd_T48 l0 x18_1).f0) ((rd_T48 l0 x18_1).f1) ((rd_T48 l0 x18_1).f2) true ((rd_T48 l0 x18_1).f4) ((rd_T48 l0 x18_1).f5) true _ (by first | exact A9.out | (have h_ := A9.out; (try rw [← Nbq21.out] at h_); (try rw [← Nbq41.out] at h_); exact h_))).mono ?_
            rintro e w53 ⟨rfl, hb⟩
            refine ⟨_, rfl, ?_⟩
            have n0_ := Aside0.mk (blk_below (g := gb220) (by (with_reducible repeat (first | refine blk_drewN ?_ _ | refine blk_drew ?_ | refine blk_alloc ?_ _)); exact BK220.out) hb)
            have n1_ := Aside0.mk (below_step (by repeat (first | (with_reducible first | exact HB.out | apply below_alloc | apply pw_below_drewN | apply below_drew1 | refine below_set ?_ GE220.out) | exact HB.out)) hb)
            clear BK220
            clear HB
            have BK220 := n0_
            have HB := n1_
            clear n0_ n1_
            (try clear hb)
            refine hK.out _ _ ⟨(blk_cell BK220.out 0).trans rfl, (blk_cell BK220.out 1).trans rfl, (blk_cell BK220.out 2).trans rfl, (blk_cell BK220.out 3).trans rfl, (blk_cell BK220.out 4).trans rfl, (blk_cell BK220.out 5).trans rfl⟩ (fun hHeld => ?_)
            clear hK K
            refine Sk.nm 24 (h := ?_)
            refine Sk.pq 2 25 impl_StackOk.v3 HT_.out (h := ?_)
            refine Sk.pq 3 26 impl_StackOk.v4 HT_.out (h := ?_)
            refine Sk.pq 4 27 impl_StackOk.v5 HT_.out (h := ?_)
            refine Sk.pq 5 28 impl_StackOk.v6 HT_.out (h := ?_)
            refine Sk.pq 6 29 impl_StackOk.v7 HT_.out (h := ?_)
            refine Sk.pu 7 30 impl_StackOk.v8 HT_.out (h := ?_)
            refine Sk.pu 8 31 impl_StackOk.v27 HT_.out (h := ?_)
            refine Sk.pu 9 32 impl_StackOk.v28 HT_.out (h := ?_)
            refine Sk.pu 10 33 impl_StackOk.v29 HT_.out (h := ?_)
            refine Sk.pu 11 34 impl_StackOk.v30 HT_.out (h := ?_)
            refine Sk.pu 12 35 impl_StackOk.v31 HT_.out (h := ?_)
            refine Sk.pu 13 36 impl_StackOk.v14 HT_.out (h := ?_)
            refine Sk.pu 14 37 impl_StackOk.v15 HT_.out (h := ?_)
            refine Sk.pu 15 38 impl_StackOk.v16 HT_.out (h := ?_)
            refine Sk.pq 16 39 impl_StackOk.v17 HT_.out (h := ?_)
            refine Sk.pq 17 40 impl_StackOk.v18 HT_.out (h := ?_)
            refine Sk.pq 18 41 impl_StackOk.v19 HT_.out (h := ?_)
            refine Sk.pq 19 42 impl_StackOk.v20 HT_.out (h := ?_)
            refine Sk.tk6 20 43 impl_StackOk.v21 HT_.out HW_.out hHeld (h := ?_)
            refine Sk.pq 21 44 impl_StackOk.v22 HT_.out (h := ?_)
            refine Sk.pq 22 45 impl_StackOk.v23 HT_.out (h := ?_)
            refine Sk.pq 23 46 impl_StackOk.v24 HT_.out (h := ?_)
            refine Sk.pq 24 47 impl_StackOk.v25 HT_.out (h := ?_)
            refine Sk.pq 25 48 impl_StackOk.v26 HT_.out (h := ?_)
            refine done_ (done_of HT_.out (by kernel_rfl)) ?_
            obtain ⟨hcz54_0, hcz54_1, hcz54_2, hcz54_3, hcz54_4, hcz54_5⟩ := impl_StackOk.cl6 BK220.out
            obtain ⟨hfz54_0, hfz54_1, hfz54_2, hfz54_3, hfz54_4, hfz54_5⟩ := impl_StackOk.fz6 BK220.out
            try go_wp2
            go_roundg k1
            case measure => have := HK1.out; omega
            case rel => exact ⟨(wrap64 (x5_1 + ((rd_T48 l0 x18_1).f1))), (wrap64 (x18_1 + 1)), (by first | rfl | (simp; done) | (simp [*]; done)), (by first | rfl | (simp; done) | (simp [*]; done)), H', ⟨by have := HK1.out; omega⟩, ⟨by repeat (first | (with_reducible first | exact HB.out | apply below_alloc | apply pw_below_drewN | apply below_drew1 | refine below_set ?_ GE220.out) | exact HB.out)⟩⟩
          ·replace c42 := Bool.eq_false_iff.mpr c42
           subst c42
           rw [if_neg (show ¬ (false = true) by decide)] at H
           have H' := Aside0.mk H
           clear H
           have p219 : 0 ≤ (x18_1 : Int) := of_decide_eq_true (by first | (with_reducible assumption) | assumption)
           have q219 : x18_1 < (l0.length : Int) := of_decide_eq_true (by first | (with_reducible assumption) | assumption)
           obtain ⟨ad219, e219, hx219_0, hx219_1, hx219_2, hx219_3, hx219_4, hx219_5⟩ := at_T48 HR0.out x18_1 p219 q219
           (try rw [← Nbq41.out] at hx219_3)
           cases e219
           replace hx219_0 := (HB.out.cell (World.block_lt_of_cell? w _ hx219_0)).trans hx219_0
           replace hx219_1 := (HB.out.cell (World.block_lt_of_cell? w _ hx219_1)).trans hx219_1
           replace hx219_2 := (HB.out.cell (World.block_lt_of_cell? w _ hx219_2)).trans hx219_2
           replace hx219_3 := (HB.out.cell (World.block_lt_of_cell? w _ hx219_3)).trans hx219_3
           replace hx219_4 := (HB.out.cell (World.block_lt_of_cell? w _ hx219_4)).trans hx219_4
           replace hx219_5 := (HB.out.cell (World.block_lt_of_cell? w _ hx219_5)).trans hx219_5
           replace p219 := eq_true p219
           replace q219 := eq_true q219
           try go_wp2_with (first | ((with_reducible refine gate_dst (N := 7) rfl ?_); refine box_event ?hg (N := 7) ?hd (cs := #[.string (⟨#[]⟩ : ByteArray), .int .i64 0, .int .i64 0, .bool false, .int .i64 0, .int .i64 0]) (t := 48) ?hr ?_; (case hd => rfl); (case hg => rfl); (case hr => first | (go_simp; done) | (go_simp; rfl)); intro gb220 hg w55 hbox hb; have n0_ := Aside0.mk (below_step Sk.bl_ hb); have n1_ := Aside0.mk (hbox); have n2_ := Aside0.mk ((by rw [hg]; exact (below_size Sk.bl_) : w.heap.size ≤ gb220)); have n3_ := Aside0.mk ((by rw [hg]; exact (below_size Sk.bl_) : w.heap.size ≤ gb220)); clear HB; have HB := n0_; have BK220 := n1_; have GW220 := n2_; have GE220 := n3_; clear n0_ n1_ n2_ n3_; clear hb hbox hg; obtain ⟨hcz56_0, hcz56_1, hcz56_2, hcz56_3, hcz56_4, hcz56_5⟩ := impl_StackOk.cl6 BK220.out; obtain ⟨hfz56_0, hfz56_1, hfz56_2, hfz56_3, hfz56_4, hfz56_5⟩ := impl_StackOk.fz6 BK220.out))
           have n0_ : Aside0 (((((((w55.setCell ⟨gb220, 0, none⟩ (.string ((rd_T48 l0 x18_1).f0))).setCell ⟨gb220, 1, none⟩ (.int .i64 ((rd_T48 l0 x18_1).f1))).setCell ⟨gb220, 2, none⟩ (.int .i64 ((rd_T48 l0 x18_1).f2))).setCell ⟨gb220, 3, none⟩ (.bool false)).setCell ⟨gb220, 4, none⟩ (.int .i64 ((rd_T48 l0 x18_1).f4))).setCell ⟨gb220, 5, none⟩ (.int .i64 ((rd_T48 l0 x18_1).f5))).heap[gb220]? = some (.cells #[.string ((rd_T48 l0 x18_1).f0), .int .i64 ((rd_T48 l0 x18_1).f1), .int .i64 ((rd_T48 l0 x18_1).f2), .bool false, .int .i64 ((rd_T48 l0 x18_1).f4), .int .i64 ((rd_T48 l0 x18_1).f5)] 48 (0, 0))) := ⟨by (with_reducible repeat (first | refine blk_drewN ?_ _ | refine blk_drew ?_ | refine blk_alloc ?_ _)); refine blk_put (cs := #[.string ((rd_T48 l0 x18_1).f0), .int .i64 ((rd_T48 l0 x18_1).f1), .int .i64 ((rd_T48 l0 x18_1).f2), .bool false, .int .i64 ((rd_T48 l0 x18_1).f4), .int .i64 0]) ?_ 5 _ rfl; (with_reducible repeat (first | refine blk_drewN ?_ _ | refine blk_drew ?_ | refine blk_alloc ?_ _)); refine blk_put (cs := #[.string ((rd_T48 l0 x18_1).f0), .int .i64 ((rd_T48 l0 x18_1).f1), .int .i64 ((rd_T48 l0 x18_1).f2), .bool false, .int .i64 0, .int .i64 0]) ?_ 4 _ rfl; (with_reducible repeat (first | refine blk_drewN ?_ _ | refine blk_drew ?_ | refine blk_alloc ?_ _)); refine blk_put (cs := #[.string ((rd_T48 l0 x18_1).f0), .int .i64 ((rd_T48 l0 x18_1).f1), .int .i64 ((rd_T48 l0 x18_1).f2), .bool false, .int .i64 0, .int .i64 0]) ?_ 3 _ rfl; (with_reducible repeat (first | refine blk_drewN ?_ _ | refine blk_drew ?_ | refine blk_alloc ?_ _)); refine blk_put (cs := #[.string ((rd_T48 l0 x18_1).f0), .int .i64 ((rd_T48 l0 x18_1).f1), .int .i64 0, .bool false, .int .i64 0, .int .i64 0]) ?_ 2 _ rfl; (with_reducible repeat (first | refine blk_drewN ?_ _ | refine blk_drew ?_ | refine blk_alloc ?_ _)); refine blk_put (cs := #[.string ((rd_T48 l0 x18_1).f0), .int .i64 0, .int .i64 0, .bool false, .int .i64 0, .int .i64 0]) ?_ 1 _ rfl; (with_reducible repeat (first | refine blk_drewN ?_ _ | refine blk_drew ?_ | refine blk_alloc ?_ _)); refine blk_put (cs := #[.string (⟨#[]⟩ : ByteArray), .int .i64 0, .int .i64 0, .bool false, .int .i64 0, .int .i64 0]) ?_ 0 _ rfl; (with_reducible repeat (first | refine blk_drewN ?_ _ | refine blk_drew ?_ | refine blk_alloc ?_ _)); exact BK220.out⟩
           have n1_ : Aside0 (Below w.heap.size w ((((((w55.setCell ⟨gb220, 0, none⟩ (.string ((rd_T48 l0 x18_1).f0))).setCell ⟨gb220, 1, none⟩ (.int .i64 ((rd_T48 l0 x18_1).f1))).setCell ⟨gb220, 2, none⟩ (.int .i64 ((rd_T48 l0 x18_1).f2))).setCell ⟨gb220, 3, none⟩ (.bool false)).setCell ⟨gb220, 4, none⟩ (.int .i64 ((rd_T48 l0 x18_1).f4))).setCell ⟨gb220, 5, none⟩ (.int .i64 ((rd_T48 l0 x18_1).f5)))) := ⟨by repeat (first | (with_reducible first | exact HB.out | apply below_alloc | apply pw_below_drewN | apply below_drew1 | refine below_set ?_ GE220.out) | exact HB.out)⟩
           (try clear BK220)
           (try clear HB)
           generalize ((((((w55.setCell ⟨gb220, 0, none⟩ (.string ((rd_T48 l0 x18_1).f0))).setCell ⟨gb220, 1, none⟩ (.int .i64 ((rd_T48 l0 x18_1).f1))).setCell ⟨gb220, 2, none⟩ (.int .i64 ((rd_T48 l0 x18_1).f2))).setCell ⟨gb220, 3, none⟩ (.bool false)).setCell ⟨gb220, 4, none⟩ (.int .i64 ((rd_T48 l0 x18_1).f4))).setCell ⟨gb220, 5, none⟩ (.int .i64 ((rd_T48 l0 x18_1).f5))) = w57 at n0_ n1_ ⊢
           have BK220 := n0_
           have HB := n1_
           clear n0_ n1_
           have n0_ := Aside0.mk (blk_drew BK220.out)
           have n1_ := Aside0.mk (below_drew1 HB.out)
           clear BK220
           clear HB
           have BK220 := n0_
           have HB := n1_
           clear n0_ n1_
           refine start_ (n := 26) (S := fun w' => w'.cell? ⟨gb220, 0, none⟩ = some (.string ((rd_T48 l0 x18_1).f0)) ∧ w'.cell? ⟨gb220, 1, none⟩ = some (.int .i64 ((rd_T48 l0 x18_1).f1)) ∧ w'.cell? ⟨gb220, 2, none⟩ = some (.int .i64 ((rd_T48 l0 x18_1).f2)) ∧ w'.cell? ⟨gb220, 3, none⟩ = some (.bool false) ∧ w'.cell? ⟨gb220, 4, none⟩ = some (.int .i64 ((rd_T48 l0 x18_1).f4)) ∧ w'.cell? ⟨gb220, 5, none⟩ = some (.int .i64 ((rd_T48 l0 x18_1).f5))) (ds := []) impl_StackOk.v0 (by kernel_rfl) rfl rfl ⟨(blk_cell BK220.out 0).trans rfl, (blk_cell BK220.out 1).trans rfl, (blk_cell BK220.out 2).trans rfl, (blk_cell BK220.out 3).trans rfl, (blk_cell BK220.out 4).trans rfl, (blk_cell BK220.out 5).trans rfl⟩ (fun hHeld => ?_); refine with_tabW impl_StackOk.tab7 impl_StackOk.bits7 (fun HT_ HW_ => ?_)
           generalize w57.drew = w58 at BK220 HB hHeld ⊢
           refine Sk.tk6 0 23 impl_StackOk.v1 HT_.out HW_.out hHeld (h := ?_)
           refine one_ (i := 1) (N := some 24) impl_StackOk.v2 rfl rfl (one_of HT_.out (by kernel_rfl)) (by decide) (fun K hK => ?_)
           refine goes_ Try.func19 (by kernel_rfl) rfl #[.agg #[.string ((rd_T48 l0 x18_1).f0), .int .i64 ((rd_T48 l0 x18_1).f1), .int .i64 ((rd_T48 l0 x18_1).f2), .bool false, .int .i64 ((rd_T48 l0 x18_1).f4), .int .i64 ((rd_T48 l0 x18_1).f5)]] (by rfl) rfl rfl (by (try simp only [List.map_toArray, List.map_cons, List.map_nil]); first | done | rfl | (simp only [List.length_drop, List.length_take]; rfl)) ?_
           with_reducible refine (impl_BoxOk.calls k1 ((rd_T48 l0 x18_1).f0) ((rd_T48 l0 x18_1).f1) ((rd_T48 l0 x18_1).f2) false ((rd_T48 l0 x18_1).f4) ((rd_T48 l0 x18_1).f5) true _ (by first | exact A9.out | (have h_ := A9.out; (try rw [← Nbq21.out] at h_); (try rw [← Nbq41.out] at h_); exact h_))).mono ?_
           rintro e w59 ⟨rfl, hb⟩
           refine ⟨_, rfl, ?_⟩
           have n0_ := Aside0.mk (blk_below (g := gb220) (by (with_reducible repeat (first | refine blk_drewN ?_ _ | refine blk_drew ?_ | refine blk_alloc ?_ _)); exact BK220.out) hb)
           have n1_ := Aside0.mk (below_step (by repeat (first | (with_reducible first | exact HB.out | apply below_alloc | apply pw_below_drewN | apply below_drew1 | refine below_set ?_ GE220.out) | exact HB.out)) hb)
           clear BK220
           clear HB
           have BK220 := n0_
           have HB := n1_
           clear n0_ n1_
           (try clear hb)
           refine hK.out _ _ ⟨(blk_cell BK220.out 0).trans rfl, (blk_cell BK220.out 1).trans rfl, (blk_cell BK220.out 2).trans rfl, (blk_cell BK220.out 3).trans rfl, (blk_cell BK220.out 4).trans rfl, (blk_cell BK220.out 5).trans rfl⟩ (fun hHeld => ?_)
           clear hK K
           refine Sk.nm 24 (h := ?_)
           refine Sk.pq 2 25 impl_StackOk.v3 HT_.out (h := ?_)
           refine Sk.pq 3 26 impl_StackOk.v4 HT_.out (h := ?_)
           refine Sk.pq 4 27 impl_StackOk.v5 HT_.out (h := ?_)
           refine Sk.pq 5 28 impl_StackOk.v6 HT_.out (h := ?_)
           refine Sk.pq 6 29 impl_StackOk.v7 HT_.out (h := ?_)
           refine Sk.pu 7 30 impl_StackOk.v8 HT_.out (h := ?_)
           refine Sk.pu 8 31 impl_StackOk.v27 HT_.out (h := ?_)
           refine Sk.pu 9 32 impl_StackOk.v28 HT_.out (h := ?_)
           refine Sk.pu 10 33 impl_StackOk.v29 HT_.out (h := ?_)
           refine Sk.pu 11 34 impl_StackOk.v30 HT_.out (h := ?_)
           refine Sk.pu 12 35 impl_StackOk.v31 HT_.out (h := ?_)
           refine Sk.pu 13 36 impl_StackOk.v14 HT_.out (h := ?_)
           refine Sk.pu 14 37 impl_StackOk.v15 HT_.out (h := ?_)
           refine Sk.pu 15 38 impl_StackOk.v16 HT_.out (h := ?_)
           refine Sk.pq 16 39 impl_StackOk.v17 HT_.out (h := ?_)
           refine Sk.pq 17 40 impl_StackOk.v18 HT_.out (h := ?_)
           refine Sk.pq 18 41 impl_StackOk.v19 HT_.out (h := ?_)
           refine Sk.pq 19 42 impl_StackOk.v20 HT_.out (h := ?_)
           refine Sk.tk6 20 43 impl_StackOk.v21 HT_.out HW_.out hHeld (h := ?_)
           refine Sk.pq 21 44 impl_StackOk.v22 HT_.out (h := ?_)
           refine Sk.pu 22 45 impl_StackOk.v23 HT_.out (h := ?_)
           refine Sk.pu 23 46 impl_StackOk.v24 HT_.out (h := ?_)
           refine Sk.pq 24 47 impl_StackOk.v25 HT_.out (h := ?_)
           refine Sk.pq 25 48 impl_StackOk.v26 HT_.out (h := ?_)
           refine done_ (done_of HT_.out (by kernel_rfl)) ?_
           obtain ⟨hcz60_0, hcz60_1, hcz60_2, hcz60_3, hcz60_4, hcz60_5⟩ := impl_StackOk.cl6 BK220.out
           obtain ⟨hfz60_0, hfz60_1, hfz60_2, hfz60_3, hfz60_4, hfz60_5⟩ := impl_StackOk.fz6 BK220.out
           try go_wp2
           go_roundg k1
           case measure => have := HK1.out; omega
           case rel => exact ⟨(wrap64 (x5_1 + ((rd_T48 l0 x18_1).f1))), (wrap64 (x18_1 + 1)), (by first | rfl | (simp; done) | (simp [*]; done)), (by first | rfl | (simp; done) | (simp [*]; done)), H', ⟨by have := HK1.out; omega⟩, ⟨by repeat (first | (with_reducible first | exact HB.out | apply below_alloc | apply pw_below_drewN | apply below_drew1 | refine below_set ?_ GE220.out) | exact HB.out)⟩⟩
        ·replace c10 := Bool.eq_false_iff.mpr c10
         subst c10
         rw [if_neg (show ¬ (false = true) by decide)] at H
         obtain rfl := Option.some.inj H
         have p219 : 0 ≤ (x18_1 : Int) := of_decide_eq_true (by first | (with_reducible assumption) | assumption)
         have q219 : x18_1 < (l0.length : Int) := of_decide_eq_true (by first | (with_reducible assumption) | assumption)
         obtain ⟨ad219, e219, hx219_0, hx219_1, hx219_2, hx219_3, hx219_4, hx219_5⟩ := at_T48 HR0.out x18_1 p219 q219
         cases e219
         replace hx219_0 := (HB.out.cell (World.block_lt_of_cell? w _ hx219_0)).trans hx219_0
         replace hx219_1 := (HB.out.cell (World.block_lt_of_cell? w _ hx219_1)).trans hx219_1
         replace hx219_2 := (HB.out.cell (World.block_lt_of_cell? w _ hx219_2)).trans hx219_2
         replace hx219_3 := (HB.out.cell (World.block_lt_of_cell? w _ hx219_3)).trans hx219_3
         replace hx219_4 := (HB.out.cell (World.block_lt_of_cell? w _ hx219_4)).trans hx219_4
         replace hx219_5 := (HB.out.cell (World.block_lt_of_cell? w _ hx219_5)).trans hx219_5
         replace p219 := eq_true p219
         replace q219 := eq_true q219
         try go_wp2_with (first | ((with_reducible refine gate_dst (N := 7) rfl ?_); refine box_event ?hg (N := 7) ?hd (cs := #[.string (⟨#[]⟩ : ByteArray), .int .i64 0, .int .i64 0, .bool false, .int .i64 0, .int .i64 0]) (t := 48) ?hr ?_; (case hd => rfl); (case hg => rfl); (case hr => first | (go_simp; done) | (go_simp; rfl)); intro gb220 hg w61 hbox hb; have n0_ := Aside0.mk (below_step Sk.bl_ hb); have n1_ := Aside0.mk (hbox); have n2_ := Aside0.mk ((by rw [hg]; exact (below_size Sk.bl_) : w.heap.size ≤ gb220)); have n3_ := Aside0.mk ((by rw [hg]; exact (below_size Sk.bl_) : w.heap.size ≤ gb220)); clear HB; have HB := n0_; have BK220 := n1_; have GW220 := n2_; have GE220 := n3_; clear n0_ n1_ n2_ n3_; clear hb hbox hg; obtain ⟨hcz62_0, hcz62_1, hcz62_2, hcz62_3, hcz62_4, hcz62_5⟩ := impl_StackOk.cl6 BK220.out; obtain ⟨hfz62_0, hfz62_1, hfz62_2, hfz62_3, hfz62_4, hfz62_5⟩ := impl_StackOk.fz6 BK220.out))
         have n0_ : Aside0 (((((((w61.setCell ⟨gb220, 0, none⟩ (.string ((rd_T48 l0 x18_1).f0))).setCell ⟨gb220, 1, none⟩ (.int .i64 ((rd_T48 l0 x18_1).f1))).setCell ⟨gb220, 2, none⟩ (.int .i64 ((rd_T48 l0 x18_1).f2))).setCell ⟨gb220, 3, none⟩ (.bool ((rd_T48 l0 x18_1).f3))).setCell ⟨gb220, 4, none⟩ (.int .i64 ((rd_T48 l0 x18_1).f4))).setCell ⟨gb220, 5, none⟩ (.int .i64 ((rd_T48 l0 x18_1).f5))).heap[gb220]? = some (.cells #[.string ((rd_T48 l0 x18_1).f0), .int .i64 ((rd_T48 l0 x18_1).f1), .int .i64 ((rd_T48 l0 x18_1).f2), .bool ((rd_T48 l0 x18_1).f3), .int .i64 ((rd_T48 l0 x18_1).f4), .int .i64 ((rd_T48 l0 x18_1).f5)] 48 (0, 0))) := ⟨by (with_reducible repeat (first | refine blk_drewN ?_ _ | refine blk_drew ?_ | refine blk_alloc ?_ _)); refine blk_put (cs := #[.string ((rd_T48 l0 x18_1).f0), .int .i64 ((rd_T48 l0 x18_1).f1), .int .i64 ((rd_T48 l0 x18_1).f2), .bool ((rd_T48 l0 x18_1).f3), .int .i64 ((rd_T48 l0 x18_1).f4), .int .i64 0]) ?_ 5 _ rfl; (with_reducible repeat (first | refine blk_drewN ?_ _ | refine blk_drew ?_ | refine blk_alloc ?_ _)); refine blk_put (cs := #[.string ((rd_T48 l0 x18_1).f0), .int .i64 ((rd_T48 l0 x18_1).f1), .int .i64 ((rd_T48 l0 x18_1).f2), .bool ((rd_T48 l0 x18_1).f3), .int .i64 0, .int .i64 0]) ?_ 4 _ rfl; (with_reducible repeat (first | refine blk_drewN ?_ _ | refine blk_drew ?_ | refine blk_alloc ?_ _)); refine blk_put (cs := #[.string ((rd_T48 l0 x18_1).f0), .int .i64 ((rd_T48 l0 x18_1).f1), .int .i64 ((rd_T48 l0 x18_1).f2), .bool false, .int .i64 0, .int .i64 0]) ?_ 3 _ rfl; (with_reducible repeat (first | refine blk_drewN ?_ _ | refine blk_drew ?_ | refine blk_alloc ?_ _)); refine blk_put (cs := #[.string ((rd_T48 l0 x18_1).f0), .int .i64 ((rd_T48 l0 x18_1).f1), .int .i64 0, .bool false, .int .i64 0, .int .i64 0]) ?_ 2 _ rfl; (with_reducible repeat (first | refine blk_drewN ?_ _ | refine blk_drew ?_ | refine blk_alloc ?_ _)); refine blk_put (cs := #[.string ((rd_T48 l0 x18_1).f0), .int .i64 0, .int .i64 0, .bool false, .int .i64 0, .int .i64 0]) ?_ 1 _ rfl; (with_reducible repeat (first | refine blk_drewN ?_ _ | refine blk_drew ?_ | refine blk_alloc ?_ _)); refine blk_put (cs := #[.string (⟨#[]⟩ : ByteArray), .int .i64 0, .int .i64 0, .bool false, .int .i64 0, .int .i64 0]) ?_ 0 _ rfl; (with_reducible repeat (first | refine blk_drewN ?_ _ | refine blk_drew ?_ | refine blk_alloc ?_ _)); exact BK220.out⟩
         have n1_ : Aside0 (Below w.heap.size w ((((((w61.setCell ⟨gb220, 0, none⟩ (.string ((rd_T48 l0 x18_1).f0))).setCell ⟨gb220, 1, none⟩ (.int .i64 ((rd_T48 l0 x18_1).f1))).setCell ⟨gb220, 2, none⟩ (.int .i64 ((rd_T48 l0 x18_1).f2))).setCell ⟨gb220, 3, none⟩ (.bool ((rd_T48 l0 x18_1).f3))).setCell ⟨gb220, 4, none⟩ (.int .i64 ((rd_T48 l0 x18_1).f4))).setCell ⟨gb220, 5, none⟩ (.int .i64 ((rd_T48 l0 x18_1).f5)))) := ⟨by repeat (first | (with_reducible first | exact HB.out | apply below_alloc | apply pw_below_drewN | apply below_drew1 | refine below_set ?_ GE220.out) | exact HB.out)⟩
         (try clear BK220)
         (try clear HB)
         generalize ((((((w61.setCell ⟨gb220, 0, none⟩ (.string ((rd_T48 l0 x18_1).f0))).setCell ⟨gb220, 1, none⟩ (.int .i64 ((rd_T48 l0 x18_1).f1))).setCell ⟨gb220, 2, none⟩ (.int .i64 ((rd_T48 l0 x18_1).f2))).setCell ⟨gb220, 3, none⟩ (.bool ((rd_T48 l0 x18_1).f3))).setCell ⟨gb220, 4, none⟩ (.int .i64 ((rd_T48 l0 x18_1).f4))).setCell ⟨gb220, 5, none⟩ (.int .i64 ((rd_T48 l0 x18_1).f5))) = w63 at n0_ n1_ ⊢
         have BK220 := n0_
         have HB := n1_
         clear n0_ n1_
         have n0_ := Aside0.mk (blk_drew BK220.out)
         have n1_ := Aside0.mk (below_drew1 HB.out)
         clear BK220
         clear HB
         have BK220 := n0_
         have HB := n1_
         clear n0_ n1_
         refine start_ (n := 26) (S := fun w' => w'.cell? ⟨gb220, 0, none⟩ = some (.string ((rd_T48 l0 x18_1).f0)) ∧ w'.cell? ⟨gb220, 1, none⟩ = some (.int .i64 ((rd_T48 l0 x18_1).f1)) ∧ w'.cell? ⟨gb220, 2, none⟩ = some (.int .i64 ((rd_T48 l0 x18_1).f2)) ∧ w'.cell? ⟨gb220, 3, none⟩ = some (.bool ((rd_T48 l0 x18_1).f3)) ∧ w'.cell? ⟨gb220, 4, none⟩ = some (.int .i64 ((rd_T48 l0 x18_1).f4)) ∧ w'.cell? ⟨gb220, 5, none⟩ = some (.int .i64 ((rd_T48 l0 x18_1).f5))) (ds := []) impl_StackOk.v0 (by kernel_rfl) rfl rfl ⟨(blk_cell BK220.out 0).trans rfl, (blk_cell BK220.out 1).trans rfl, (blk_cell BK220.out 2).trans rfl, (blk_cell BK220.out 3).trans rfl, (blk_cell BK220.out 4).trans rfl, (blk_cell BK220.out 5).trans rfl⟩ (fun hHeld => ?_); refine with_tabW impl_StackOk.tab7 impl_StackOk.bits7 (fun HT_ HW_ => ?_)
         generalize w63.drew = w64 at BK220 HB hHeld ⊢
         refine Sk.tk6 0 23 impl_StackOk.v1 HT_.out HW_.out hHeld (h := ?_)
         refine one_ (i := 1) (N := some 24) impl_StackOk.v2 rfl rfl (one_of HT_.out (by kernel_rfl)) (by decide) (fun K hK => ?_)
         refine goes_ Try.func19 (by kernel_rfl) rfl #[.agg #[.string ((rd_T48 l0 x18_1).f0), .int .i64 ((rd_T48 l0 x18_1).f1), .int .i64 ((rd_T48 l0 x18_1).f2), .bool ((rd_T48 l0 x18_1).f3), .int .i64 ((rd_T48 l0 x18_1).f4), .int .i64 ((rd_T48 l0 x18_1).f5)]] (by rfl) rfl rfl (by (try simp only [List.map_toArray, List.map_cons, List.map_nil]); first | done | rfl | (simp only [List.length_drop, List.length_take]; rfl)) ?_
         with_reducible refine (impl_BoxOk.calls k1 ((rd_T48 l0 x18_1).f0) ((rd_T48 l0 x18_1).f1) ((rd_T48 l0 x18_1).f2) ((rd_T48 l0 x18_1).f3) ((rd_T48 l0 x18_1).f4) ((rd_T48 l0 x18_1).f5) false _ (by first | exact A9.out | (have h_ := A9.out; (try rw [← Nbq21.out] at h_); (try rw [← Nbq41.out] at h_); exact h_))).mono ?_
         rintro e w65 ⟨rfl, hb⟩
         refine ⟨_, rfl, ?_⟩
         have n0_ := Aside0.mk (blk_below (g := gb220) (by (with_reducible repeat (first | refine blk_drewN ?_ _ | refine blk_drew ?_ | refine blk_alloc ?_ _)); exact BK220.out) hb)
         have n1_ := Aside0.mk (below_step (by repeat (first | (with_reducible first | exact HB.out | apply below_alloc | apply pw_below_drewN | apply below_drew1 | refine below_set ?_ GE220.out) | exact HB.out)) hb)
         clear BK220
         clear HB
         have BK220 := n0_
         have HB := n1_
         clear n0_ n1_
         (try clear hb)
         refine hK.out _ _ ⟨(blk_cell BK220.out 0).trans rfl, (blk_cell BK220.out 1).trans rfl, (blk_cell BK220.out 2).trans rfl, (blk_cell BK220.out 3).trans rfl, (blk_cell BK220.out 4).trans rfl, (blk_cell BK220.out 5).trans rfl⟩ (fun hHeld => ?_)
         clear hK K
         refine Sk.nm 24 (h := ?_)
         refine Sk.pq 2 25 impl_StackOk.v3 HT_.out (h := ?_)
         refine Sk.pq 3 26 impl_StackOk.v4 HT_.out (h := ?_)
         refine Sk.pu 4 27 impl_StackOk.v5 HT_.out (h := ?_)
         refine Sk.pu 5 28 impl_StackOk.v6 HT_.out (h := ?_)
         refine Sk.pu 6 29 impl_StackOk.v7 HT_.out (h := ?_)
         refine Sk.pu 7 30 impl_StackOk.v8 HT_.out (h := ?_)
         refine Sk.pu 8 31 impl_StackOk.v27 HT_.out (h := ?_)
         refine Sk.pu 9 32 impl_StackOk.v28 HT_.out (h := ?_)
         refine Sk.pu 10 33 impl_StackOk.v29 HT_.out (h := ?_)
         refine Sk.pu 11 34 impl_StackOk.v30 HT_.out (h := ?_)
         refine Sk.pu 12 35 impl_StackOk.v31 HT_.out (h := ?_)
         refine Sk.pu 13 36 impl_StackOk.v14 HT_.out (h := ?_)
         refine Sk.pu 14 37 impl_StackOk.v15 HT_.out (h := ?_)
         refine Sk.pu 15 38 impl_StackOk.v16 HT_.out (h := ?_)
         refine Sk.pu 16 39 impl_StackOk.v17 HT_.out (h := ?_)
         refine Sk.pq 17 40 impl_StackOk.v18 HT_.out (h := ?_)
         refine Sk.pq 18 41 impl_StackOk.v19 HT_.out (h := ?_)
         refine Sk.pu 19 42 impl_StackOk.v20 HT_.out (h := ?_)
         refine Sk.pu 20 43 impl_StackOk.v21 HT_.out (h := ?_)
         refine Sk.pu 21 44 impl_StackOk.v22 HT_.out (h := ?_)
         refine Sk.pu 22 45 impl_StackOk.v23 HT_.out (h := ?_)
         refine Sk.pu 23 46 impl_StackOk.v24 HT_.out (h := ?_)
         refine Sk.pu 24 47 impl_StackOk.v25 HT_.out (h := ?_)
         refine Sk.pq 25 48 impl_StackOk.v26 HT_.out (h := ?_)
         refine done_ (done_of HT_.out (by kernel_rfl)) ?_
         try go_wp2
         go_ret
         exact ⟨by first | rfl | (simp [errW_none, errW_some] <;> rfl) | (simp [*, errW_none, errW_some] <;> rfl), by repeat (first | (with_reducible first | exact HB.out | apply below_alloc | apply pw_below_drewN | apply below_drew1 | refine below_set ?_ GE220.out) | exact HB.out)⟩
       ·rw [if_neg c8] at H
        exact absurd H (by simp)
      ·rw [if_neg c7] at H
       exact absurd H (by simp)
     ·rw [if_neg c6] at H
      have c6b0 : decide (x18_1 < (l0.length : Int)) = false := decide_eq_false c6
      clear c6
      obtain rfl := Option.some.inj H
      go_wp2
      go_ret
      exact ⟨by first | rfl | (simp [errW_none, errW_some] <;> rfl) | (simp [*, errW_none, errW_some] <;> rfl), Sk.bl_⟩
  ·replace c5 := Bool.eq_false_iff.mpr c5
   subst c5
   rw [if_neg (show ¬ (false = true) by decide)] at H
   obtain rfl := Option.some.inj H
   go_enter Try.func28, Try.ntmps28
   go_wp2_with (first | (go_at_call 24; (with_reducible refine (impl_in.calls a1 0 1000000 false _ (by first | exact A4.out | (have h_ := A4.out; (try rw [← Nbq21.out] at h_); (try rw [← Nbq41.out] at h_); exact h_))).mono ?_); rintro e w' ⟨rfl, ⟨nd, rfl⟩⟩))
   go_ret
   exact ⟨by first | rfl | (simp [errW_none, errW_some] <;> rfl) | (simp [*, errW_none, errW_some] <;> rfl), Sk.bl_⟩

end Go.Proofs.Ythfkmjbefdmopaa.PA
