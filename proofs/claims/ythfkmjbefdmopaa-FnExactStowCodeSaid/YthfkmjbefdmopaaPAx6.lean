/- What Go's functions that the laws reach come to: laid by a program of this session over the print's words. -/
import Derived.Test.YthfkmjbefdmopaaPAx0
import Derived.Test.YthfkmjbefdmopaaPAx2
import Derived.Test.YthfkmjbefdmopaaPAx5
import Derived.Test.YthfkmjbefdmopaaSteps
namespace Go.Proofs.Ythfkmjbefdmopaa.PA
open Go.RowKit Go.Proofs.YthfkmjbefdmopaaW.PrintWords Go.Proofs.YthfkmjbefdmopaaW.PrintLast Go.Proofs.YthfkmjbefdmopaaW.PrintMore Go.Proofs.Ythfkmjbefdmopaa
attribute [local go_sem] max2_int min2_int max_two min_two max_three min_three max_four min_four   -- for this text's walks alone
set_option linter.unusedVariables false
set_option linter.unusedSimpArgs false

/-! ### spec_StackOk: function 40 -/
def spec_StackOk.l0 : Nat → List (S48) → Int → Int → Int → Option (Bool)
  | 0, _, _, _, _ => none
  | k + 1, x0, x1, x5, x6 => if x6 < (x0.length : Int) then (if 0 ≤ x6 then (if (x0.length : Int) > 20 then (some false) else ((spec_BoxOk.f k ((rd_T48 x0 x6).f0) ((rd_T48 x0 x6).f1) ((rd_T48 x0 x6).f2) ((rd_T48 x0 x6).f3) ((rd_T48 x0 x6).f4) ((rd_T48 x0 x6).f5)).bind fun t127 => (if t127 = true then (if x6 > 0 then (if 0 ≤ (wrap64 (x6 - 1)) then (if (wrap64 (x6 - 1)) < (x0.length : Int) then (if ((rd_T48 x0 (wrap64 (x6 - 1))).f1) < ((rd_T48 x0 x6).f1) then (some false) else (if (rd_T48 x0 x6).f3 = true then (if x6 > 1 then (some false) else (spec_StackOk.l0 k x0 x1 (wrap64 (x5 + ((rd_T48 x0 x6).f1))) (wrap64 (x6 + 1)))) else (spec_StackOk.l0 k x0 x1 (wrap64 (x5 + ((rd_T48 x0 x6).f1))) (wrap64 (x6 + 1))))) else (none)) else (none)) else (if (rd_T48 x0 x6).f3 = true then (if x6 > 1 then (some false) else (spec_StackOk.l0 k x0 x1 (wrap64 (x5 + ((rd_T48 x0 x6).f1))) (wrap64 (x6 + 1)))) else (spec_StackOk.l0 k x0 x1 (wrap64 (x5 + ((rd_T48 x0 x6).f1))) (wrap64 (x6 + 1))))) else (some false)))) else (none)) else ((spec_l1In.f x1 0 1000000).bind fun t129 => (if t129 = true then (some (decide (x5 ≤ x1))) else (some false)))
def spec_StackOk.f (k : Nat) (l0 : List (S48)) (a1 : Int) : Option (Bool) := spec_StackOk.l0 k l0 a1 0 0
theorem spec_StackOk.mono_l : ∀ k, (∀ y0 y1 y2 y3, LeO (spec_StackOk.l0 k y0 y1 y2 y3) (spec_StackOk.l0 (k + 1) y0 y1 y2 y3))
  | 0 => fun _ _ _ _ r h => by simp [spec_StackOk.l0] at h
  | k + 1 => by
    have ih0 := spec_StackOk.mono_l k
    · intro y0 y1 y2 y3
      unfold spec_StackOk.l0
      repeat' first
      | (with_reducible exact ih0 _ _ _ _)
      | (with_reducible exact spec_BoxOk.mono _ _ _ _ _ _ _)
      | (with_reducible exact LeO.refl _)
      | (with_reducible exact LeO.none _)
      | (with_reducible refine LeO.ite ?_ ?_)
      | (with_reducible refine LeO.bind ?_ (fun _ => ?_))
      | exact ih0 _ _ _ _
      | exact spec_BoxOk.mono _ _ _ _ _ _ _
      | exact LeO.none _
      | refine LeO.ite ?_ ?_
      | refine LeO.bind ?_ (fun _ => ?_)
theorem spec_StackOk.mono : ∀ a0 a1 k, LeO (spec_StackOk.f k a0 a1) (spec_StackOk.f (k + 1) a0 a1) := by
  intro a0 a1 k
  have ih0 := spec_StackOk.mono_l k
  unfold spec_StackOk.f
  repeat' first
      | (with_reducible exact ih0 _ _ _ _)
      | (with_reducible exact spec_BoxOk.mono _ _ _ _ _ _ _)
      | (with_reducible exact LeO.refl _)
      | (with_reducible exact LeO.none _)
      | (with_reducible refine LeO.ite ?_ ?_)
      | (with_reducible refine LeO.bind ?_ (fun _ => ?_))
      | exact ih0 _ _ _ _
      | exact spec_BoxOk.mono _ _ _ _ _ _ _
      | exact LeO.none _
      | refine LeO.ite ?_ ?_
      | refine LeO.bind ?_ (fun _ => ?_)
def spec_StackOk.T6 : Bool × List (List Nat × List Nat) := (true, [([], []), ([0], [0]), ([1], [1]), ([2], [2]), ([3], [3]), ([4, 3, 3], [3, 4]), ([5, 3], [3, 5]), ([3, 6], [3, 6]), ([7, 5], [7]), ([8], [8]), ([9, 8], [8, 9]), ([10, 8, 8], [8, 10]), ([11], [11]), ([11], [11]), ([13, 11], [11, 13]), ([12, 14, 11], [11, 12, 14]), ([15, 11], [11, 15]), ([16, 11], [11, 16]), ([11], [11]), ([18, 11], [11, 18]), ([17, 19, 11], [11, 17, 19]), ([11, 20, 8], [8, 11, 20]), ([8, 21], [8, 21]), ([22, 11], [22]), ([23], [23]), ([24, 23], [23, 24]), ([25, 23, 23], [23, 25]), ([26], [26]), ([27, 26], [26, 27]), ([26, 28, 23], [23, 26, 28]), ([23, 29], [23, 29])])
def spec_StackOk.B6 : List Nat := [0, 1, 3, 7, 15, 31, 63, 127, 255, 511, 1023, 2047, 4095, 4095, 12287, 32767, 65535, 131071, 4095, 266239, 1048575, 2097151, 4194303, 8388607, 16777215, 33554431, 67108863, 134217727, 268435455, 536870911, 1073741823]
theorem spec_StackOk.tab6 : rtab .any (opsOf Try.f40 6) = spec_StackOk.T6 := by kernel_rfl
theorem spec_StackOk.bits6 : waitsOk spec_StackOk.T6.2 spec_StackOk.B6 = true := by kernel_rfl
abbrev spec_StackOk.v0 : Array Bool := #[false, false, false, false, false, false, false, false, false, false, false, false, false, false, false, false, false, false, false, false, false, false, false, false, false, false, false, false, false, false, false]
abbrev spec_StackOk.v1 : Array Bool := #[true, false, false, false, false, false, false, false, false, false, false, false, false, false, false, false, false, false, false, false, false, false, false, false, false, false, false, false, false, false, false]
abbrev spec_StackOk.v2 : Array Bool := #[true, true, false, false, false, false, false, false, false, false, false, false, false, false, false, false, false, false, false, false, false, false, false, false, false, false, false, false, false, false, false]
abbrev spec_StackOk.v3 : Array Bool := #[true, true, true, false, false, false, false, false, false, false, false, false, false, false, false, false, false, false, false, false, false, false, false, false, false, false, false, false, false, false, false]
abbrev spec_StackOk.v4 : Array Bool := #[true, true, true, true, false, false, false, false, false, false, false, false, false, false, false, false, false, false, false, false, false, false, false, false, false, false, false, false, false, false, false]
abbrev spec_StackOk.v5 : Array Bool := #[true, true, true, true, true, false, false, false, false, false, false, false, false, false, false, false, false, false, false, false, false, false, false, false, false, false, false, false, false, false, false]
abbrev spec_StackOk.v6 : Array Bool := #[true, true, true, true, true, true, false, false, false, false, false, false, false, false, false, false, false, false, false, false, false, false, false, false, false, false, false, false, false, false, false]
abbrev spec_StackOk.v7 : Array Bool := #[true, true, true, true, true, true, true, false, false, false, false, false, false, false, false, false, false, false, false, false, false, false, false, false, false, false, false, false, false, false, false]
abbrev spec_StackOk.v8 : Array Bool := #[true, true, true, true, true, true, true, true, false, false, false, false, false, false, false, false, false, false, false, false, false, false, false, false, false, false, false, false, false, false, false]
abbrev spec_StackOk.v9 : Array Bool := #[true, true, true, true, true, true, true, true, true, false, false, false, false, false, false, false, false, false, false, false, false, false, false, false, false, false, false, false, false, false, false]
abbrev spec_StackOk.v10 : Array Bool := #[true, true, true, true, true, true, true, true, true, true, false, false, false, false, false, false, false, false, false, false, false, false, false, false, false, false, false, false, false, false, false]
abbrev spec_StackOk.v11 : Array Bool := #[true, true, true, true, true, true, true, true, true, true, true, false, false, false, false, false, false, false, false, false, false, false, false, false, false, false, false, false, false, false, false]
abbrev spec_StackOk.v12 : Array Bool := #[true, true, true, true, true, true, true, true, true, true, true, true, false, false, false, false, false, false, false, false, false, false, false, false, false, false, false, false, false, false, false]
abbrev spec_StackOk.v13 : Array Bool := #[true, true, true, true, true, true, true, true, true, true, true, true, true, false, false, false, false, false, false, false, false, false, false, false, false, false, false, false, false, false, false]
abbrev spec_StackOk.v14 : Array Bool := #[true, true, true, true, true, true, true, true, true, true, true, true, true, true, false, false, false, false, false, false, false, false, false, false, false, false, false, false, false, false, false]
abbrev spec_StackOk.v15 : Array Bool := #[true, true, true, true, true, true, true, true, true, true, true, true, true, true, true, false, false, false, false, false, false, false, false, false, false, false, false, false, false, false, false]
abbrev spec_StackOk.v16 : Array Bool := #[true, true, true, true, true, true, true, true, true, true, true, true, true, true, true, true, false, false, false, false, false, false, false, false, false, false, false, false, false, false, false]
abbrev spec_StackOk.v17 : Array Bool := #[true, true, true, true, true, true, true, true, true, true, true, true, true, true, true, true, true, false, false, false, false, false, false, false, false, false, false, false, false, false, false]
abbrev spec_StackOk.v18 : Array Bool := #[true, true, true, true, true, true, true, true, true, true, true, true, true, true, true, true, true, true, false, false, false, false, false, false, false, false, false, false, false, false, false]
abbrev spec_StackOk.v19 : Array Bool := #[true, true, true, true, true, true, true, true, true, true, true, true, true, true, true, true, true, true, true, false, false, false, false, false, false, false, false, false, false, false, false]
abbrev spec_StackOk.v20 : Array Bool := #[true, true, true, true, true, true, true, true, true, true, true, true, true, true, true, true, true, true, true, true, false, false, false, false, false, false, false, false, false, false, false]
abbrev spec_StackOk.v21 : Array Bool := #[true, true, true, true, true, true, true, true, true, true, true, true, true, true, true, true, true, true, true, true, true, false, false, false, false, false, false, false, false, false, false]
abbrev spec_StackOk.v22 : Array Bool := #[true, true, true, true, true, true, true, true, true, true, true, true, true, true, true, true, true, true, true, true, true, true, false, false, false, false, false, false, false, false, false]
abbrev spec_StackOk.v23 : Array Bool := #[true, true, true, true, true, true, true, true, true, true, true, true, true, true, true, true, true, true, true, true, true, true, true, false, false, false, false, false, false, false, false]
abbrev spec_StackOk.v24 : Array Bool := #[true, true, true, true, true, true, true, true, true, true, true, true, true, true, true, true, true, true, true, true, true, true, true, true, false, false, false, false, false, false, false]
abbrev spec_StackOk.v25 : Array Bool := #[true, true, true, true, true, true, true, true, true, true, true, true, true, true, true, true, true, true, true, true, true, true, true, true, true, false, false, false, false, false, false]
abbrev spec_StackOk.v26 : Array Bool := #[true, true, true, true, true, true, true, true, true, true, true, true, true, true, true, true, true, true, true, true, true, true, true, true, true, true, false, false, false, false, false]
abbrev spec_StackOk.v27 : Array Bool := #[true, true, true, true, true, true, true, true, true, true, true, true, true, true, true, true, true, true, true, true, true, true, true, true, true, true, true, false, false, false, false]
abbrev spec_StackOk.v28 : Array Bool := #[true, true, true, true, true, true, true, true, true, true, true, true, true, true, true, true, true, true, true, true, true, true, true, true, true, true, true, true, false, false, false]
abbrev spec_StackOk.v29 : Array Bool := #[true, true, true, true, true, true, true, true, true, true, true, true, true, true, true, true, true, true, true, true, true, true, true, true, true, true, true, true, true, false, false]
abbrev spec_StackOk.v30 : Array Bool := #[true, true, true, true, true, true, true, true, true, true, true, true, true, true, true, true, true, true, true, true, true, true, true, true, true, true, true, true, true, true, false]
abbrev spec_StackOk.v31 : Array Bool := #[true, true, true, true, true, true, true, true, true, true, true, true, true, true, true, true, true, true, true, true, true, true, true, true, true, true, true, true, true, true, true]
abbrev spec_StackOk.v32 : Array Bool := #[true, true, true, true, true, true, true, true, true, true, true, true, true, true, true, true, true, false, true, false, false, false, false, false, false, false, false, false, false, false, false]
theorem spec_StackOk.cl6 {w : World} {g : Nat} {t : TypeId} {c0 c1 c2 c3 c4 c5 : Value} (h : w.heap[g]? = some (.cells #[c0, c1, c2, c3, c4, c5] t (0, 0))) : w.cell? ⟨g, 0, none⟩ = some c0 ∧ w.cell? ⟨g, 1, none⟩ = some c1 ∧ w.cell? ⟨g, 2, none⟩ = some c2 ∧ w.cell? ⟨g, 3, none⟩ = some c3 ∧ w.cell? ⟨g, 4, none⟩ = some c4 ∧ w.cell? ⟨g, 5, none⟩ = some c5 := ⟨(blk_cell h 0).trans rfl, (blk_cell h 1).trans rfl, (blk_cell h 2).trans rfl, (blk_cell h 3).trans rfl, (blk_cell h 4).trans rfl, (blk_cell h 5).trans rfl⟩
theorem spec_StackOk.fz6 {w : World} {g : Nat} {t : TypeId} {c0 c1 c2 c3 c4 c5 : Value} (h : w.heap[g]? = some (.cells #[c0, c1, c2, c3, c4, c5] t (0, 0))) : w.frozen? ⟨g, 0, none⟩ = false ∧ w.frozen? ⟨g, 1, none⟩ = false ∧ w.frozen? ⟨g, 2, none⟩ = false ∧ w.frozen? ⟨g, 3, none⟩ = false ∧ w.frozen? ⟨g, 4, none⟩ = false ∧ w.frozen? ⟨g, 5, none⟩ = false := ⟨blk_frozen h 0, blk_frozen h 1, blk_frozen h 2, blk_frozen h 3, blk_frozen h 4, blk_frozen h 5⟩
set_option maxHeartbeats 80000000 in
set_option maxRecDepth 100000 in
theorem spec_StackOk.calls (k : Nat) (A0 : Option Addr) (c0 : Nat) (l0 : List (S48)) (a1 : Int) (r : Bool) (w : World) (hr0 : Kd.C k48 w A0 l0.length l0) (hc0 : l0.length ≤ c0) (h : spec_StackOk.f k l0 a1 = some r) :
 Calls Try.prog 40 #[.slice A0 l0.length c0, .int .i64 a1] w fun e w' => e = .returned (.bool r) ∧ Below w.heap.size w w' := by
 have hu48 := Try.underlying48
 have HR0 := Aside0.mk hr0
 have HC0 := Aside0.mk hc0
 clear hr0 hc0
 have HB := Aside0.mk (Below.refl w.heap.size w)
 have H : (spec_StackOk.l0 k l0 a1 0 0) = some r := h
 clear h
 have H' := Aside0.mk H
 clear H
 go_enter Try.func40, Try.ntmps40
 go_wp2
 go_loopg [5, 6] k (fun kq v5 v6 w' => ∃ (x5_1 : Int) (x6_1 : Int), v5 = .int .i64 x5_1 ∧ v6 = .int .i64 x6_1 ∧ Aside0 (spec_StackOk.l0 kq l0 a1 x5_1 x6_1 = some r) ∧ Aside0 (kq ≤ k) ∧ Aside0 (Below w.heap.size w w'))
 case atStart => exact ⟨(0), (0), (by first | rfl | (simp; done) | (simp [*]; done)), (by first | rfl | (simp; done) | (simp [*]; done)), H', ⟨Nat.le_refl _⟩, ⟨Sk.bl_⟩⟩
 case round =>
  clear H'
  try clear p2
  obtain ⟨x5_1, x6_1, rfl, rfl, HA, HK1, HB⟩ := hrel
  cases gk with
  | zero => exact absurd HA.out (by simp [spec_StackOk.l0])
  | succ k1 =>
   have H := HA.out
   clear HA
   simp only [spec_StackOk.l0] at H
   by_cases c3 : x6_1 < (l0.length : Int)
   ·rw [if_pos c3] at H
    have c3b0 : decide (x6_1 < (l0.length : Int)) = true := decide_eq_true c3
    clear c3
    by_cases c4 : 0 ≤ x6_1
    ·rw [if_pos c4] at H
     have c4b0 : decide (0 ≤ x6_1) = true := decide_eq_true c4
     clear c4
     by_cases c5 : (l0.length : Int) > 20
     ·rw [if_pos c5] at H
      have c5b0 : decide (20 < (l0.length : Int)) = true := decide_eq_true c5
      have c5b1 : decide (20 < l0.length) = true := decide_eq_true (by omega)
      clear c5
      obtain rfl := Option.some.inj H
      have p125 : 0 ≤ (x6_1 : Int) := of_decide_eq_true (by first | (with_reducible assumption) | assumption)
      have q125 : x6_1 < (l0.length : Int) := of_decide_eq_true (by first | (with_reducible assumption) | assumption)
      obtain ⟨ad125, e125, hx125_0, hx125_1, hx125_2, hx125_3, hx125_4, hx125_5⟩ := at_T48 HR0.out x6_1 p125 q125
      cases e125
      replace hx125_0 := (HB.out.cell (World.block_lt_of_cell? w _ hx125_0)).trans hx125_0
      replace hx125_1 := (HB.out.cell (World.block_lt_of_cell? w _ hx125_1)).trans hx125_1
      replace hx125_2 := (HB.out.cell (World.block_lt_of_cell? w _ hx125_2)).trans hx125_2
      replace hx125_3 := (HB.out.cell (World.block_lt_of_cell? w _ hx125_3)).trans hx125_3
      replace hx125_4 := (HB.out.cell (World.block_lt_of_cell? w _ hx125_4)).trans hx125_4
      replace hx125_5 := (HB.out.cell (World.block_lt_of_cell? w _ hx125_5)).trans hx125_5
      replace p125 := eq_true p125
      replace q125 := eq_true q125
      try go_wp2_with (first | ((with_reducible refine gate_dst (N := 7) rfl ?_); refine box_event ?hg (N := 7) ?hd (cs := #[.string (⟨#[]⟩ : ByteArray), .int .i64 0, .int .i64 0, .bool false, .int .i64 0, .int .i64 0]) (t := 48) ?hr ?_; (case hd => rfl); (case hg => rfl); (case hr => first | (go_simp; done) | (go_simp; rfl)); intro gb126 hg w6 hbox hb; have n0_ := Aside0.mk (below_step Sk.bl_ hb); have n1_ := Aside0.mk (hbox); have n2_ := Aside0.mk ((by rw [hg]; exact (below_size Sk.bl_) : w.heap.size ≤ gb126)); have n3_ := Aside0.mk ((by rw [hg]; exact (below_size Sk.bl_) : w.heap.size ≤ gb126)); clear HB; have HB := n0_; have BK126 := n1_; have GW126 := n2_; have GE126 := n3_; clear n0_ n1_ n2_ n3_; clear hb hbox hg; obtain ⟨hcz7_0, hcz7_1, hcz7_2, hcz7_3, hcz7_4, hcz7_5⟩ := spec_StackOk.cl6 BK126.out; obtain ⟨hfz7_0, hfz7_1, hfz7_2, hfz7_3, hfz7_4, hfz7_5⟩ := spec_StackOk.fz6 BK126.out))
      have n0_ : Aside0 (((((((w6.setCell ⟨gb126, 0, none⟩ (.string ((rd_T48 l0 x6_1).f0))).setCell ⟨gb126, 1, none⟩ (.int .i64 ((rd_T48 l0 x6_1).f1))).setCell ⟨gb126, 2, none⟩ (.int .i64 ((rd_T48 l0 x6_1).f2))).setCell ⟨gb126, 3, none⟩ (.bool ((rd_T48 l0 x6_1).f3))).setCell ⟨gb126, 4, none⟩ (.int .i64 ((rd_T48 l0 x6_1).f4))).setCell ⟨gb126, 5, none⟩ (.int .i64 ((rd_T48 l0 x6_1).f5))).heap[gb126]? = some (.cells #[.string ((rd_T48 l0 x6_1).f0), .int .i64 ((rd_T48 l0 x6_1).f1), .int .i64 ((rd_T48 l0 x6_1).f2), .bool ((rd_T48 l0 x6_1).f3), .int .i64 ((rd_T48 l0 x6_1).f4), .int .i64 ((rd_T48 l0 x6_1).f5)] 48 (0, 0))) := ⟨by (with_reducible repeat (first | refine blk_drewN ?_ _ | refine blk_drew ?_ | refine blk_alloc ?_ _)); refine blk_put (cs := #[.string ((rd_T48 l0 x6_1).f0), .int .i64 ((rd_T48 l0 x6_1).f1), .int .i64 ((rd_T48 l0 x6_1).f2), .bool ((rd_T48 l0 x6_1).f3), .int .i64 ((rd_T48 l0 x6_1).f4), .int .i64 0]) ?_ 5 _ rfl; (with_reducible repeat (first | refine blk_drewN ?_ _ | refine blk_drew ?_ | refine blk_alloc ?_ _)); refine blk_put (cs := #[.string ((rd_T48 l0 x6_1).f0), .int .i64 ((rd_T48 l0 x6_1).f1), .int .i64 ((rd_T48 l0 x6_1).f2), .bool ((rd_T48 l0 x6_1).f3), .int .i64 0, .int .i64 0]) ?_ 4 _ rfl; (with_reducible repeat (first | refine blk_drewN ?_ _ | refine blk_drew ?_ | refine blk_alloc ?_ _)); refine blk_put (cs := #[.string ((rd_T48 l0 x6_1).f0), .int .i64 ((rd_T48 l0 x6_1).f1), .int .i64 ((rd_T48 l0 x6_1).f2), .bool false, .int .i64 0, .int .i64 0]) ?_ 3 _ rfl; (with_reducible repeat (first | refine blk_drewN ?_ _ | refine blk_drew ?_ | refine blk_alloc ?_ _)); refine blk_put (cs := #[.string ((rd_T48 l0 x6_1).f0), .int .i64 ((rd_T48 l0 x6_1).f1), .int .i64 0, .bool false, .int .i64 0, .int .i64 0]) ?_ 2 _ rfl; (with_reducible repeat (first | refine blk_drewN ?_ _ | refine blk_drew ?_ | refine blk_alloc ?_ _)); refine blk_put (cs := #[.string ((rd_T48 l0 x6_1).f0), .int .i64 0, .int .i64 0, .bool false, .int .i64 0, .int .i64 0]) ?_ 1 _ rfl; (with_reducible repeat (first | refine blk_drewN ?_ _ | refine blk_drew ?_ | refine blk_alloc ?_ _)); refine blk_put (cs := #[.string (⟨#[]⟩ : ByteArray), .int .i64 0, .int .i64 0, .bool false, .int .i64 0, .int .i64 0]) ?_ 0 _ rfl; (with_reducible repeat (first | refine blk_drewN ?_ _ | refine blk_drew ?_ | refine blk_alloc ?_ _)); exact BK126.out⟩
      have n1_ : Aside0 (Below w.heap.size w ((((((w6.setCell ⟨gb126, 0, none⟩ (.string ((rd_T48 l0 x6_1).f0))).setCell ⟨gb126, 1, none⟩ (.int .i64 ((rd_T48 l0 x6_1).f1))).setCell ⟨gb126, 2, none⟩ (.int .i64 ((rd_T48 l0 x6_1).f2))).setCell ⟨gb126, 3, none⟩ (.bool ((rd_T48 l0 x6_1).f3))).setCell ⟨gb126, 4, none⟩ (.int .i64 ((rd_T48 l0 x6_1).f4))).setCell ⟨gb126, 5, none⟩ (.int .i64 ((rd_T48 l0 x6_1).f5)))) := ⟨by repeat (first | (with_reducible first | exact HB.out | apply below_alloc | apply pw_below_drewN | apply below_drew1 | refine below_set ?_ GE126.out) | exact HB.out)⟩
      (try clear BK126)
      (try clear HB)
      generalize ((((((w6.setCell ⟨gb126, 0, none⟩ (.string ((rd_T48 l0 x6_1).f0))).setCell ⟨gb126, 1, none⟩ (.int .i64 ((rd_T48 l0 x6_1).f1))).setCell ⟨gb126, 2, none⟩ (.int .i64 ((rd_T48 l0 x6_1).f2))).setCell ⟨gb126, 3, none⟩ (.bool ((rd_T48 l0 x6_1).f3))).setCell ⟨gb126, 4, none⟩ (.int .i64 ((rd_T48 l0 x6_1).f4))).setCell ⟨gb126, 5, none⟩ (.int .i64 ((rd_T48 l0 x6_1).f5))) = w8 at n0_ n1_ ⊢
      have BK126 := n0_
      have HB := n1_
      clear n0_ n1_
      have n0_ := Aside0.mk (blk_drew BK126.out)
      have n1_ := Aside0.mk (below_drew1 HB.out)
      clear BK126
      clear HB
      have BK126 := n0_
      have HB := n1_
      clear n0_ n1_
      refine start_ (n := 31) (S := fun w' => True) (ds := []) spec_StackOk.v0 (by kernel_rfl) rfl rfl trivial (fun hHeld => ?_); refine with_tabW spec_StackOk.tab6 spec_StackOk.bits6 (fun HT_ HW_ => ?_)
      generalize w8.drew = w9 at BK126 HB hHeld ⊢
      refine Sk.pq 0 18 spec_StackOk.v1 HT_.out (h := ?_)
      refine Sk.pq 1 19 spec_StackOk.v2 HT_.out (h := ?_)
      refine Sk.pq 2 20 spec_StackOk.v3 HT_.out (h := ?_)
      refine Sk.pq 3 21 spec_StackOk.v4 HT_.out (h := ?_)
      refine Sk.pu 4 22 spec_StackOk.v5 HT_.out (h := ?_)
      refine Sk.pu 5 23 spec_StackOk.v6 HT_.out (h := ?_)
      refine Sk.pu 6 24 spec_StackOk.v7 HT_.out (h := ?_)
      refine Sk.pq 7 25 spec_StackOk.v8 HT_.out (h := ?_)
      refine Sk.pq 8 26 spec_StackOk.v9 HT_.out (h := ?_)
      refine Sk.pu 9 27 spec_StackOk.v10 HT_.out (h := ?_)
      refine Sk.pu 10 28 spec_StackOk.v11 HT_.out (h := ?_)
      refine Sk.pu 11 29 spec_StackOk.v12 HT_.out (h := ?_)
      refine Sk.pu 12 30 spec_StackOk.v13 HT_.out (h := ?_)
      refine Sk.pu 13 31 spec_StackOk.v14 HT_.out (h := ?_)
      refine Sk.pu 14 32 spec_StackOk.v15 HT_.out (h := ?_)
      refine Sk.pu 15 33 spec_StackOk.v16 HT_.out (h := ?_)
      refine Sk.pu 16 34 spec_StackOk.v17 HT_.out (h := ?_)
      refine Sk.pu 17 35 spec_StackOk.v18 HT_.out (h := ?_)
      refine Sk.pu 18 36 spec_StackOk.v19 HT_.out (h := ?_)
      refine Sk.pu 19 37 spec_StackOk.v20 HT_.out (h := ?_)
      refine Sk.pu 20 38 spec_StackOk.v21 HT_.out (h := ?_)
      refine Sk.pu 21 39 spec_StackOk.v22 HT_.out (h := ?_)
      refine Sk.pq 22 40 spec_StackOk.v23 HT_.out (h := ?_)
      refine Sk.pq 23 41 spec_StackOk.v24 HT_.out (h := ?_)
      refine Sk.pu 24 42 spec_StackOk.v25 HT_.out (h := ?_)
      refine Sk.pu 25 43 spec_StackOk.v26 HT_.out (h := ?_)
      refine Sk.pu 26 44 spec_StackOk.v27 HT_.out (h := ?_)
      refine Sk.pu 27 45 spec_StackOk.v28 HT_.out (h := ?_)
      refine Sk.pu 28 46 spec_StackOk.v29 HT_.out (h := ?_)
      refine Sk.pu 29 47 spec_StackOk.v30 HT_.out (h := ?_)
      refine Sk.pq 30 48 spec_StackOk.v31 HT_.out (h := ?_)
      refine done_ (done_of HT_.out (by kernel_rfl)) ?_
      try go_wp2
      go_ret
      exact ⟨by first | rfl | (simp [errW_none, errW_some] <;> rfl) | (simp [*, errW_none, errW_some] <;> rfl), by repeat (first | (with_reducible first | exact HB.out | apply below_alloc | apply pw_below_drewN | apply below_drew1 | refine below_set ?_ GE126.out) | exact HB.out)⟩
     ·rw [if_neg c5] at H
      have c5b0 : decide (20 < (l0.length : Int)) = false := decide_eq_false c5
      have c5b1 : decide (20 < l0.length) = false := decide_eq_false (by omega)
      clear c5
      replace H := Option.bind_eq_some_iff.mp H
      obtain ⟨t127, A100, H⟩ := H
      (try dsimp only at H)
      have A10 := Aside0.mk A100
      clear A100
      by_cases c11 : t127 = true
      ·subst c11
       rw [if_pos rfl] at H
       by_cases c12 : x6_1 > 0
       ·rw [if_pos c12] at H
        have c12b0 : decide (0 < x6_1) = true := decide_eq_true c12
        clear c12
        obtain ⟨ji13, hji13⟩ : ∃ j_ : Int, (wrap64 (x6_1 - 1)) = j_ := ⟨_, rfl⟩
        replace H : (if 0 ≤ (ji13) then (if (ji13) < (l0.length : Int) then (if ((rd_T48 l0 (ji13)).f1) < ((rd_T48 l0 x6_1).f1) then (some false) else (if (rd_T48 l0 x6_1).f3 = true then (if x6_1 > 1 then (some false) else (spec_StackOk.l0 k1 l0 a1 (wrap64 (x5_1 + ((rd_T48 l0 x6_1).f1))) (wrap64 (x6_1 + 1)))) else (spec_StackOk.l0 k1 l0 a1 (wrap64 (x5_1 + ((rd_T48 l0 x6_1).f1))) (wrap64 (x6_1 + 1))))) else (none)) else (none)) = some r := by first | (rw [hji13] at H; exact H) | (simp only [hji13] at H ⊢; exact H)
        (try rw [hji13] at A10)
        have hji13w : (IntKind.i64.wrap (x6_1 - 1)) = ji13 := (i64_w _).trans hji13
        by_cases c14 : 0 ≤ (ji13)
        ·rw [if_pos c14] at H
         have c14b0 : decide (0 ≤ (ji13)) = true := decide_eq_true c14
         clear c14
         by_cases c15 : (ji13) < (l0.length : Int)
         ·rw [if_pos c15] at H
          have c15b0 : decide ((ji13) < (l0.length : Int)) = true := decide_eq_true c15
          clear c15
          by_cases c16 : ((rd_T48 l0 (ji13)).f1) < ((rd_T48 l0 x6_1).f1)
          ·rw [if_pos c16] at H
           have c16b0 : decide (((rd_T48 l0 (ji13)).f1) < ((rd_T48 l0 x6_1).f1)) = true := decide_eq_true c16
           clear c16
           obtain rfl := Option.some.inj H
           have p125 : 0 ≤ (x6_1 : Int) := of_decide_eq_true (by first | (with_reducible assumption) | assumption)
           have q125 : x6_1 < (l0.length : Int) := of_decide_eq_true (by first | (with_reducible assumption) | assumption)
           obtain ⟨ad125, e125, hx125_0, hx125_1, hx125_2, hx125_3, hx125_4, hx125_5⟩ := at_T48 HR0.out x6_1 p125 q125
           cases e125
           replace hx125_0 := (HB.out.cell (World.block_lt_of_cell? w _ hx125_0)).trans hx125_0
           replace hx125_1 := (HB.out.cell (World.block_lt_of_cell? w _ hx125_1)).trans hx125_1
           replace hx125_2 := (HB.out.cell (World.block_lt_of_cell? w _ hx125_2)).trans hx125_2
           replace hx125_3 := (HB.out.cell (World.block_lt_of_cell? w _ hx125_3)).trans hx125_3
           replace hx125_4 := (HB.out.cell (World.block_lt_of_cell? w _ hx125_4)).trans hx125_4
           replace hx125_5 := (HB.out.cell (World.block_lt_of_cell? w _ hx125_5)).trans hx125_5
           replace p125 := eq_true p125
           replace q125 := eq_true q125
           try go_wp2_with (first | ((with_reducible refine gate_dst (N := 7) rfl ?_); refine box_event ?hg (N := 7) ?hd (cs := #[.string (⟨#[]⟩ : ByteArray), .int .i64 0, .int .i64 0, .bool false, .int .i64 0, .int .i64 0]) (t := 48) ?hr ?_; (case hd => rfl); (case hg => rfl); (case hr => first | (go_simp; done) | (go_simp; rfl)); intro gb126 hg w17 hbox hb; have n0_ := Aside0.mk (below_step Sk.bl_ hb); have n1_ := Aside0.mk (hbox); have n2_ := Aside0.mk ((by rw [hg]; exact (below_size Sk.bl_) : w.heap.size ≤ gb126)); have n3_ := Aside0.mk ((by rw [hg]; exact (below_size Sk.bl_) : w.heap.size ≤ gb126)); clear HB; have HB := n0_; have BK126 := n1_; have GW126 := n2_; have GE126 := n3_; clear n0_ n1_ n2_ n3_; clear hb hbox hg; obtain ⟨hcz18_0, hcz18_1, hcz18_2, hcz18_3, hcz18_4, hcz18_5⟩ := spec_StackOk.cl6 BK126.out; obtain ⟨hfz18_0, hfz18_1, hfz18_2, hfz18_3, hfz18_4, hfz18_5⟩ := spec_StackOk.fz6 BK126.out))
           have n0_ : Aside0 (((((((w17.setCell ⟨gb126, 0, none⟩ (.string ((rd_T48 l0 x6_1).f0))).setCell ⟨gb126, 1, none⟩ (.int .i64 ((rd_T48 l0 x6_1).f1))).setCell ⟨gb126, 2, none⟩ (.int .i64 ((rd_T48 l0 x6_1).f2))).setCell ⟨gb126, 3, none⟩ (.bool ((rd_T48 l0 x6_1).f3))).setCell ⟨gb126, 4, none⟩ (.int .i64 ((rd_T48 l0 x6_1).f4))).setCell ⟨gb126, 5, none⟩ (.int .i64 ((rd_T48 l0 x6_1).f5))).heap[gb126]? = some (.cells #[.string ((rd_T48 l0 x6_1).f0), .int .i64 ((rd_T48 l0 x6_1).f1), .int .i64 ((rd_T48 l0 x6_1).f2), .bool ((rd_T48 l0 x6_1).f3), .int .i64 ((rd_T48 l0 x6_1).f4), .int .i64 ((rd_T48 l0 x6_1).f5)] 48 (0, 0))) := ⟨by (with_reducible repeat (first | refine blk_drewN ?_ _ | refine blk_drew ?_ | refine blk_alloc ?_ _)); refine blk_put (cs := #[.string ((rd_T48 l0 x6_1).f0), .int .i64 ((rd_T48 l0 x6_1).f1), .int .i64 ((rd_T48 l0 x6_1).f2), .bool ((rd_T48 l0 x6_1).f3), .int .i64 ((rd_T48 l0 x6_1).f4), .int .i64 0]) ?_ 5 _ rfl; (with_reducible repeat (first | refine blk_drewN ?_ _ | refine blk_drew ?_ | refine blk_alloc ?_ _)); refine blk_put (cs := #[.string ((rd_T48 l0 x6_1).f0), .int .i64 ((rd_T48 l0 x6_1).f1), .int .i64 ((rd_T48 l0 x6_1).f2), .bool ((rd_T48 l0 x6_1).f3), .int .i64 0, .int .i64 0]) ?_ 4 _ rfl; (with_reducible repeat (first | refine blk_drewN ?_ _ | refine blk_drew ?_ | refine blk_alloc ?_ _)); refine blk_put (cs := #[.string ((rd_T48 l0 x6_1).f0), .int .i64 ((rd_T48 l0 x6_1).f1), .int .i64 ((rd_T48 l0 x6_1).f2), .bool false, .int .i64 0, .int .i64 0]) ?_ 3 _ rfl; (with_reducible repeat (first | refine blk_drewN ?_ _ | refine blk_drew ?_ | refine blk_alloc ?_ _)); refine blk_put (cs := #[.string ((rd_T48 l0 x6_1).f0), .int .i64 ((rd_T48 l0 x6_1).f1), .int .i64 0, .bool false, .int .i64 0, .int .i64 0]) ?_ 2 _ rfl; (with_reducible repeat (first | refine blk_drewN ?_ _ | refine blk_drew ?_ | refine blk_alloc ?_ _)); refine blk_put (cs := #[.string ((rd_T48 l0 x6_1).f0), .int .i64 0, .int .i64 0, .bool false, .int .i64 0, .int .i64 0]) ?_ 1 _ rfl; (with_reducible repeat (first | refine blk_drewN ?_ _ | refine blk_drew ?_ | refine blk_alloc ?_ _)); refine blk_put (cs := #[.string (⟨#[]⟩ : ByteArray), .int .i64 0, .int .i64 0, .bool false, .int .i64 0, .int .i64 0]) ?_ 0 _ rfl; (with_reducible repeat (first | refine blk_drewN ?_ _ | refine blk_drew ?_ | refine blk_alloc ?_ _)); exact BK126.out⟩
           have n1_ : Aside0 (Below w.heap.size w ((((((w17.setCell ⟨gb126, 0, none⟩ (.string ((rd_T48 l0 x6_1).f0))).setCell ⟨gb126, 1, none⟩ (.int .i64 ((rd_T48 l0 x6_1).f1))).setCell ⟨gb126, 2, none⟩ (.int .i64 ((rd_T48 l0 x6_1).f2))).setCell ⟨gb126, 3, none⟩ (.bool ((rd_T48 l0 x6_1).f3))).setCell ⟨gb126, 4, none⟩ (.int .i64 ((rd_T48 l0 x6_1).f4))).setCell ⟨gb126, 5, none⟩ (.int .i64 ((rd_T48 l0 x6_1).f5)))) := ⟨by repeat (first | (with_reducible first | exact HB.out | apply below_alloc | apply pw_below_drewN | apply below_drew1 | refine below_set ?_ GE126.out) | exact HB.out)⟩
           (try clear BK126)
           (try clear HB)
           generalize ((((((w17.setCell ⟨gb126, 0, none⟩ (.string ((rd_T48 l0 x6_1).f0))).setCell ⟨gb126, 1, none⟩ (.int .i64 ((rd_T48 l0 x6_1).f1))).setCell ⟨gb126, 2, none⟩ (.int .i64 ((rd_T48 l0 x6_1).f2))).setCell ⟨gb126, 3, none⟩ (.bool ((rd_T48 l0 x6_1).f3))).setCell ⟨gb126, 4, none⟩ (.int .i64 ((rd_T48 l0 x6_1).f4))).setCell ⟨gb126, 5, none⟩ (.int .i64 ((rd_T48 l0 x6_1).f5))) = w19 at n0_ n1_ ⊢
           have BK126 := n0_
           have HB := n1_
           clear n0_ n1_
           have n0_ := Aside0.mk (blk_drew BK126.out)
           have n1_ := Aside0.mk (below_drew1 HB.out)
           clear BK126
           clear HB
           have BK126 := n0_
           have HB := n1_
           clear n0_ n1_
           have p128 : 0 ≤ ((ji13) : Int) := of_decide_eq_true (by first | (with_reducible assumption) | assumption)
           have q128 : (ji13) < (l0.length : Int) := of_decide_eq_true (by first | (with_reducible assumption) | assumption)
           obtain ⟨ad128, e128, hx128_0, hx128_1, hx128_2, hx128_3, hx128_4, hx128_5⟩ := at_T48 HR0.out (ji13) p128 q128
           have hw128_5 := hx128_5
           have hw128_4 := hx128_4
           have hw128_3 := hx128_3
           have hw128_2 := hx128_2
           have hw128_1 := hx128_1
           have hw128_0 := hx128_0
           obtain rfl : ad125 = ad128 := (by injection e128)
           replace hx128_0 := (HB.out.cell (World.block_lt_of_cell? w _ hx128_0)).trans hx128_0
           replace hx128_1 := (HB.out.cell (World.block_lt_of_cell? w _ hx128_1)).trans hx128_1
           replace hx128_2 := (HB.out.cell (World.block_lt_of_cell? w _ hx128_2)).trans hx128_2
           replace hx128_3 := (HB.out.cell (World.block_lt_of_cell? w _ hx128_3)).trans hx128_3
           replace hx128_4 := (HB.out.cell (World.block_lt_of_cell? w _ hx128_4)).trans hx128_4
           replace hx128_5 := (HB.out.cell (World.block_lt_of_cell? w _ hx128_5)).trans hx128_5
           replace p128 := eq_true p128
           replace q128 := eq_true q128
           refine start_ (n := 31) (S := fun w' => w'.cell? ⟨gb126, 0, none⟩ = some (.string ((rd_T48 l0 x6_1).f0)) ∧ w'.cell? ⟨gb126, 1, none⟩ = some (.int .i64 ((rd_T48 l0 x6_1).f1)) ∧ w'.cell? ⟨gb126, 2, none⟩ = some (.int .i64 ((rd_T48 l0 x6_1).f2)) ∧ w'.cell? ⟨gb126, 3, none⟩ = some (.bool ((rd_T48 l0 x6_1).f3)) ∧ w'.cell? ⟨gb126, 4, none⟩ = some (.int .i64 ((rd_T48 l0 x6_1).f4)) ∧ w'.cell? ⟨gb126, 5, none⟩ = some (.int .i64 ((rd_T48 l0 x6_1).f5)) ∧ w'.cell? (ad125.add (((ji13)).toNat * 6)) = some (.string ((rd_T48 l0 (ji13)).f0)) ∧ w'.cell? ⟨(ad125.add (((ji13)).toNat * 6)).block, (ad125.add (((ji13)).toNat * 6)).off + 1, none⟩ = some (.int .i64 ((rd_T48 l0 (ji13)).f1)) ∧ w'.cell? ⟨(ad125.add (((ji13)).toNat * 6)).block, (ad125.add (((ji13)).toNat * 6)).off + 2, none⟩ = some (.int .i64 ((rd_T48 l0 (ji13)).f2)) ∧ w'.cell? ⟨(ad125.add (((ji13)).toNat * 6)).block, (ad125.add (((ji13)).toNat * 6)).off + 3, none⟩ = some (.bool ((rd_T48 l0 (ji13)).f3)) ∧ w'.cell? ⟨(ad125.add (((ji13)).toNat * 6)).block, (ad125.add (((ji13)).toNat * 6)).off + 4, none⟩ = some (.int .i64 ((rd_T48 l0 (ji13)).f4)) ∧ w'.cell? ⟨(ad125.add (((ji13)).toNat * 6)).block, (ad125.add (((ji13)).toNat * 6)).off + 5, none⟩ = some (.int .i64 ((rd_T48 l0 (ji13)).f5))) (ds := []) spec_StackOk.v0 (by kernel_rfl) rfl rfl ⟨(blk_cell BK126.out 0).trans rfl, (blk_cell BK126.out 1).trans rfl, (blk_cell BK126.out 2).trans rfl, (blk_cell BK126.out 3).trans rfl, (blk_cell BK126.out 4).trans rfl, (blk_cell BK126.out 5).trans rfl, ((HB.out.cell (World.block_lt_of_cell? w _ hw128_0)).trans hw128_0), ((HB.out.cell (World.block_lt_of_cell? w _ hw128_1)).trans hw128_1), ((HB.out.cell (World.block_lt_of_cell? w _ hw128_2)).trans hw128_2), ((HB.out.cell (World.block_lt_of_cell? w _ hw128_3)).trans hw128_3), ((HB.out.cell (World.block_lt_of_cell? w _ hw128_4)).trans hw128_4), ((HB.out.cell (World.block_lt_of_cell? w _ hw128_5)).trans hw128_5)⟩ (fun hHeld => ?_); refine with_tabW spec_StackOk.tab6 spec_StackOk.bits6 (fun HT_ HW_ => ?_)
           generalize w19.drew = w20 at BK126 HB hx128_0 hx128_1 hx128_2 hx128_3 hx128_4 hx128_5 hHeld ⊢
           refine Sk.pq 0 18 spec_StackOk.v1 HT_.out (h := ?_)
           refine Sk.pq 1 19 spec_StackOk.v2 HT_.out (h := ?_)
           refine Sk.pq 2 20 spec_StackOk.v3 HT_.out (h := ?_)
           refine Sk.pq 3 21 spec_StackOk.v4 HT_.out (h := ?_)
           refine Sk.tk12 4 22 spec_StackOk.v5 HT_.out HW_.out hHeld (h := ?_)
           refine one_ (i := 5) (N := some 23) spec_StackOk.v6 rfl rfl (one_of HT_.out (by kernel_rfl)) (by decide) (fun K hK => ?_)
           refine goes_ Try.func38 (by kernel_rfl) rfl #[.agg #[.string ((rd_T48 l0 x6_1).f0), .int .i64 ((rd_T48 l0 x6_1).f1), .int .i64 ((rd_T48 l0 x6_1).f2), .bool ((rd_T48 l0 x6_1).f3), .int .i64 ((rd_T48 l0 x6_1).f4), .int .i64 ((rd_T48 l0 x6_1).f5)]] (by rfl) rfl rfl (by (try simp only [List.map_toArray, List.map_cons, List.map_nil]); first | done | rfl | (simp only [List.length_drop, List.length_take]; rfl)) ?_
           with_reducible refine (spec_BoxOk.calls k1 ((rd_T48 l0 x6_1).f0) ((rd_T48 l0 x6_1).f1) ((rd_T48 l0 x6_1).f2) ((rd_T48 l0 x6_1).f3) ((rd_T48 l0 x6_1).f4) ((rd_T48 l0 x6_1).f5) true _ (by first | exact A10.out | (have h_ := A10.out; (try rw [← Nbq22.out] at h_); (try rw [← Nbq42.out] at h_); exact h_))).mono ?_
           rintro e w21 ⟨rfl, hb⟩
           refine ⟨_, rfl, ?_⟩
           have n0_ := Aside0.mk (blk_below (g := gb126) (by (with_reducible repeat (first | refine blk_drewN ?_ _ | refine blk_drew ?_ | refine blk_alloc ?_ _)); exact BK126.out) hb)
           have n1_ := Aside0.mk (below_step (by repeat (first | (with_reducible first | exact HB.out | apply below_alloc | apply pw_below_drewN | apply below_drew1 | refine below_set ?_ GE126.out) | exact HB.out)) hb)
           clear BK126
           clear HB
           have BK126 := n0_
           have HB := n1_
           clear n0_ n1_
           (try clear hb)
           refine hK.out _ _ ⟨(blk_cell BK126.out 0).trans rfl, (blk_cell BK126.out 1).trans rfl, (blk_cell BK126.out 2).trans rfl, (blk_cell BK126.out 3).trans rfl, (blk_cell BK126.out 4).trans rfl, (blk_cell BK126.out 5).trans rfl, ((HB.out.cell (World.block_lt_of_cell? w _ hw128_0)).trans hw128_0), ((HB.out.cell (World.block_lt_of_cell? w _ hw128_1)).trans hw128_1), ((HB.out.cell (World.block_lt_of_cell? w _ hw128_2)).trans hw128_2), ((HB.out.cell (World.block_lt_of_cell? w _ hw128_3)).trans hw128_3), ((HB.out.cell (World.block_lt_of_cell? w _ hw128_4)).trans hw128_4), ((HB.out.cell (World.block_lt_of_cell? w _ hw128_5)).trans hw128_5)⟩ (fun hHeld => ?_)
           clear hK K
           refine Sk.nm 23 (h := ?_)
           refine Sk.pq 6 24 spec_StackOk.v7 HT_.out (h := ?_)
           refine Sk.pq 7 25 spec_StackOk.v8 HT_.out (h := ?_)
           refine Sk.pq 8 26 spec_StackOk.v9 HT_.out (h := ?_)
           refine Sk.pq 9 27 spec_StackOk.v10 HT_.out (h := ?_)
           refine Sk.pq 10 28 spec_StackOk.v11 HT_.out (h := ?_)
           refine Sk.pq 11 29 spec_StackOk.v12 HT_.out (h := ?_)
           refine Sk.pq 12 30 spec_StackOk.v13 HT_.out (h := ?_)
           refine Sk.pq 13 31 spec_StackOk.v14 HT_.out (h := ?_)
           refine Sk.pq 14 32 spec_StackOk.v15 HT_.out (h := ?_)
           refine Sk.pq 15 33 spec_StackOk.v16 HT_.out (h := ?_)
           refine Sk.pq 16 34 spec_StackOk.v17 HT_.out (h := ?_)
           refine Sk.pq 18 36 spec_StackOk.v32 HT_.out (h := ?_)
           refine Sk.tk12 17 35 spec_StackOk.v19 HT_.out HW_.out hHeld (h := ?_)
           refine Sk.tk12 19 37 spec_StackOk.v20 HT_.out HW_.out hHeld (h := ?_)
           refine Sk.pq 20 38 spec_StackOk.v21 HT_.out (h := ?_)
           refine Sk.pq 21 39 spec_StackOk.v22 HT_.out (h := ?_)
           refine Sk.pq 22 40 spec_StackOk.v23 HT_.out (h := ?_)
           refine Sk.pq 23 41 spec_StackOk.v24 HT_.out (h := ?_)
           refine Sk.pu 24 42 spec_StackOk.v25 HT_.out (h := ?_)
           refine Sk.pu 25 43 spec_StackOk.v26 HT_.out (h := ?_)
           refine Sk.pu 26 44 spec_StackOk.v27 HT_.out (h := ?_)
           refine Sk.pu 27 45 spec_StackOk.v28 HT_.out (h := ?_)
           refine Sk.pu 28 46 spec_StackOk.v29 HT_.out (h := ?_)
           refine Sk.pu 29 47 spec_StackOk.v30 HT_.out (h := ?_)
           refine Sk.pq 30 48 spec_StackOk.v31 HT_.out (h := ?_)
           refine done_ (done_of HT_.out (by kernel_rfl)) ?_
           try go_wp2
           go_ret
           exact ⟨by first | rfl | (simp [errW_none, errW_some] <;> rfl) | (simp only [← hji13]; first | rfl | (simp [errW_none, errW_some] <;> rfl)) | (simp [*, errW_none, errW_some] <;> rfl), by repeat (first | (with_reducible first | exact HB.out | apply below_alloc | apply pw_below_drewN | apply below_drew1 | refine below_set ?_ GE126.out) | exact HB.out)⟩
          ·rw [if_neg c16] at H
           have c16b0 : decide (((rd_T48 l0 (ji13)).f1) < ((rd_T48 l0 x6_1).f1)) = false := decide_eq_false c16
           clear c16
           obtain ⟨bq22, hbq22⟩ : ∃ b_ : Bool, b_ = ((rd_T48 l0 x6_1).f3) := ⟨_, rfl⟩
           replace H : (if bq22 = true then (if x6_1 > 1 then (some false) else (spec_StackOk.l0 k1 l0 a1 (wrap64 (x5_1 + ((rd_T48 l0 x6_1).f1))) (wrap64 (x6_1 + 1)))) else (spec_StackOk.l0 k1 l0 a1 (wrap64 (x5_1 + ((rd_T48 l0 x6_1).f1))) (wrap64 (x6_1 + 1)))) = some r := by rw [← hbq22] at H; exact H
           have Nbq22 := Aside0.mk hbq22
           clear hbq22
           by_cases c23 : bq22 = true
           ·subst c23
            rw [if_pos rfl] at H
            by_cases c24 : x6_1 > 1
            ·rw [if_pos c24] at H
             have c24b0 : decide (1 < x6_1) = true := decide_eq_true c24
             clear c24
             obtain rfl := Option.some.inj H
             have p125 : 0 ≤ (x6_1 : Int) := of_decide_eq_true (by first | (with_reducible assumption) | assumption)
             have q125 : x6_1 < (l0.length : Int) := of_decide_eq_true (by first | (with_reducible assumption) | assumption)
             obtain ⟨ad125, e125, hx125_0, hx125_1, hx125_2, hx125_3, hx125_4, hx125_5⟩ := at_T48 HR0.out x6_1 p125 q125
             (try rw [← Nbq22.out] at hx125_3)
             cases e125
             replace hx125_0 := (HB.out.cell (World.block_lt_of_cell? w _ hx125_0)).trans hx125_0
             replace hx125_1 := (HB.out.cell (World.block_lt_of_cell? w _ hx125_1)).trans hx125_1
             replace hx125_2 := (HB.out.cell (World.block_lt_of_cell? w _ hx125_2)).trans hx125_2
             replace hx125_3 := (HB.out.cell (World.block_lt_of_cell? w _ hx125_3)).trans hx125_3
             replace hx125_4 := (HB.out.cell (World.block_lt_of_cell? w _ hx125_4)).trans hx125_4
             replace hx125_5 := (HB.out.cell (World.block_lt_of_cell? w _ hx125_5)).trans hx125_5
             replace p125 := eq_true p125
             replace q125 := eq_true q125
             try go_wp2_with (first | ((with_reducible refine gate_dst (N := 7) rfl ?_); refine box_event ?hg (N := 7) ?hd (cs := #[.string (⟨#[]⟩ : ByteArray), .int .i64 0, .int .i64 0, .bool false, .int .i64 0, .int .i64 0]) (t := 48) ?hr ?_; (case hd => rfl); (case hg => rfl); (case hr => first | (go_simp; done) | (go_simp; rfl)); intro gb126 hg w25 hbox hb; have n0_ := Aside0.mk (below_step Sk.bl_ hb); have n1_ := Aside0.mk (hbox); have n2_ := Aside0.mk ((by rw [hg]; exact (below_size Sk.bl_) : w.heap.size ≤ gb126)); have n3_ := Aside0.mk ((by rw [hg]; exact (below_size Sk.bl_) : w.heap.size ≤ gb126)); clear HB; have HB := n0_; have BK126 := n1_; have GW126 := n2_; have GE126 := n3_; clear n0_ n1_ n2_ n3_; clear hb hbox hg; obtain ⟨hcz26_0, hcz26_1, hcz26_2, hcz26_3, hcz26_4, hcz26_5⟩ := spec_StackOk.cl6 BK126.out; obtain ⟨hfz26_0, hfz26_1, hfz26_2, hfz26_3, hfz26_4, hfz26_5⟩ := spec_StackOk.fz6 BK126.out))
             have n0_ : Aside0 (((((((w25.setCell ⟨gb126, 0, none⟩ (.string ((rd_T48 l0 x6_1).f0))).setCell ⟨gb126, 1, none⟩ (.int .i64 ((rd_T48 l0 x6_1).f1))).setCell ⟨gb126, 2, none⟩ (.int .i64 ((rd_T48 l0 x6_1).f2))).setCell ⟨gb126, 3, none⟩ (.bool true)).setCell ⟨gb126, 4, none⟩ (.int .i64 ((rd_T48 l0 x6_1).f4))).setCell ⟨gb126, 5, none⟩ (.int .i64 ((rd_T48 l0 x6_1).f5))).heap[gb126]? = some (.cells #[.string ((rd_T48 l0 x6_1).f0), .int .i64 ((rd_T48 l0 x6_1).f1), .int .i64 ((rd_T48 l0 x6_1).f2), .bool true, .int .i64 ((rd_T48 l0 x6_1).f4), .int .i64 ((rd_T48 l0 x6_1).f5)] 48 (0, 0))) := ⟨by (with_reducible repeat (first | refine blk_drewN ?_ _ | refine blk_drew ?_ | refine blk_alloc ?_ _)); refine blk_put (cs := #[.string ((rd_T48 l0 x6_1).f0), .int .i64 ((rd_T48 l0 x6_1).f1), .int .i64 ((rd_T48 l0 x6_1).f2), .bool true, .int .i64 ((rd_T48 l0 x6_1).f4), .int .i64 0]) ?_ 5 _ rfl; (with_reducible repeat (first | refine blk_drewN ?_ _ | refine blk_drew ?_ | refine blk_alloc ?_ _)); refine blk_put (cs := #[.string ((rd_T48 l0 x6_1).f0), .int .i64 ((rd_T48 l0 x6_1).f1), .int .i64 ((rd_T48 l0 x6_1).f2), .bool true, .int .i64 0, .int .i64 0]) ?_ 4 _ rfl; (with_reducible repeat (first | refine blk_drewN ?_ _ | refine blk_drew ?_ | refine blk_alloc ?_ _)); refine blk_put (cs := #[.string ((rd_T48 l0 x6_1).f0), .int .i64 ((rd_T48 l0 x6_1).f1), .int .i64 ((rd_T48 l0 x6_1).f2), .bool false, .int .i64 0, .int .i64 0]) ?_ 3 _ rfl; (with_reducible repeat (first | refine blk_drewN ?_ _ | refine blk_drew ?_ | refine blk_alloc ?_ _)); refine blk_put (cs := #[.string ((rd_T48 l0 x6_1).f0), .int .i64 ((rd_T48 l0 x6_1).f1), .int .i64 0, .bool false, .int .i64 0, .int .i64 0]) ?_ 2 _ rfl; (with_reducible repeat (first | refine blk_drewN ?_ _ | refine blk_drew ?_ | refine blk_alloc ?_ _)); refine blk_put (cs := #[.string ((rd_T48 l0 x6_1).f0), .int .i64 0, .int .i64 0, .bool false, .int .i64 0, .int .i64 0]) ?_ 1 _ rfl; (with_reducible repeat (first | refine blk_drewN ?_ _ | refine blk_drew ?_ | refine blk_alloc ?_ _)); refine blk_put (cs := #[.string (⟨#[]⟩ : ByteArray), .int .i64 0, .int .i64 0, .bool false, .int .i64 0, .int .i64 0]) ?_ 0 _ rfl; (with_reducible repeat (first | refine blk_drewN ?_ _ | refine blk_drew ?_ | refine blk_alloc ?_ _)); exact BK126.out⟩
             have n1_ : Aside0 (Below w.heap.size w ((((((w25.setCell ⟨gb126, 0, none⟩ (.string ((rd_T48 l0 x6_1).f0))).setCell ⟨gb126, 1, none⟩ (.int .i64 ((rd_T48 l0 x6_1).f1))).setCell ⟨gb126, 2, none⟩ (.int .i64 ((rd_T48 l0 x6_1).f2))).setCell ⟨gb126, 3, none⟩ (.bool true)).setCell ⟨gb126, 4, none⟩ (.int .i64 ((rd_T48 l0 x6_1).f4))).setCell ⟨gb126, 5, none⟩ (.int .i64 ((rd_T48 l0 x6_1).f5)))) := ⟨by repeat (first | (with_reducible first | exact HB.out | apply below_alloc | apply pw_below_drewN | apply below_drew1 | refine below_set ?_ GE126.out) | exact HB.out)⟩
             (try clear BK126)
             (try clear HB)
             generalize ((((((w25.setCell ⟨gb126, 0, none⟩ (.string ((rd_T48 l0 x6_1).f0))).setCell ⟨gb126, 1, none⟩ (.int .i64 ((rd_T48 l0 x6_1).f1))).setCell ⟨gb126, 2, none⟩ (.int .i64 ((rd_T48 l0 x6_1).f2))).setCell ⟨gb126, 3, none⟩ (.bool true)).setCell ⟨gb126, 4, none⟩ (.int .i64 ((rd_T48 l0 x6_1).f4))).setCell ⟨gb126, 5, none⟩ (.int .i64 ((rd_T48 l0 x6_1).f5))) = w27 at n0_ n1_ ⊢
             have BK126 := n0_
             have HB := n1_
             clear n0_ n1_
             have n0_ := Aside0.mk (blk_drew BK126.out)
             have n1_ := Aside0.mk (below_drew1 HB.out)
             clear BK126
             clear HB
             have BK126 := n0_
             have HB := n1_
             clear n0_ n1_
             have p128 : 0 ≤ ((ji13) : Int) := of_decide_eq_true (by first | (with_reducible assumption) | assumption)
             have q128 : (ji13) < (l0.length : Int) := of_decide_eq_true (by first | (with_reducible assumption) | assumption)
             obtain ⟨ad128, e128, hx128_0, hx128_1, hx128_2, hx128_3, hx128_4, hx128_5⟩ := at_T48 HR0.out (ji13) p128 q128
             have hw128_5 := hx128_5
             have hw128_4 := hx128_4
             have hw128_3 := hx128_3
             have hw128_2 := hx128_2
             have hw128_1 := hx128_1
             have hw128_0 := hx128_0
             (try rw [← Nbq22.out] at hx128_3)
             obtain rfl : ad125 = ad128 := (by injection e128)
             replace hx128_0 := (HB.out.cell (World.block_lt_of_cell? w _ hx128_0)).trans hx128_0
             replace hx128_1 := (HB.out.cell (World.block_lt_of_cell? w _ hx128_1)).trans hx128_1
             replace hx128_2 := (HB.out.cell (World.block_lt_of_cell? w _ hx128_2)).trans hx128_2
             replace hx128_3 := (HB.out.cell (World.block_lt_of_cell? w _ hx128_3)).trans hx128_3
             replace hx128_4 := (HB.out.cell (World.block_lt_of_cell? w _ hx128_4)).trans hx128_4
             replace hx128_5 := (HB.out.cell (World.block_lt_of_cell? w _ hx128_5)).trans hx128_5
             replace p128 := eq_true p128
             replace q128 := eq_true q128
             refine start_ (n := 31) (S := fun w' => w'.cell? ⟨gb126, 0, none⟩ = some (.string ((rd_T48 l0 x6_1).f0)) ∧ w'.cell? ⟨gb126, 1, none⟩ = some (.int .i64 ((rd_T48 l0 x6_1).f1)) ∧ w'.cell? ⟨gb126, 2, none⟩ = some (.int .i64 ((rd_T48 l0 x6_1).f2)) ∧ w'.cell? ⟨gb126, 3, none⟩ = some (.bool true) ∧ w'.cell? ⟨gb126, 4, none⟩ = some (.int .i64 ((rd_T48 l0 x6_1).f4)) ∧ w'.cell? ⟨gb126, 5, none⟩ = some (.int .i64 ((rd_T48 l0 x6_1).f5)) ∧ w'.cell? (ad125.add (((ji13)).toNat * 6)) = some (.string ((rd_T48 l0 (ji13)).f0)) ∧ w'.cell? ⟨(ad125.add (((ji13)).toNat * 6)).block, (ad125.add (((ji13)).toNat * 6)).off + 1, none⟩ = some (.int .i64 ((rd_T48 l0 (ji13)).f1)) ∧ w'.cell? ⟨(ad125.add (((ji13)).toNat * 6)).block, (ad125.add (((ji13)).toNat * 6)).off + 2, none⟩ = some (.int .i64 ((rd_T48 l0 (ji13)).f2)) ∧ w'.cell? ⟨(ad125.add (((ji13)).toNat * 6)).block, (ad125.add (((ji13)).toNat * 6)).off + 3, none⟩ = some (.bool ((rd_T48 l0 (ji13)).f3)) ∧ w'.cell? ⟨(ad125.add (((ji13)).toNat * 6)).block, (ad125.add (((ji13)).toNat * 6)).off + 4, none⟩ = some (.int .i64 ((rd_T48 l0 (ji13)).f4)) ∧ w'.cell? ⟨(ad125.add (((ji13)).toNat * 6)).block, (ad125.add (((ji13)).toNat * 6)).off + 5, none⟩ = some (.int .i64 ((rd_T48 l0 (ji13)).f5))) (ds := []) spec_StackOk.v0 (by kernel_rfl) rfl rfl ⟨(blk_cell BK126.out 0).trans rfl, (blk_cell BK126.out 1).trans rfl, (blk_cell BK126.out 2).trans rfl, (blk_cell BK126.out 3).trans rfl, (blk_cell BK126.out 4).trans rfl, (blk_cell BK126.out 5).trans rfl, ((HB.out.cell (World.block_lt_of_cell? w _ hw128_0)).trans hw128_0), ((HB.out.cell (World.block_lt_of_cell? w _ hw128_1)).trans hw128_1), ((HB.out.cell (World.block_lt_of_cell? w _ hw128_2)).trans hw128_2), ((HB.out.cell (World.block_lt_of_cell? w _ hw128_3)).trans hw128_3), ((HB.out.cell (World.block_lt_of_cell? w _ hw128_4)).trans hw128_4), ((HB.out.cell (World.block_lt_of_cell? w _ hw128_5)).trans hw128_5)⟩ (fun hHeld => ?_); refine with_tabW spec_StackOk.tab6 spec_StackOk.bits6 (fun HT_ HW_ => ?_)
             generalize w27.drew = w28 at BK126 HB hx128_0 hx128_1 hx128_2 hx128_3 hx128_4 hx128_5 hHeld ⊢
             refine Sk.pq 0 18 spec_StackOk.v1 HT_.out (h := ?_)
             refine Sk.pq 1 19 spec_StackOk.v2 HT_.out (h := ?_)
             refine Sk.pq 2 20 spec_StackOk.v3 HT_.out (h := ?_)
             refine Sk.pq 3 21 spec_StackOk.v4 HT_.out (h := ?_)
             refine Sk.tk12 4 22 spec_StackOk.v5 HT_.out HW_.out hHeld (h := ?_)
             refine one_ (i := 5) (N := some 23) spec_StackOk.v6 rfl rfl (one_of HT_.out (by kernel_rfl)) (by decide) (fun K hK => ?_)
             refine goes_ Try.func38 (by kernel_rfl) rfl #[.agg #[.string ((rd_T48 l0 x6_1).f0), .int .i64 ((rd_T48 l0 x6_1).f1), .int .i64 ((rd_T48 l0 x6_1).f2), .bool true, .int .i64 ((rd_T48 l0 x6_1).f4), .int .i64 ((rd_T48 l0 x6_1).f5)]] (by rfl) rfl rfl (by (try simp only [List.map_toArray, List.map_cons, List.map_nil]); first | done | rfl | (simp only [List.length_drop, List.length_take]; rfl)) ?_
             with_reducible refine (spec_BoxOk.calls k1 ((rd_T48 l0 x6_1).f0) ((rd_T48 l0 x6_1).f1) ((rd_T48 l0 x6_1).f2) true ((rd_T48 l0 x6_1).f4) ((rd_T48 l0 x6_1).f5) true _ (by first | exact A10.out | (have h_ := A10.out; (try rw [← Nbq22.out] at h_); (try rw [← Nbq42.out] at h_); exact h_))).mono ?_
             rintro e w29 ⟨rfl, hb⟩
             refine ⟨_, rfl, ?_⟩
             have n0_ := Aside0.mk (blk_below (g := gb126) (by (with_reducible repeat (first | refine blk_drewN ?_ _ | refine blk_drew ?_ | refine blk_alloc ?_ _)); exact BK126.out) hb)
             have n1_ := Aside0.mk (below_step (by repeat (first | (with_reducible first | exact HB.out | apply below_alloc | apply pw_below_drewN | apply below_drew1 | refine below_set ?_ GE126.out) | exact HB.out)) hb)
             clear BK126
             clear HB
             have BK126 := n0_
             have HB := n1_
             clear n0_ n1_
             (try clear hb)
             refine hK.out _ _ ⟨(blk_cell BK126.out 0).trans rfl, (blk_cell BK126.out 1).trans rfl, (blk_cell BK126.out 2).trans rfl, (blk_cell BK126.out 3).trans rfl, (blk_cell BK126.out 4).trans rfl, (blk_cell BK126.out 5).trans rfl, ((HB.out.cell (World.block_lt_of_cell? w _ hw128_0)).trans hw128_0), ((HB.out.cell (World.block_lt_of_cell? w _ hw128_1)).trans hw128_1), ((HB.out.cell (World.block_lt_of_cell? w _ hw128_2)).trans hw128_2), ((HB.out.cell (World.block_lt_of_cell? w _ hw128_3)).trans hw128_3), ((HB.out.cell (World.block_lt_of_cell? w _ hw128_4)).trans hw128_4), ((HB.out.cell (World.block_lt_of_cell? w _ hw128_5)).trans hw128_5)⟩ (fun hHeld => ?_)
             clear hK K
             refine Sk.nm 23 (h := ?_)
             refine Sk.pq 6 24 spec_StackOk.v7 HT_.out (h := ?_)
             refine Sk.pq 7 25 spec_StackOk.v8 HT_.out (h := ?_)
             refine Sk.pq 8 26 spec_StackOk.v9 HT_.out (h := ?_)
             refine Sk.pq 9 27 spec_StackOk.v10 HT_.out (h := ?_)
             refine Sk.pq 10 28 spec_StackOk.v11 HT_.out (h := ?_)
             refine Sk.pq 11 29 spec_StackOk.v12 HT_.out (h := ?_)
             refine Sk.pq 12 30 spec_StackOk.v13 HT_.out (h := ?_)
             refine Sk.pq 13 31 spec_StackOk.v14 HT_.out (h := ?_)
             refine Sk.pq 14 32 spec_StackOk.v15 HT_.out (h := ?_)
             refine Sk.pq 15 33 spec_StackOk.v16 HT_.out (h := ?_)
             refine Sk.pq 16 34 spec_StackOk.v17 HT_.out (h := ?_)
             refine Sk.pq 18 36 spec_StackOk.v32 HT_.out (h := ?_)
             refine Sk.tk12 17 35 spec_StackOk.v19 HT_.out HW_.out hHeld (h := ?_)
             refine Sk.tk12 19 37 spec_StackOk.v20 HT_.out HW_.out hHeld (h := ?_)
             refine Sk.pq 20 38 spec_StackOk.v21 HT_.out (h := ?_)
             refine Sk.pq 21 39 spec_StackOk.v22 HT_.out (h := ?_)
             refine Sk.pq 22 40 spec_StackOk.v23 HT_.out (h := ?_)
             refine Sk.pq 23 41 spec_StackOk.v24 HT_.out (h := ?_)
             refine Sk.pq 24 42 spec_StackOk.v25 HT_.out (h := ?_)
             refine Sk.tk12 25 43 spec_StackOk.v26 HT_.out HW_.out hHeld (h := ?_)
             refine Sk.pq 26 44 spec_StackOk.v27 HT_.out (h := ?_)
             refine Sk.pq 27 45 spec_StackOk.v28 HT_.out (h := ?_)
             refine Sk.pq 28 46 spec_StackOk.v29 HT_.out (h := ?_)
             refine Sk.pq 29 47 spec_StackOk.v30 HT_.out (h := ?_)
             refine Sk.pq 30 48 spec_StackOk.v31 HT_.out (h := ?_)
             refine done_ (done_of HT_.out (by kernel_rfl)) ?_
             try go_wp2
             go_ret
             exact ⟨by first | rfl | (simp [errW_none, errW_some] <;> rfl) | (simp only [← hji13]; first | rfl | (simp [errW_none, errW_some] <;> rfl)) | (simp [*, errW_none, errW_some] <;> rfl), by repeat (first | (with_reducible first | exact HB.out | apply below_alloc | apply pw_below_drewN | apply below_drew1 | refine below_set ?_ GE126.out) | exact HB.out)⟩
            ·rw [if_neg c24] at H
             have c24b0 : decide (1 < x6_1) = false := decide_eq_false c24
             clear c24
             have H' := Aside0.mk H
             clear H
             have p125 : 0 ≤ (x6_1 : Int) := of_decide_eq_true (by first | (with_reducible assumption) | assumption)
             have q125 : x6_1 < (l0.length : Int) := of_decide_eq_true (by first | (with_reducible assumption) | assumption)
             obtain ⟨ad125, e125, hx125_0, hx125_1, hx125_2, hx125_3, hx125_4, hx125_5⟩ := at_T48 HR0.out x6_1 p125 q125
             (try rw [← Nbq22.out] at hx125_3)
             cases e125
             replace hx125_0 := (HB.out.cell (World.block_lt_of_cell? w _ hx125_0)).trans hx125_0
             replace hx125_1 := (HB.out.cell (World.block_lt_of_cell? w _ hx125_1)).trans hx125_1
             replace hx125_2 := (HB.out.cell (World.block_lt_of_cell? w _ hx125_2)).trans hx125_2
             replace hx125_3 := (HB.out.cell (World.block_lt_of_cell? w _ hx125_3)).trans hx125_3
             replace hx125_4 := (HB.out.cell (World.block_lt_of_cell? w _ hx125_4)).trans hx125_4
             replace hx125_5 := (HB.out.cell (World.block_lt_of_cell? w _ hx125_5)).trans hx125_5
             replace p125 := eq_true p125
             replace q125 := eq_true q125
             try go_wp2_with (first | ((with_reducible refine gate_dst (N := 7) rfl ?_); refine box_event ?hg (N := 7) ?hd (cs := #[.string (⟨#[]⟩ : ByteArray), .int .i64 0, .int .i64 0, .bool false, .int .i64 0, .int .i64 0]) (t := 48) ?hr ?_; (case hd => rfl); (case hg => rfl); (case hr => first | (go_simp; done) | (go_simp; rfl)); intro gb126 hg w30 hbox hb; have n0_ := Aside0.mk (below_step Sk.bl_ hb); have n1_ := Aside0.mk (hbox); have n2_ := Aside0.mk ((by rw [hg]; exact (below_size Sk.bl_) : w.heap.size ≤ gb126)); have n3_ := Aside0.mk ((by rw [hg]; exact (below_size Sk.bl_) : w.heap.size ≤ gb126)); clear HB; have HB := n0_; have BK126 := n1_; have GW126 := n2_; have GE126 := n3_; clear n0_ n1_ n2_ n3_; clear hb hbox hg; obtain ⟨hcz31_0, hcz31_1, hcz31_2, hcz31_3, hcz31_4, hcz31_5⟩ := spec_StackOk.cl6 BK126.out; obtain ⟨hfz31_0, hfz31_1, hfz31_2, hfz31_3, hfz31_4, hfz31_5⟩ := spec_StackOk.fz6 BK126.out))
             have n0_ : Aside0 (((((((w30.setCell ⟨gb126, 0, none⟩ (.string ((rd_T48 l0 x6_1).f0))).setCell ⟨gb126, 1, none⟩ (.int .i64 ((rd_T48 l0 x6_1).f1))).setCell ⟨gb126, 2, none⟩ (.int .i64 ((rd_T48 l0 x6_1).f2))).setCell ⟨gb126, 3, none⟩ (.bool true)).setCell ⟨gb126, 4, none⟩ (.int .i64 ((rd_T48 l0 x6_1).f4))).setCell ⟨gb126, 5, none⟩ (.int .i64 ((rd_T48 l0 x6_1).f5))).heap[gb126]? = some (.cells #[.string ((rd_T48 l0 x6_1).f0), .int .i64 ((rd_T48 l0 x6_1).f1), .int .i64 ((rd_T48 l0 x6_1).f2), .bool true, .int .i64 ((rd_T48 l0 x6_1).f4), .int .i64 ((rd_T48 l0 x6_1).f5)] 48 (0, 0))) := ⟨by (with_reducible repeat (first | refine blk_drewN ?_ _ | refine blk_drew ?_ | refine blk_alloc ?_ _)); refine blk_put (cs := #[.string ((rd_T48 l0 x6_1).f0), .int .i64 ((rd_T48 l0 x6_1).f1), .int .i64 ((rd_T48 l0 x6_1).f2), .bool true, .int .i64 ((rd_T48 l0 x6_1).f4), .int .i64 0]) ?_ 5 _ rfl; (with_reducible repeat (first | refine blk_drewN ?_ _ | refine blk_drew ?_ | refine blk_alloc ?_ _)); refine blk_put (cs := #[.string ((rd_T48 l0 x6_1).f0), .int .i64 ((rd_T48 l0 x6_1).f1), .int .i64 ((rd_T48 l0 x6_1).f2), .bool true, .int .i64 0, .int .i64 0]) ?_ 4 _ rfl; (with_reducible repeat (first | refine blk_drewN ?_ _ | refine blk_drew ?_ | refine blk_alloc ?_ _)); refine blk_put (cs := #[.string ((rd_T48 l0 x6_1).f0), .int .i64 ((rd_T48 l0 x6_1).f1), .int .i64 ((rd_T48 l0 x6_1).f2), .bool false, .int .i64 0, .int .i64 0]) ?_ 3 _ rfl; (with_reducible repeat (first | refine blk_drewN ?_ _ | refine blk_drew ?_ | refine blk_alloc ?_ _)); refine blk_put (cs := #[.string ((rd_T48 l0 x6_1).f0), .int .i64 ((rd_T48 l0 x6_1).f1), .int .i64 0, .bool false, .int .i64 0, .int .i64 0]) ?_ 2 _ rfl; (with_reducible repeat (first | refine blk_drewN ?_ _ | refine blk_drew ?_ | refine blk_alloc ?_ _)); refine blk_put (cs := #[.string ((rd_T48 l0 x6_1).f0), .int .i64 0, .int .i64 0, .bool false, .int .i64 0, .int .i64 0]) ?_ 1 _ rfl; (with_reducible repeat (first | refine blk_drewN ?_ _ | refine blk_drew ?_ | refine blk_alloc ?_ _)); refine blk_put (cs := #[.string (⟨#[]⟩ : ByteArray), .int .i64 0, .int .i64 0, .bool false, .int .i64 0, .int .i64 0]) ?_ 0 _ rfl; (with_reducible repeat (first | refine blk_drewN ?_ _ | refine blk_drew ?_ | refine blk_alloc ?_ _)); exact BK126.out⟩
             have n1_ : Aside0 (Below w.heap.size w ((((((w30.setCell ⟨gb126, 0, none⟩ (.string ((rd_T48 l0 x6_1).f0))).setCell ⟨gb126, 1, none⟩ (.int .i64 ((rd_T48 l0 x6_1).f1))).setCell ⟨gb126, 2, none⟩ (.int .i64 ((rd_T48 l0 x6_1).f2))).setCell ⟨gb126, 3, none⟩ (.bool true)).setCell ⟨gb126, 4, none⟩ (.int .i64 ((rd_T48 l0 x6_1).f4))).setCell ⟨gb126, 5, none⟩ (.int .i64 ((rd_T48 l0 x6_1).f5)))) := ⟨by repeat (first | (with_reducible first | exact HB.out | apply below_alloc | apply pw_below_drewN | apply below_drew1 | refine below_set ?_ GE126.out) | exact HB.out)⟩
             (try clear BK126)
             (try clear HB)
             generalize ((((((w30.setCell ⟨gb126, 0, none⟩ (.string ((rd_T48 l0 x6_1).f0))).setCell ⟨gb126, 1, none⟩ (.int .i64 ((rd_T48 l0 x6_1).f1))).setCell ⟨gb126, 2, none⟩ (.int .i64 ((rd_T48 l0 x6_1).f2))).setCell ⟨gb126, 3, none⟩ (.bool true)).setCell ⟨gb126, 4, none⟩ (.int .i64 ((rd_T48 l0 x6_1).f4))).setCell ⟨gb126, 5, none⟩ (.int .i64 ((rd_T48 l0 x6_1).f5))) = w32 at n0_ n1_ ⊢
             have BK126 := n0_
             have HB := n1_
             clear n0_ n1_
             have n0_ := Aside0.mk (blk_drew BK126.out)
             have n1_ := Aside0.mk (below_drew1 HB.out)
             clear BK126
             clear HB
             have BK126 := n0_
             have HB := n1_
             clear n0_ n1_
             have p128 : 0 ≤ ((ji13) : Int) := of_decide_eq_true (by first | (with_reducible assumption) | assumption)
             have q128 : (ji13) < (l0.length : Int) := of_decide_eq_true (by first | (with_reducible assumption) | assumption)
             obtain ⟨ad128, e128, hx128_0, hx128_1, hx128_2, hx128_3, hx128_4, hx128_5⟩ := at_T48 HR0.out (ji13) p128 q128
             have hw128_5 := hx128_5
             have hw128_4 := hx128_4
             have hw128_3 := hx128_3
             have hw128_2 := hx128_2
             have hw128_1 := hx128_1
             have hw128_0 := hx128_0
             (try rw [← Nbq22.out] at hx128_3)
             obtain rfl : ad125 = ad128 := (by injection e128)
             replace hx128_0 := (HB.out.cell (World.block_lt_of_cell? w _ hx128_0)).trans hx128_0
             replace hx128_1 := (HB.out.cell (World.block_lt_of_cell? w _ hx128_1)).trans hx128_1
             replace hx128_2 := (HB.out.cell (World.block_lt_of_cell? w _ hx128_2)).trans hx128_2
             replace hx128_3 := (HB.out.cell (World.block_lt_of_cell? w _ hx128_3)).trans hx128_3
             replace hx128_4 := (HB.out.cell (World.block_lt_of_cell? w _ hx128_4)).trans hx128_4
             replace hx128_5 := (HB.out.cell (World.block_lt_of_cell? w _ hx128_5)).trans hx128_5
             replace p128 := eq_true p128
             replace q128 := eq_true q128
             refine start_ (n := 31) (S := fun w' => w'.cell? ⟨gb126, 0, none⟩ = some (.string ((rd_T48 l0 x6_1).f0)) ∧ w'.cell? ⟨gb126, 1, none⟩ = some (.int .i64 ((rd_T48 l0 x6_1).f1)) ∧ w'.cell? ⟨gb126, 2, none⟩ = some (.int .i64 ((rd_T48 l0 x6_1).f2)) ∧ w'.cell? ⟨gb126, 3, none⟩ = some (.bool true) ∧ w'.cell? ⟨gb126, 4, none⟩ = some (.int .i64 ((rd_T48 l0 x6_1).f4)) ∧ w'.cell? ⟨gb126, 5, none⟩ = some (.int .i64 ((rd_T48 l0 x6_1).f5)) ∧ w'.cell? (ad125.add (((ji13)).toNat * 6)) = some (.string ((rd_T48 l0 (ji13)).f0)) ∧ w'.cell? ⟨(ad125.add (((ji13)).toNat * 6)).block, (ad125.add (((ji13)).toNat * 6)).off + 1, none⟩ = some (.int .i64 ((rd_T48 l0 (ji13)).f1)) ∧ w'.cell? ⟨(ad125.add (((ji13)).toNat * 6)).block, (ad125.add (((ji13)).toNat * 6)).off + 2, none⟩ = some (.int .i64 ((rd_T48 l0 (ji13)).f2)) ∧ w'.cell? ⟨(ad125.add (((ji13)).toNat * 6)).block, (ad125.add (((ji13)).toNat * 6)).off + 3, none⟩ = some (.bool ((rd_T48 l0 (ji13)).f3)) ∧ w'.cell? ⟨(ad125.add (((ji13)).toNat * 6)).block, (ad125.add (((ji13)).toNat * 6)).off + 4, none⟩ = some (.int .i64 ((rd_T48 l0 (ji13)).f4)) ∧ w'.cell? ⟨(ad125.add (((ji13)).toNat * 6)).block, (ad125.add (((ji13)).toNat * 6)).off + 5, none⟩ = some (.int .i64 ((rd_T48 l0 (ji13)).f5))) (ds := []) spec_StackOk.v0 (by kernel_rfl) rfl rfl ⟨(blk_cell BK126.out 0).trans rfl, (blk_cell BK126.out 1).trans rfl, (blk_cell BK126.out 2).trans rfl, (blk_cell BK126.out 3).trans rfl, (blk_cell BK126.out 4).trans rfl, (blk_cell BK126.out 5).trans rfl, ((HB.out.cell (World.block_lt_of_cell? w _ hw128_0)).trans hw128_0), ((HB.out.cell (World.block_lt_of_cell? w _ hw128_1)).trans hw128_1), ((HB.out.cell (World.block_lt_of_cell? w _ hw128_2)).trans hw128_2), ((HB.out.cell (World.block_lt_of_cell? w _ hw128_3)).trans hw128_3), ((HB.out.cell (World.block_lt_of_cell? w _ hw128_4)).trans hw128_4), ((HB.out.cell (World.block_lt_of_cell? w _ hw128_5)).trans hw128_5)⟩ (fun hHeld => ?_); refine with_tabW spec_StackOk.tab6 spec_StackOk.bits6 (fun HT_ HW_ => ?_)
             generalize w32.drew = w33 at BK126 HB hx128_0 hx128_1 hx128_2 hx128_3 hx128_4 hx128_5 hHeld ⊢
             refine Sk.pq 0 18 spec_StackOk.v1 HT_.out (h := ?_)
             refine Sk.pq 1 19 spec_StackOk.v2 HT_.out (h := ?_)
             refine Sk.pq 2 20 spec_StackOk.v3 HT_.out (h := ?_)
             refine Sk.pq 3 21 spec_StackOk.v4 HT_.out (h := ?_)
             refine Sk.tk12 4 22 spec_StackOk.v5 HT_.out HW_.out hHeld (h := ?_)
             refine one_ (i := 5) (N := some 23) spec_StackOk.v6 rfl rfl (one_of HT_.out (by kernel_rfl)) (by decide) (fun K hK => ?_)
             refine goes_ Try.func38 (by kernel_rfl) rfl #[.agg #[.string ((rd_T48 l0 x6_1).f0), .int .i64 ((rd_T48 l0 x6_1).f1), .int .i64 ((rd_T48 l0 x6_1).f2), .bool true, .int .i64 ((rd_T48 l0 x6_1).f4), .int .i64 ((rd_T48 l0 x6_1).f5)]] (by rfl) rfl rfl (by (try simp only [List.map_toArray, List.map_cons, List.map_nil]); first | done | rfl | (simp only [List.length_drop, List.length_take]; rfl)) ?_
             with_reducible refine (spec_BoxOk.calls k1 ((rd_T48 l0 x6_1).f0) ((rd_T48 l0 x6_1).f1) ((rd_T48 l0 x6_1).f2) true ((rd_T48 l0 x6_1).f4) ((rd_T48 l0 x6_1).f5) true _ (by first | exact A10.out | (have h_ := A10.out; (try rw [← Nbq22.out] at h_); (try rw [← Nbq42.out] at h_); exact h_))).mono ?_
             rintro e w34 ⟨rfl, hb⟩
             refine ⟨_, rfl, ?_⟩
             have n0_ := Aside0.mk (blk_below (g := gb126) (by (with_reducible repeat (first | refine blk_drewN ?_ _ | refine blk_drew ?_ | refine blk_alloc ?_ _)); exact BK126.out) hb)
             have n1_ := Aside0.mk (below_step (by repeat (first | (with_reducible first | exact HB.out | apply below_alloc | apply pw_below_drewN | apply below_drew1 | refine below_set ?_ GE126.out) | exact HB.out)) hb)
             clear BK126
             clear HB
             have BK126 := n0_
             have HB := n1_
             clear n0_ n1_
             (try clear hb)
             refine hK.out _ _ ⟨(blk_cell BK126.out 0).trans rfl, (blk_cell BK126.out 1).trans rfl, (blk_cell BK126.out 2).trans rfl, (blk_cell BK126.out 3).trans rfl, (blk_cell BK126.out 4).trans rfl, (blk_cell BK126.out 5).trans rfl, ((HB.out.cell (World.block_lt_of_cell? w _ hw128_0)).trans hw128_0), ((HB.out.cell (World.block_lt_of_cell? w _ hw128_1)).trans hw128_1), ((HB.out.cell (World.block_lt_of_cell? w _ hw128_2)).trans hw128_2), ((HB.out.cell (World.block_lt_of_cell? w _ hw128_3)).trans hw128_3), ((HB.out.cell (World.block_lt_of_cell? w _ hw128_4)).trans hw128_4), ((HB.out.cell (World.block_lt_of_cell? w _ hw128_5)).trans hw128_5)⟩ (fun hHeld => ?_)
             clear hK K
             refine Sk.nm 23 (h := ?_)
             refine Sk.pq 6 24 spec_StackOk.v7 HT_.out (h := ?_)
             refine Sk.pq 7 25 spec_StackOk.v8 HT_.out (h := ?_)
             refine Sk.pq 8 26 spec_StackOk.v9 HT_.out (h := ?_)
             refine Sk.pq 9 27 spec_StackOk.v10 HT_.out (h := ?_)
             refine Sk.pq 10 28 spec_StackOk.v11 HT_.out (h := ?_)
             refine Sk.pq 11 29 spec_StackOk.v12 HT_.out (h := ?_)
             refine Sk.pq 12 30 spec_StackOk.v13 HT_.out (h := ?_)
             refine Sk.pq 13 31 spec_StackOk.v14 HT_.out (h := ?_)
             refine Sk.pq 14 32 spec_StackOk.v15 HT_.out (h := ?_)
             refine Sk.pq 15 33 spec_StackOk.v16 HT_.out (h := ?_)
             refine Sk.pq 16 34 spec_StackOk.v17 HT_.out (h := ?_)
             refine Sk.pq 18 36 spec_StackOk.v32 HT_.out (h := ?_)
             refine Sk.tk12 17 35 spec_StackOk.v19 HT_.out HW_.out hHeld (h := ?_)
             refine Sk.tk12 19 37 spec_StackOk.v20 HT_.out HW_.out hHeld (h := ?_)
             refine Sk.pq 20 38 spec_StackOk.v21 HT_.out (h := ?_)
             refine Sk.pq 21 39 spec_StackOk.v22 HT_.out (h := ?_)
             refine Sk.pq 22 40 spec_StackOk.v23 HT_.out (h := ?_)
             refine Sk.pq 23 41 spec_StackOk.v24 HT_.out (h := ?_)
             refine Sk.pq 24 42 spec_StackOk.v25 HT_.out (h := ?_)
             refine Sk.tk12 25 43 spec_StackOk.v26 HT_.out HW_.out hHeld (h := ?_)
             refine Sk.pq 26 44 spec_StackOk.v27 HT_.out (h := ?_)
             refine Sk.pq 27 45 spec_StackOk.v28 HT_.out (h := ?_)
             refine Sk.pq 28 46 spec_StackOk.v29 HT_.out (h := ?_)
             refine Sk.pq 29 47 spec_StackOk.v30 HT_.out (h := ?_)
             refine Sk.pq 30 48 spec_StackOk.v31 HT_.out (h := ?_)
             refine done_ (done_of HT_.out (by kernel_rfl)) ?_
             obtain ⟨hcz35_0, hcz35_1, hcz35_2, hcz35_3, hcz35_4, hcz35_5⟩ := spec_StackOk.cl6 BK126.out
             obtain ⟨hfz35_0, hfz35_1, hfz35_2, hfz35_3, hfz35_4, hfz35_5⟩ := spec_StackOk.fz6 BK126.out
             try go_wp2
             go_roundg k1
             case measure => have := HK1.out; omega
             case rel => exact ⟨(wrap64 (x5_1 + ((rd_T48 l0 x6_1).f1))), (wrap64 (x6_1 + 1)), (by first | rfl | (simp; done) | (simp [*]; done)), (by first | rfl | (simp; done) | (simp [*]; done)), H', ⟨by have := HK1.out; omega⟩, ⟨by repeat (first | (with_reducible first | exact HB.out | apply below_alloc | apply pw_below_drewN | apply below_drew1 | refine below_set ?_ GE126.out) | exact HB.out)⟩⟩
           ·replace c23 := Bool.eq_false_iff.mpr c23
            subst c23
            rw [if_neg (show ¬ (false = true) by decide)] at H
            have H' := Aside0.mk H
            clear H
            have p125 : 0 ≤ (x6_1 : Int) := of_decide_eq_true (by first | (with_reducible assumption) | assumption)
            have q125 : x6_1 < (l0.length : Int) := of_decide_eq_true (by first | (with_reducible assumption) | assumption)
            obtain ⟨ad125, e125, hx125_0, hx125_1, hx125_2, hx125_3, hx125_4, hx125_5⟩ := at_T48 HR0.out x6_1 p125 q125
            (try rw [← Nbq22.out] at hx125_3)
            cases e125
            replace hx125_0 := (HB.out.cell (World.block_lt_of_cell? w _ hx125_0)).trans hx125_0
            replace hx125_1 := (HB.out.cell (World.block_lt_of_cell? w _ hx125_1)).trans hx125_1
            replace hx125_2 := (HB.out.cell (World.block_lt_of_cell? w _ hx125_2)).trans hx125_2
            replace hx125_3 := (HB.out.cell (World.block_lt_of_cell? w _ hx125_3)).trans hx125_3
            replace hx125_4 := (HB.out.cell (World.block_lt_of_cell? w _ hx125_4)).trans hx125_4
            replace hx125_5 := (HB.out.cell (World.block_lt_of_cell? w _ hx125_5)).trans hx125_5
            replace p125 := eq_true p125
            replace q125 := eq_true q125
            try go_wp2_with (first | ((with_reducible refine gate_dst (N := 7) rfl ?_); refine box_event ?hg (N := 7) ?hd (cs := #[.string (⟨#[]⟩ : ByteArray), .int .i64 0, .int .i64 0, .bool false, .int .i64 0, .int .i64 0]) (t := 48) ?hr ?_; (case hd => rfl); (case hg => rfl); (case hr => first | (go_simp; done) | (go_simp; rfl)); intro gb126 hg w36 hbox hb; have n0_ := Aside0.mk (below_step Sk.bl_ hb); have n1_ := Aside0.mk (hbox); have n2_ := Aside0.mk ((by rw [hg]; exact (below_size Sk.bl_) : w.heap.size ≤ gb126)); have n3_ := Aside0.mk ((by rw [hg]; exact (below_size Sk.bl_) : w.heap.size ≤ gb126)); clear HB; have HB := n0_; have BK126 := n1_; have GW126 := n2_; have GE126 := n3_; clear n0_ n1_ n2_ n3_; clear hb hbox hg; obtain ⟨hcz37_0, hcz37_1, hcz37_2, hcz37_3, hcz37_4, hcz37_5⟩ := spec_StackOk.cl6 BK126.out; obtain ⟨hfz37_0, hfz37_1, hfz37_2, hfz37_3, hfz37_4, hfz37_5⟩ := spec_StackOk.fz6 BK126.out))
            have n0_ : Aside0 (((((((w36.setCell ⟨gb126, 0, none⟩ (.string ((rd_T48 l0 x6_1).f0))).setCell ⟨gb126, 1, none⟩ (.int .i64 ((rd_T48 l0 x6_1).f1))).setCell ⟨gb126, 2, none⟩ (.int .i64 ((rd_T48 l0 x6_1).f2))).setCell ⟨gb126, 3, none⟩ (.bool false)).setCell ⟨gb126, 4, none⟩ (.int .i64 ((rd_T48 l0 x6_1).f4))).setCell ⟨gb126, 5, none⟩ (.int .i64 ((rd_T48 l0 x6_1).f5))).heap[gb126]? = some (.cells #[.string ((rd_T48 l0 x6_1).f0), .int .i64 ((rd_T48 l0 x6_1).f1), .int .i64 ((rd_T48 l0 x6_1).f2), .bool false, .int .i64 ((rd_T48 l0 x6_1).f4), .int .i64 ((rd_T48 l0 x6_1).f5)] 48 (0, 0))) := ⟨by (with_reducible repeat (first | refine blk_drewN ?_ _ | refine blk_drew ?_ | refine blk_alloc ?_ _)); refine blk_put (cs := #[.string ((rd_T48 l0 x6_1).f0), .int .i64 ((rd_T48 l0 x6_1).f1), .int .i64 ((rd_T48 l0 x6_1).f2), .bool false, .int .i64 ((rd_T48 l0 x6_1).f4), .int .i64 0]) ?_ 5 _ rfl; (with_reducible repeat (first | refine blk_drewN ?_ _ | refine blk_drew ?_ | refine blk_alloc ?_ _)); refine blk_put (cs := #[.string ((rd_T48 l0 x6_1).f0), .int .i64 ((rd_T48 l0 x6_1).f1), .int .i64 ((rd_T48 l0 x6_1).f2), .bool false, .int .i64 0, .int .i64 0]) ?_ 4 _ rfl; (with_reducible repeat (first | refine blk_drewN ?_ _ | refine blk_drew ?_ | refine blk_alloc ?_ _)); refine blk_put (cs := #[.string ((rd_T48 l0 x6_1).f0), .int .i64 ((rd_T48 l0 x6_1).f1), .int .i64 ((rd_T48 l0 x6_1).f2), .bool false, .int .i64 0, .int .i64 0]) ?_ 3 _ rfl; (with_reducible repeat (first | refine blk_drewN ?_ _ | refine blk_drew ?_ | refine blk_alloc ?_ _)); refine blk_put (cs := #[.string ((rd_T48 l0 x6_1).f0), .int .i64 ((rd_T48 l0 x6_1).f1), .int .i64 0, .bool false, .int .i64 0, .int .i64 0]) ?_ 2 _ rfl; (with_reducible repeat (first | refine blk_drewN ?_ _ | refine blk_drew ?_ | refine blk_alloc ?_ _)); refine blk_put (cs := #[.string ((rd_T48 l0 x6_1).f0), .int .i64 0, .int .i64 0, .bool false, .int .i64 0, .int .i64 0]) ?_ 1 _ rfl; (with_reducible repeat (first | refine blk_drewN ?_ _ | refine blk_drew ?_ | refine blk_alloc ?_ _)); refine blk_put (cs := #[.string (⟨#[]⟩ : ByteArray), .int .i64 0, .int .i64 0, .bool false, .int .i64 0, .int .i64 0]) ?_ 0 _ rfl; (with_reducible repeat (first | refine blk_drewN ?_ _ | refine blk_drew ?_ | refine blk_alloc ?_ _)); exact BK126.out⟩
            have n1_ : Aside0 (Below w.heap.size w ((((((w36.setCell ⟨gb126, 0, none⟩ (.string ((rd_T48 l0 x6_1).f0))).setCell ⟨gb126, 1, none⟩ (.int .i64 ((rd_T48 l0 x6_1).f1))).setCell ⟨gb126, 2, none⟩ (.int .i64 ((rd_T48 l0 x6_1).f2))).setCell ⟨gb126, 3, none⟩ (.bool false)).setCell ⟨gb126, 4, none⟩ (.int .i64 ((rd_T48 l0 x6_1).f4))).setCell ⟨gb126, 5, none⟩ (.int .i64 ((rd_T48 l0 x6_1).f5)))) := ⟨by repeat (first | (with_reducible first | exact HB.out | apply below_alloc | apply pw_below_drewN | apply below_drew1 | refine below_set ?_ GE126.out) | exact HB.out)⟩
            (try clear BK126)
            (try clear HB)
            generalize ((((((w36.setCell ⟨gb126, 0, none⟩ (.string ((rd_T48 l0 x6_1).f0))).setCell ⟨gb126, 1, none⟩ (.int .i64 ((rd_T48 l0 x6_1).f1))).setCell ⟨gb126, 2, none⟩ (.int .i64 ((rd_T48 l0 x6_1).f2))).setCell ⟨gb126, 3, none⟩ (.bool false)).setCell ⟨gb126, 4, none⟩ (.int .i64 ((rd_T48 l0 x6_1).f4))).setCell ⟨gb126, 5, none⟩ (.int .i64 ((rd_T48 l0 x6_1).f5))) = w38 at n0_ n1_ ⊢
            have BK126 := n0_
            have HB := n1_
            clear n0_ n1_
            have n0_ := Aside0.mk (blk_drew BK126.out)
            have n1_ := Aside0.mk (below_drew1 HB.out)
            clear BK126
            clear HB
            have BK126 := n0_
            have HB := n1_
            clear n0_ n1_
            have p128 : 0 ≤ ((ji13) : Int) := of_decide_eq_true (by first | (with_reducible assumption) | assumption)
            have q128 : (ji13) < (l0.length : Int) := of_decide_eq_true (by first | (with_reducible assumption) | assumption)
            obtain ⟨ad128, e128, hx128_0, hx128_1, hx128_2, hx128_3, hx128_4, hx128_5⟩ := at_T48 HR0.out (ji13) p128 q128
            have hw128_5 := hx128_5
            have hw128_4 := hx128_4
            have hw128_3 := hx128_3
            have hw128_2 := hx128_2
            have hw128_1 := hx128_1
            have hw128_0 := hx128_0
            (try rw [← Nbq22.out] at hx128_3)
            obtain rfl : ad125 = ad128 := (by injection e128)
            replace hx128_0 := (HB.out.cell (World.block_lt_of_cell? w _ hx128_0)).trans hx128_0
            replace hx128_1 := (HB.out.cell (World.block_lt_of_cell? w _ hx128_1)).trans hx128_1
            replace hx128_2 := (HB.out.cell (World.block_lt_of_cell? w _ hx128_2)).trans hx128_2
            replace hx128_3 := (HB.out.cell (World.block_lt_of_cell? w _ hx128_3)).trans hx128_3
            replace hx128_4 := (HB.out.cell (World.block_lt_of_cell? w _ hx128_4)).trans hx128_4
            replace hx128_5 := (HB.out.cell (World.block_lt_of_cell? w _ hx128_5)).trans hx128_5
            replace p128 := eq_true p128
            replace q128 := eq_true q128
            refine start_ (n := 31) (S := fun w' => w'.cell? ⟨gb126, 0, none⟩ = some (.string ((rd_T48 l0 x6_1).f0)) ∧ w'.cell? ⟨gb126, 1, none⟩ = some (.int .i64 ((rd_T48 l0 x6_1).f1)) ∧ w'.cell? ⟨gb126, 2, none⟩ = some (.int .i64 ((rd_T48 l0 x6_1).f2)) ∧ w'.cell? ⟨gb126, 3, none⟩ = some (.bool false) ∧ w'.cell? ⟨gb126, 4, none⟩ = some (.int .i64 ((rd_T48 l0 x6_1).f4)) ∧ w'.cell? ⟨gb126, 5, none⟩ = some (.int .i64 ((rd_T48 l0 x6_1).f5)) ∧ w'.cell? (ad125.add (((ji13)).toNat * 6)) = some (.string ((rd_T48 l0 (ji13)).f0)) ∧ w'.cell? ⟨(ad125.add (((ji13)).toNat * 6)).block, (ad125.add (((ji13)).toNat * 6)).off + 1, none⟩ = some (.int .i64 ((rd_T48 l0 (ji13)).f1)) ∧ w'.cell? ⟨(ad125.add (((ji13)).toNat * 6)).block, (ad125.add (((ji13)).toNat * 6)).off + 2, none⟩ = some (.int .i64 ((rd_T48 l0 (ji13)).f2)) ∧ w'.cell? ⟨(ad125.add (((ji13)).toNat * 6)).block, (ad125.add (((ji13)).toNat * 6)).off + 3, none⟩ = some (.bool ((rd_T48 l0 (ji13)).f3)) ∧ w'.cell? ⟨(ad125.add (((ji13)).toNat * 6)).block, (ad125.add (((ji13)).toNat * 6)).off + 4, none⟩ = some (.int .i64 ((rd_T48 l0 (ji13)).f4)) ∧ w'.cell? ⟨(ad125.add (((ji13)).toNat * 6)).block, (ad125.add (((ji13)).toNat * 6)).off + 5, none⟩ = some (.int .i64 ((rd_T48 l0 (ji13)).f5))) (ds := []) spec_StackOk.v0 (by kernel_rfl) rfl rfl ⟨(blk_cell BK126.out 0).trans rfl, (blk_cell BK126.out 1).trans rfl, (blk_cell BK126.out 2).trans rfl, (blk_cell BK126.out 3).trans rfl, (blk_cell BK126.out 4).trans rfl, (blk_cell BK126.out 5).trans rfl, ((HB.out.cell (World.block_lt_of_cell? w _ hw128_0)).trans hw128_0), ((HB.out.cell (World.block_lt_of_cell? w _ hw128_1)).trans hw128_1), ((HB.out.cell (World.block_lt_of_cell? w _ hw128_2)).trans hw128_2), ((HB.out.cell (World.block_lt_of_cell? w _ hw128_3)).trans hw128_3), ((HB.out.cell (World.block_lt_of_cell? w _ hw128_4)).trans hw128_4), ((HB.out.cell (World.block_lt_of_cell? w _ hw128_5)).trans hw128_5)⟩ (fun hHeld => ?_); refine with_tabW spec_StackOk.tab6 spec_StackOk.bits6 (fun HT_ HW_ => ?_)
            generalize w38.drew = w39 at BK126 HB hx128_0 hx128_1 hx128_2 hx128_3 hx128_4 hx128_5 hHeld ⊢
            refine Sk.pq 0 18 spec_StackOk.v1 HT_.out (h := ?_)
            refine Sk.pq 1 19 spec_StackOk.v2 HT_.out (h := ?_)
            refine Sk.pq 2 20 spec_StackOk.v3 HT_.out (h := ?_)
            refine Sk.pq 3 21 spec_StackOk.v4 HT_.out (h := ?_)
            refine Sk.tk12 4 22 spec_StackOk.v5 HT_.out HW_.out hHeld (h := ?_)
            refine one_ (i := 5) (N := some 23) spec_StackOk.v6 rfl rfl (one_of HT_.out (by kernel_rfl)) (by decide) (fun K hK => ?_)
            refine goes_ Try.func38 (by kernel_rfl) rfl #[.agg #[.string ((rd_T48 l0 x6_1).f0), .int .i64 ((rd_T48 l0 x6_1).f1), .int .i64 ((rd_T48 l0 x6_1).f2), .bool false, .int .i64 ((rd_T48 l0 x6_1).f4), .int .i64 ((rd_T48 l0 x6_1).f5)]] (by rfl) rfl rfl (by (try simp only [List.map_toArray, List.map_cons, List.map_nil]); first | done | rfl | (simp only [List.length_drop, List.length_take]; rfl)) ?_
            with_reducible refine (spec_BoxOk.calls k1 ((rd_T48 l0 x6_1).f0) ((rd_T48 l0 x6_1).f1) ((rd_T48 l0 x6_1).f2) false ((rd_T48 l0 x6_1).f4) ((rd_T48 l0 x6_1).f5) true _ (by first | exact A10.out | (have h_ := A10.out; (try rw [← Nbq22.out] at h_); (try rw [← Nbq42.out] at h_); exact h_))).mono ?_
            rintro e w40 ⟨rfl, hb⟩
            refine ⟨_, rfl, ?_⟩
            have n0_ := Aside0.mk (blk_below (g := gb126) (by (with_reducible repeat (first | refine blk_drewN ?_ _ | refine blk_drew ?_ | refine blk_alloc ?_ _)); exact BK126.out) hb)
            have n1_ := Aside0.mk (below_step (by repeat (first | (with_reducible first | exact HB.out | apply below_alloc | apply pw_below_drewN | apply below_drew1 | refine below_set ?_ GE126.out) | exact HB.out)) hb)
            clear BK126
            clear HB
            have BK126 := n0_
            have HB := n1_
            clear n0_ n1_
            (try clear hb)
            refine hK.out _ _ ⟨(blk_cell BK126.out 0).trans rfl, (blk_cell BK126.out 1).trans rfl, (blk_cell BK126.out 2).trans rfl, (blk_cell BK126.out 3).trans rfl, (blk_cell BK126.out 4).trans rfl, (blk_cell BK126.out 5).trans rfl, ((HB.out.cell (World.block_lt_of_cell? w _ hw128_0)).trans hw128_0), ((HB.out.cell (World.block_lt_of_cell? w _ hw128_1)).trans hw128_1), ((HB.out.cell (World.block_lt_of_cell? w _ hw128_2)).trans hw128_2), ((HB.out.cell (World.block_lt_of_cell? w _ hw128_3)).trans hw128_3), ((HB.out.cell (World.block_lt_of_cell? w _ hw128_4)).trans hw128_4), ((HB.out.cell (World.block_lt_of_cell? w _ hw128_5)).trans hw128_5)⟩ (fun hHeld => ?_)
            clear hK K
            refine Sk.nm 23 (h := ?_)
            refine Sk.pq 6 24 spec_StackOk.v7 HT_.out (h := ?_)
            refine Sk.pq 7 25 spec_StackOk.v8 HT_.out (h := ?_)
            refine Sk.pq 8 26 spec_StackOk.v9 HT_.out (h := ?_)
            refine Sk.pq 9 27 spec_StackOk.v10 HT_.out (h := ?_)
            refine Sk.pq 10 28 spec_StackOk.v11 HT_.out (h := ?_)
            refine Sk.pq 11 29 spec_StackOk.v12 HT_.out (h := ?_)
            refine Sk.pq 12 30 spec_StackOk.v13 HT_.out (h := ?_)
            refine Sk.pq 13 31 spec_StackOk.v14 HT_.out (h := ?_)
            refine Sk.pq 14 32 spec_StackOk.v15 HT_.out (h := ?_)
            refine Sk.pq 15 33 spec_StackOk.v16 HT_.out (h := ?_)
            refine Sk.pq 16 34 spec_StackOk.v17 HT_.out (h := ?_)
            refine Sk.pq 18 36 spec_StackOk.v32 HT_.out (h := ?_)
            refine Sk.tk12 17 35 spec_StackOk.v19 HT_.out HW_.out hHeld (h := ?_)
            refine Sk.tk12 19 37 spec_StackOk.v20 HT_.out HW_.out hHeld (h := ?_)
            refine Sk.pq 20 38 spec_StackOk.v21 HT_.out (h := ?_)
            refine Sk.pq 21 39 spec_StackOk.v22 HT_.out (h := ?_)
            refine Sk.pq 22 40 spec_StackOk.v23 HT_.out (h := ?_)
            refine Sk.pq 23 41 spec_StackOk.v24 HT_.out (h := ?_)
            refine Sk.pq 24 42 spec_StackOk.v25 HT_.out (h := ?_)
            refine Sk.tk12 25 43 spec_StackOk.v26 HT_.out HW_.out hHeld (h := ?_)
            refine Sk.pq 26 44 spec_StackOk.v27 HT_.out (h := ?_)
            refine Sk.pu 27 45 spec_StackOk.v28 HT_.out (h := ?_)
            refine Sk.pu 28 46 spec_StackOk.v29 HT_.out (h := ?_)
            refine Sk.pq 29 47 spec_StackOk.v30 HT_.out (h := ?_)
            refine Sk.pq 30 48 spec_StackOk.v31 HT_.out (h := ?_)
            refine done_ (done_of HT_.out (by kernel_rfl)) ?_
            obtain ⟨hcz41_0, hcz41_1, hcz41_2, hcz41_3, hcz41_4, hcz41_5⟩ := spec_StackOk.cl6 BK126.out
            obtain ⟨hfz41_0, hfz41_1, hfz41_2, hfz41_3, hfz41_4, hfz41_5⟩ := spec_StackOk.fz6 BK126.out
            try go_wp2
            go_roundg k1
            case measure => have := HK1.out; omega
            case rel => exact ⟨(wrap64 (x5_1 + ((rd_T48 l0 x6_1).f1))), (wrap64 (x6_1 + 1)), (by first | rfl | (simp; done) | (simp [*]; done)), (by first | rfl | (simp; done) | (simp [*]; done)), H', ⟨by have := HK1.out; omega⟩, ⟨by repeat (first | (with_reducible first | exact HB.out | apply below_alloc | apply pw_below_drewN | apply below_drew1 | refine below_set ?_ GE126.out) | exact HB.out)⟩⟩
         ·rw [if_neg c15] at H
          exact absurd H (by simp)
        ·rw [if_neg c14] at H
         exact absurd H (by simp)
       ·rw [if_neg c12] at H
        have c12b0 : decide (0 < x6_1) = false := decide_eq_false c12
        clear c12
        obtain ⟨bq42, hbq42⟩ : ∃ b_ : Bool, b_ = ((rd_T48 l0 x6_1).f3) := ⟨_, rfl⟩
        replace H : (if bq42 = true then (if x6_1 > 1 then (some false) else (spec_StackOk.l0 k1 l0 a1 (wrap64 (x5_1 + ((rd_T48 l0 x6_1).f1))) (wrap64 (x6_1 + 1)))) else (spec_StackOk.l0 k1 l0 a1 (wrap64 (x5_1 + ((rd_T48 l0 x6_1).f1))) (wrap64 (x6_1 + 1)))) = some r := by rw [← hbq42] at H; exact H
        have Nbq42 := Aside0.mk hbq42
        clear hbq42
        by_cases c43 : bq42 = true
        ·subst c43
         rw [if_pos rfl] at H
         by_cases c44 : x6_1 > 1
         ·rw [if_pos c44] at H
          have c44b0 : decide (1 < x6_1) = true := decide_eq_true c44
          clear c44
          obtain rfl := Option.some.inj H
          have p125 : 0 ≤ (x6_1 : Int) := of_decide_eq_true (by first | (with_reducible assumption) | assumption)
          have q125 : x6_1 < (l0.length : Int) := of_decide_eq_true (by first | (with_reducible assumption) | assumption)
          obtain ⟨ad125, e125, hx125_0, hx125_1, hx125_2, hx125_3, hx125_4, hx125_5⟩ := at_T48 HR0.out x6_1 p125 q125
          (try rw [← Nbq42.out] at hx125_3)
          cases e125
          replace hx125_0 := (HB.out.cell (World.block_lt_of_cell? w _ hx125_0)).trans hx125_0
          replace hx125_1 := (HB.out.cell (World.block_lt_of_cell? w _ hx125_1)).trans hx125_1
          replace hx125_2 := (HB.out.cell (World.block_lt_of_cell? w _ hx125_2)).trans hx125_2
          replace hx125_3 := (HB.out.cell (World.block_lt_of_cell? w _ hx125_3)).trans hx125_3
          replace hx125_4 := (HB.out.cell (World.block_lt_of_cell? w _ hx125_4)).trans hx125_4
          replace hx125_5 := (HB.out.cell (World.block_lt_of_cell? w _ hx125_5)).trans hx125_5
          replace p125 := eq_true p125
          replace q125 := eq_true q125
          try go_wp2_with (first | ((with_reducible refine gate_dst (N := 7) rfl ?_); refine box_event ?hg (N := 7) ?hd (cs := #[.string (⟨#[]⟩ : ByteArray), .int .i64 0, .int .i64 0, .bool false, .int .i64 0, .int .i64 0]) (t := 48) ?hr ?_; (case hd => rfl); (case hg => rfl); (case hr => first | (go_simp; done) | (go_simp; rfl)); intro gb126 hg w45 hbox hb; have n0_ := Aside0.mk (below_step Sk.bl_ hb); have n1_ := Aside0.mk (hbox); have n2_ := Aside0.mk ((by rw [hg]; exact (below_size Sk.bl_) : w.heap.size ≤ gb126)); have n3_ := Aside0.mk ((by rw [hg]; exact (below_size Sk.bl_) : w.heap.size ≤ gb126)); clear HB; have HB := n0_; have BK126 := n1_; have GW126 := n2_; have GE126 := n3_; clear n0_ n1_ n2_ n3_; clear hb hbox hg; obtain ⟨hcz46_0, hcz46_1, hcz46_2, hcz46_3, hcz46_4, hcz46_5⟩ := spec_StackOk.cl6 BK126.out; obtain ⟨hfz46_0, hfz46_1, hfz46_2, hfz46_3, hfz46_4, hfz46_5⟩ := spec_StackOk.fz6 BK126.out))
          have n0_ : Aside0 (((((((w45.setCell ⟨gb126, 0, none⟩ (.string ((rd_T48 l0 x6_1).f0))).setCell ⟨gb126, 1, none⟩ (.int .i64 ((rd_T48 l0 x6_1).f1))).setCell ⟨gb126, 2, none⟩ (.int .i64 ((rd_T48 l0 x6_1).f2))).setCell ⟨gb126, 3, none⟩ (.bool true)).setCell ⟨gb126, 4, none⟩ (.int .i64 ((rd_T48 l0 x6_1).f4))).setCell ⟨gb126, 5, none⟩ (.int .i64 ((rd_T48 l0 x6_1).f5))).heap[gb126]? = some (.cells #[.string ((rd_T48 l0 x6_1).f0), .int .i64 ((rd_T48 l0 x6_1).f1), .int .i64 ((rd_T48 l0 x6_1).f2), .bool true, .int .i64 ((rd_T48 l0 x6_1).f4), .int .i64 ((rd_T48 l0 x6_1).f5)] 48 (0, 0))) := ⟨by (with_reducible repeat (first | refine blk_drewN ?_ _ | refine blk_drew ?_ | refine blk_alloc ?_ _)); refine blk_put (cs := #[.string ((rd_T48 l0 x6_1).f0), .int .i64 ((rd_T48 l0 x6_1).f1), .int .i64 ((rd_T48 l0 x6_1).f2), .bool true, .int .i64 ((rd_T48 l0 x6_1).f4), .int .i64 0]) ?_ 5 _ rfl; (with_reducible repeat (first | refine blk_drewN ?_ _ | refine blk_drew ?_ | refine blk_alloc ?_ _)); refine blk_put (cs := #[.string ((rd_T48 l0 x6_1).f0), .int .i64 ((rd_T48 l0 x6_1).f1), .int .i64 ((rd_T48 l0 x6_1).f2), .bool true, .int .i64 0, .int .i64 0]) ?_ 4 _ rfl; (with_reducible repeat (first | refine blk_drewN ?_ _ | refine blk_drew ?_ | refine blk_alloc ?_ _)); refine blk_put (cs := #[.string ((rd_T48 l0 x6_1).f0), .int .i64 ((rd_T48 l0 x6_1).f1), .int .i64 ((rd_T48 l0 x6_1).f2), .bool false, .int .i64 0, .int .i64 0]) ?_ 3 _ rfl; (with_reducible repeat (first | refine blk_drewN ?_ _ | refine blk_drew ?_ | refine blk_alloc ?_ _)); refine blk_put (cs := #[.string ((rd_T48 l0 x6_1).f0), .int .i64 ((rd_T48 l0 x6_1).f1), .int .i64 0, .bool false, .int .i64 0, .int .i64 0]) ?_ 2 _ rfl; (with_reducible repeat (first | refine blk_drewN ?_ _ | refine blk_drew ?_ | refine blk_alloc ?_ _)); refine blk_put (cs := #[.string ((rd_T48 l0 x6_1).f0), .int .i64 0, .int .i64 0, .bool false, .int .i64 0, .int .i64 0]) ?_ 1 _ rfl; (with_reducible repeat (first | refine blk_drewN ?_ _ | refine blk_drew ?_ | refine blk_alloc ?_ _)); refine blk_put (cs := #[.string (⟨#[]⟩ : ByteArray), .int .i64 0, .int .i64 0, .bool false, .int .i64 0, .int .i64 0]) ?_ 0 _ rfl; (with_reducible repeat (first | refine blk_drewN ?_ _ | refine blk_drew ?_ | refine blk_alloc ?_ _)); exact BK126.out⟩
          have n1_ : Aside0 (Below w.heap.size w ((((((w45.setCell ⟨gb126, 0, none⟩ (.string ((rd_T48 l0 x6_1).f0))).setCell ⟨gb126, 1, none⟩ (.int .i64 ((rd_T48 l0 x6_1).f1))).setCell ⟨gb126, 2, none⟩ (.int .i64 ((rd_T48 l0 x6_1).f2))).setCell ⟨gb126, 3, none⟩ (.bool true)).setCell ⟨gb126, 4, none⟩ (.int .i64 ((rd_T48 l0 x6_1).f4))).setCell ⟨gb126, 5, none⟩ (.int .i64 ((rd_T48 l0 x6_1).f5)))) := ⟨by repeat (first | (with_reducible first | exact HB.out | apply below_alloc | apply pw_below_drewN | apply below_drew1 | refine below_set ?_ GE126.out) | exact HB.out)⟩
          (try clear BK126)
          (try clear HB)
          generalize ((((((w45.setCell ⟨gb126, 0, none⟩ (.string ((rd_T48 l0 x6_1).f0))).setCell ⟨gb126, 1, none⟩ (.int .i64 ((rd_T48 l0 x6_1).f1))).setCell ⟨gb126, 2, none⟩ (.int .i64 ((rd_T48 l0 x6_1).f2))).setCell ⟨gb126, 3, none⟩ (.bool true)).setCell ⟨gb126, 4, none⟩ (.int .i64 ((rd_T48 l0 x6_1).f4))).setCell ⟨gb126, 5, none⟩ (.int .i64 ((rd_T48 l0 x6_1).f5))) = w47 at n0_ n1_ ⊢
          have BK126 := n0_
          have HB := n1_
          clear n0_ n1_
          have n0_ := Aside0.mk (blk_drew BK126.out)
          have n1_ := Aside0.mk (below_drew1 HB.out)
          clear BK126
          clear HB
          have BK126 := n0_
          have HB := n1_
          clear n0_ n1_
          refine start_ (n := 31) (S := fun w' => w'.cell? ⟨gb126, 0, none⟩ = some (.string ((rd_T48 l0 x6_1).f0)) ∧ w'.cell? ⟨gb126, 1, none⟩ = some (.int .i64 ((rd_T48 l0 x6_1).f1)) ∧ w'.cell? ⟨gb126, 2, none⟩ = some (.int .i64 ((rd_T48 l0 x6_1).f2)) ∧ w'.cell? ⟨gb126, 3, none⟩ = some (.bool true) ∧ w'.cell? ⟨gb126, 4, none⟩ = some (.int .i64 ((rd_T48 l0 x6_1).f4)) ∧ w'.cell? ⟨gb126, 5, none⟩ = some (.int .i64 ((rd_T48 l0 x6_1).f5))) (ds := []) spec_StackOk.v0 (by kernel_rfl) rfl rfl ⟨(blk_cell BK126.out 0).trans rfl, (blk_cell BK126.out 1).trans rfl, (blk_cell BK126.out 2).trans rfl, (blk_cell BK126.out 3).trans rfl, (blk_cell BK126.out 4).trans rfl, (blk_cell BK126.out 5).trans rfl⟩ (fun hHeld => ?_); refine with_tabW spec_StackOk.tab6 spec_StackOk.bits6 (fun HT_ HW_ => ?_)
          generalize w47.drew = w48 at BK126 HB hHeld ⊢
          refine Sk.pq 0 18 spec_StackOk.v1 HT_.out (h := ?_)
          refine Sk.pq 1 19 spec_StackOk.v2 HT_.out (h := ?_)
          refine Sk.pq 2 20 spec_StackOk.v3 HT_.out (h := ?_)
          refine Sk.pq 3 21 spec_StackOk.v4 HT_.out (h := ?_)
          refine Sk.tk6 4 22 spec_StackOk.v5 HT_.out HW_.out hHeld (h := ?_)
          refine one_ (i := 5) (N := some 23) spec_StackOk.v6 rfl rfl (one_of HT_.out (by kernel_rfl)) (by decide) (fun K hK => ?_)
          refine goes_ Try.func38 (by kernel_rfl) rfl #[.agg #[.string ((rd_T48 l0 x6_1).f0), .int .i64 ((rd_T48 l0 x6_1).f1), .int .i64 ((rd_T48 l0 x6_1).f2), .bool true, .int .i64 ((rd_T48 l0 x6_1).f4), .int .i64 ((rd_T48 l0 x6_1).f5)]] (by rfl) rfl rfl (by (try simp only [List.map_toArray, List.map_cons, List.map_nil]); first | done | rfl | (simp only [List.length_drop, List.length_take]; rfl)) ?_
          with_reducible refine (spec_BoxOk.calls k1 ((rd_T48 l0 x6_1).f0) ((rd_T48 l0 x6_1).f1) ((rd_T48 l0 x6_1).f2) true ((rd_T48 l0 x6_1).f4) ((rd_T48 l0 x6_1).f5) true _ (by first | exact A10.out | (have h_ := A10.out; (try rw [← Nbq22.out] at h_); (try rw [← Nbq42.out] at h_); exact h_))).mono ?_
          rintro e w49 ⟨rfl, hb⟩
          refine ⟨_, rfl, ?_⟩
          have n0_ := Aside0.mk (blk_below (g := gb126) (by (with_reducible repeat (first | refine blk_drewN ?_ _ | refine blk_drew ?_ | refine blk_alloc ?_ _)); exact BK126.out) hb)
          have n1_ := Aside0.mk (below_step (by repeat (first | (with_reducible first | exact HB.out | apply below_alloc | apply pw_below_drewN | apply below_drew1 | refine below_set ?_ GE126.out) | exact HB.out)) hb)
          clear BK126
          clear HB
          have BK126 := n0_
          have HB := n1_
          clear n0_ n1_
          (try clear hb)
          refine hK.out _ _ ⟨(blk_cell BK126.out 0).trans rfl, (blk_cell BK126.out 1).trans rfl, (blk_cell BK126.out 2).trans rfl, (blk_cell BK126.out 3).trans rfl, (blk_cell BK126.out 4).trans rfl, (blk_cell BK126.out 5).trans rfl⟩ (fun hHeld => ?_)
          clear hK K
          refine Sk.nm 23 (h := ?_)
          refine Sk.pq 6 24 spec_StackOk.v7 HT_.out (h := ?_)
          refine Sk.pq 7 25 spec_StackOk.v8 HT_.out (h := ?_)
          refine Sk.pq 8 26 spec_StackOk.v9 HT_.out (h := ?_)
          refine Sk.pq 9 27 spec_StackOk.v10 HT_.out (h := ?_)
          refine Sk.pq 10 28 spec_StackOk.v11 HT_.out (h := ?_)
          refine Sk.pq 11 29 spec_StackOk.v12 HT_.out (h := ?_)
          refine Sk.pu 12 30 spec_StackOk.v13 HT_.out (h := ?_)
          refine Sk.pu 13 31 spec_StackOk.v14 HT_.out (h := ?_)
          refine Sk.pu 14 32 spec_StackOk.v15 HT_.out (h := ?_)
          refine Sk.pu 15 33 spec_StackOk.v16 HT_.out (h := ?_)
          refine Sk.pu 16 34 spec_StackOk.v17 HT_.out (h := ?_)
          refine Sk.pu 17 35 spec_StackOk.v18 HT_.out (h := ?_)
          refine Sk.pu 18 36 spec_StackOk.v19 HT_.out (h := ?_)
          refine Sk.pu 19 37 spec_StackOk.v20 HT_.out (h := ?_)
          refine Sk.pu 20 38 spec_StackOk.v21 HT_.out (h := ?_)
          refine Sk.pq 21 39 spec_StackOk.v22 HT_.out (h := ?_)
          refine Sk.pq 22 40 spec_StackOk.v23 HT_.out (h := ?_)
          refine Sk.pq 23 41 spec_StackOk.v24 HT_.out (h := ?_)
          refine Sk.pq 24 42 spec_StackOk.v25 HT_.out (h := ?_)
          refine Sk.tk6 25 43 spec_StackOk.v26 HT_.out HW_.out hHeld (h := ?_)
          refine Sk.pq 26 44 spec_StackOk.v27 HT_.out (h := ?_)
          refine Sk.pq 27 45 spec_StackOk.v28 HT_.out (h := ?_)
          refine Sk.pq 28 46 spec_StackOk.v29 HT_.out (h := ?_)
          refine Sk.pq 29 47 spec_StackOk.v30 HT_.out (h := ?_)
          refine Sk.pq 30 48 spec_StackOk.v31 HT_.out (h := ?_)
          refine done_ (done_of HT_.out (by kernel_rfl)) ?_
          try go_wp2
          go_ret
          exact ⟨by first | rfl | (simp [errW_none, errW_some] <;> rfl) | (simp [*, errW_none, errW_some] <;> rfl), by repeat (first | (with_reducible first | exact HB.out | apply below_alloc | apply pw_below_drewN | apply below_drew1 | refine below_set ?_ GE126.out) | exact HB.out)⟩
         ·rw [if_neg c44] at H
          have c44b0 : decide (1 < x6_1) = false := decide_eq_false c44
          clear c44
          have H' := Aside0.mk H
          clear H
          have p125 : 0 ≤ (x6_1 : Int) := of_decide_eq_true (by first | (with_reducible assumption) | assumption)
          have q125 : x6_1 < (l0.length : Int) := of_decide_eq_true (by first | (with_reducible assumption) | assumption)
          obtain ⟨ad125, e125, hx125_0, hx125_1, hx125_2, hx125_3, hx125_4, hx125_5⟩ := at_T48 HR0.out x6_1 p125 q125
          (try rw [← Nbq42.out] at hx125_3)
          cases e125
          replace hx125_0 := (HB.out.cell (World.block_lt_of_cell? w _ hx125_0)).trans hx125_0
          replace hx125_1 := (HB.out.cell (World.block_lt_of_cell? w _ hx125_1)).trans hx125_1
          replace hx125_2 := (HB.out.cell (World.block_lt_of_cell? w _ hx125_2)).trans hx125_2
          replace hx125_3 := (HB.out.cell (World.block_lt_of_cell? w _ hx125_3)).trans hx125_3
          replace hx125_4 := (HB.out.cell (World.block_lt_of_cell? w _ hx125_4)).trans hx125_4
          replace hx125_5 := (HB.out.cell (World.block_lt_of_cell? w _ hx125_5)).trans hx125_5
          replace p125 := eq_true p125
          replace q125 := eq_true q125
          try go_wp2_with (first | ((with_reducible refine gate_dst (N := 7) rfl ?_); refine box_event ?hg (N := 7) ?hd (cs := #[.string (⟨#[]⟩ : ByteArray), .int .i64 0, .int .i64 0, .bool false, .int .i64 0, .int .i64 0]) (t := 48) ?hr ?_; (case hd => rfl); (case hg => rfl); (case hr => first | (go_simp; done) | (go_simp; rfl)); intro gb126 hg w50 hbox hb; have n0_ := Aside0.mk (below_step Sk.bl_ hb); have n1_ := Aside0.mk (hbox); have n2_ := Aside0.mk ((by rw [hg]; exact (below_size Sk.bl_) : w.heap.size ≤ gb126)); have n3_ := Aside0.mk ((by rw [hg]; exact (below_size Sk.bl_) : w.heap.size ≤ gb126)); clear HB; have HB := n0_; have BK126 := n1_; have GW126 := n2_; have GE126 := n3_; clear n0_ n1_ n2_ n3_; clear hb hbox hg; obtain ⟨hcz51_0, hcz51_1, hcz51_2, hcz51_3, hcz51_4, hcz51_5⟩ := spec_StackOk.cl6 BK126.out; obtain ⟨hfz51_0, hfz51_1, hfz51_2, hfz51_3, hfz51_4, hfz51_5⟩ := spec_StackOk.fz6 BK126.out))
          have n0_ : Aside0 (((((((w50.setCell ⟨gb126, 0, none⟩ (.string ((rd_T48 l0 x6_1).f0))).setCell ⟨gb126, 1, none⟩ (.int .i64 ((rd_T48 l0 x6_1).f1))).setCell ⟨gb126, 2, none⟩ (.int .i64 ((rd_T48 l0 x6_1).f2))).setCell ⟨gb126, 3, none⟩ (.bool true)).setCell ⟨gb126, 4, none⟩ (.int .i64 ((rd_T48 l0 x6_1).f4))).setCell ⟨gb126, 5, none⟩ (.int .i64 ((rd_T48 l0 x6_1).f5))).heap[gb126]? = some (.cells #[.string ((rd_T48 l0 x6_1).f0), .int .i64 ((rd_T48 l0 x6_1).f1), .int .i64 ((rd_T48 l0 x6_1).f2), .bool true, .int .i64 ((rd_T48 l0 x6_1).f4), .int .i64 ((rd_T48 l0 x6_1).f5)] 48 (0, 0))) := ⟨by (with_reducible repeat (first | refine blk_drewN ?_ _ | refine blk_drew ?_ | refine blk_alloc ?_ _)); refine blk_put (cs := #[.string ((rd_T48 l0 x6_1).f0), .int .i64 ((rd_T48 l0 x6_1).f1), .int .i64 ((rd_T48 l0 x6_1).f2), .bool true, .int .i64 ((rd_T48 l0 x6_1).f4), .int .i64 0]) ?_ 5 _ rfl; (with_reducible repeat (first | refine blk_drewN ?_ _ | refine blk_drew ?_ | refine blk_alloc ?_ _)); refine blk_put (cs := #[.string ((rd_T48 l0 x6_1).f0), .int .i64 ((rd_T48 l0 x6_1).f1), .int .i64 ((rd_T48 l0 x6_1).f2), .bool true, .int .i64 0, .int .i64 0]) ?_ 4 _ rfl; (with_reducible repeat (first | refine blk_drewN ?_ _ | refine blk_drew ?_ | refine blk_alloc ?_ _)); refine blk_put (cs := #[.string ((rd_T48 l0 x6_1).f0), .int .i64 ((rd_T48 l0 x6_1).f1), .int .i64 ((rd_T48 l0 x6_1).f2), .bool false, .int .i64 0, .int .i64 0]) ?_ 3 _ rfl; (with_reducible repeat (first | refine blk_drewN ?_ _ | refine blk_drew ?_ | refine blk_alloc ?_ _)); refine blk_put (cs := #[.string ((rd_T48 l0 x6_1).f0), .int .i64 ((rd_T48 l0 x6_1).f1), .int .i64 0, .bool false, .int .i64 0, .int .i64 0]) ?_ 2 _ rfl; (with_reducible repeat (first | refine blk_drewN ?_ _ | refine blk_drew ?_ | refine blk_alloc ?_ _)); refine blk_put (cs := #[.string ((rd_T48 l0 x6_1).f0), .int .i64 0, .int .i64 0, .bool false, .int .i64 0, .int .i64 0]) ?_ 1 _ rfl; (with_reducible repeat (first | refine blk_drewN ?_ _ | refine blk_drew ?_ | refine blk_alloc ?_ _)); refine blk_put (cs := #[.string (⟨#[]⟩ : ByteArray), .int .i64 0, .int .i64 0, .bool false, .int .i64 0, .int .i64 0]) ?_ 0 _ rfl; (with_reducible repeat (first | refine blk_drewN ?_ _ | refine blk_drew ?_ | refine blk_alloc ?_ _)); exact BK126.out⟩
          have n1_ : Aside0 (Below w.heap.size w ((((((w50.setCell ⟨gb126, 0, none⟩ (.string ((rd_T48 l0 x6_1).f0))).setCell ⟨gb126, 1, none⟩ (.int .i64 ((rd_T48 l0 x6_1).f1))).setCell ⟨gb126, 2, none⟩ (.int .i64 ((rd_T48 l0 x6_1).f2))).setCell ⟨gb126, 3, none⟩ (.bool true)).setCell ⟨gb126, 4, none⟩ (.int .i64 ((rd_T48 l0 x6_1).f4))).setCell ⟨gb126, 5, none⟩ (.int .i64 ((rd_T48 l0 x6_1).f5)))) := ⟨by repeat (first | (with_reducible first | exact HB.out | apply below_alloc | apply pw_below_drewN | apply below_drew1 | refine below_set ?_ GE126.out) | exact HB.out)⟩
          (try clear BK126)
          (try clear HB)
          generalize ((((((w50.setCell ⟨gb126, 0, none⟩ (.string ((rd_T48 l0 x6_1).f0))).setCell ⟨gb126, 1, none⟩ (.int .i64 ((rd_T48 l0 x6_1).f1))).setCell ⟨gb126, 2, none⟩ (.int .i64 ((rd_T48 l0 x6_1).f2))).setCell ⟨gb126, 3, none⟩ (.bool true)).setCell ⟨gb126, 4, none⟩ (.int .i64 ((rd_T48 l0 x6_1).f4))).setCell ⟨gb126, 5, none⟩ (.int .i64 ((rd_T48 l0 x6_1).f5))) = w52 at n0_ n1_ ⊢
          have BK126 := n0_
          have HB := n1_
          clear n0_ n1_
          have n0_ := Aside0.mk (blk_drew BK126.out)
          have n1_ := Aside0.mk (below_drew1 HB.out)
          clear BK126
          clear HB
          have BK126 := n0_
          have HB := n1_
          clear n0_ n1_
          refine start_ (n := 31) (S := fun w' => w'.cell? ⟨gb126, 0, none⟩ = some (.string ((rd_T48 l0 x6_1).f0)) ∧ w'.cell? ⟨gb126, 1, none⟩ = some (.int .i64 ((rd_T48 l0 x6_1).f1)) ∧ w'.cell? ⟨gb126, 2, none⟩ = some (.int .i64 ((rd_T48 l0 x6_1).f2)) ∧ w'.cell? ⟨gb126, 3, none⟩ = some (.bool true) ∧ w'.cell? ⟨gb126, 4, none⟩ = some (.int .i64 ((rd_T48 l0 x6_1).f4)) ∧ w'.cell? ⟨gb126, 5, none⟩ = some (.int .i64 ((rd_T48 l0 x6_1).f5))) (ds := []) spec_StackOk.v0 (by kernel_rfl) rfl rfl ⟨(blk_cell BK126.out 0).trans rfl, (blk_cell BK126.out 1).trans rfl, (blk_cell BK126.out 2).trans rfl, (blk_cell BK126.out 3).trans rfl, (blk_cell BK126.out 4).trans rfl, (blk_cell BK126.out 5).trans rfl⟩ (fun hHeld => ?_); refine with_tabW spec_StackOk.tab6 spec_StackOk.bits6 (fun HT_ HW_ => ?_)
          generalize w52.drew = w53 at BK126 HB hHeld ⊢
          refine Sk.pq 0 18 spec_StackOk.v1 HT_.out (h := ?_)
          refine Sk.pq 1 19 spec_StackOk.v2 HT_.out (h := ?_)
          refine Sk.pq 2 20 spec_StackOk.v3 HT_.out (h := ?_)
          refine Sk.pq 3 21 spec_StackOk.v4 HT_.out (h := ?_)
          refine Sk.tk6 4 22 spec_StackOk.v5 HT_.out HW_.out hHeld (h := ?_)
          refine one_ (i := 5) (N := some 23) spec_StackOk.v6 rfl rfl (one_of HT_.out (by kernel_rfl)) (by decide) (fun K hK => ?_)
          refine goes_ Try.func38 (by kernel_rfl) rfl #[.agg #[.string ((rd_T48 l0 x6_1).f0), .int .i64 ((rd_T48 l0 x6_1).f1), .int .i64 ((rd_T48 l0 x6_1).f2), .bool true, .int .i64 ((rd_T48 l0 x6_1).f4), .int .i64 ((rd_T48 l0 x6_1).f5)]] (by rfl) rfl rfl (by (try simp only [List.map_toArray, List.map_cons, List.map_nil]); first | done | rfl | (simp only [List.length_drop, List.length_take]; rfl)) ?_
          with_reducible refine (spec_BoxOk.calls k1 ((rd_T48 l0 x6_1).f0) ((rd_T48 l0 x6_1).f1) ((rd_T48 l0 x6_1).f2) true ((rd_T48 l0 x6_1).f4) ((rd_T48 l0 x6_1).f5) true _ (by first | exact A10.out | (have h_ := A10.out; (try rw [← Nbq22.out] at h_); (try rw [← Nbq42.out] at h_); exact h_))).mono ?_
          rintro e w54 ⟨rfl, hb⟩
          refine ⟨_, rfl, ?_⟩
          have n0_ := Aside0.mk (blk_below (g := gb126) (by (with_reducible repeat (first | refine blk_drewN ?_ _ | refine blk_drew ?_ | refine blk_alloc ?_ _)); exact BK126.out) hb)
          have n1_ := Aside0.mk (below_step (by repeat (first | (with_reducible first | exact HB.out | apply below_alloc | apply pw_below_drewN | apply below_drew1 | refine below_set ?_ GE126.out) | exact HB.out)) hb)
          clear BK126
          clear HB
          have BK126 := n0_
          have HB := n1_
          clear n0_ n1_
          (try clear hb)
          refine hK.out _ _ ⟨(blk_cell BK126.out 0).trans rfl, (blk_cell BK126.out 1).trans rfl, (blk_cell BK126.out 2).trans rfl, (blk_cell BK126.out 3).trans rfl, (blk_cell BK126.out 4).trans rfl, (blk_cell BK126.out 5).trans rfl⟩ (fun hHeld => ?_)
          clear hK K
          refine Sk.nm 23 (h := ?_)
          refine Sk.pq 6 24 spec_StackOk.v7 HT_.out (h := ?_)
          refine Sk.pq 7 25 spec_StackOk.v8 HT_.out (h := ?_)
          refine Sk.pq 8 26 spec_StackOk.v9 HT_.out (h := ?_)
          refine Sk.pq 9 27 spec_StackOk.v10 HT_.out (h := ?_)
          refine Sk.pq 10 28 spec_StackOk.v11 HT_.out (h := ?_)
          refine Sk.pq 11 29 spec_StackOk.v12 HT_.out (h := ?_)
          refine Sk.pu 12 30 spec_StackOk.v13 HT_.out (h := ?_)
          refine Sk.pu 13 31 spec_StackOk.v14 HT_.out (h := ?_)
          refine Sk.pu 14 32 spec_StackOk.v15 HT_.out (h := ?_)
          refine Sk.pu 15 33 spec_StackOk.v16 HT_.out (h := ?_)
          refine Sk.pu 16 34 spec_StackOk.v17 HT_.out (h := ?_)
          refine Sk.pu 17 35 spec_StackOk.v18 HT_.out (h := ?_)
          refine Sk.pu 18 36 spec_StackOk.v19 HT_.out (h := ?_)
          refine Sk.pu 19 37 spec_StackOk.v20 HT_.out (h := ?_)
          refine Sk.pu 20 38 spec_StackOk.v21 HT_.out (h := ?_)
          refine Sk.pq 21 39 spec_StackOk.v22 HT_.out (h := ?_)
          refine Sk.pq 22 40 spec_StackOk.v23 HT_.out (h := ?_)
          refine Sk.pq 23 41 spec_StackOk.v24 HT_.out (h := ?_)
          refine Sk.pq 24 42 spec_StackOk.v25 HT_.out (h := ?_)
          refine Sk.tk6 25 43 spec_StackOk.v26 HT_.out HW_.out hHeld (h := ?_)
          refine Sk.pq 26 44 spec_StackOk.v27 HT_.out (h := ?_)
          refine Sk.pq 27 45 spec_StackOk.v28 HT_.out (h := ?_)
          refine Sk.pq 28 46 spec_StackOk.v29 HT_.out (h := ?_)
          refine Sk.pq 29 47 spec_StackOk.v30 HT_.out (h := ?_)
          refine Sk.pq 30 48 spec_StackOk.v31 HT_.out (h := ?_)
          refine done_ (done_of HT_.out (by kernel_rfl)) ?_
          obtain ⟨hcz55_0, hcz55_1, hcz55_2, hcz55_3, hcz55_4, hcz55_5⟩ := spec_StackOk.cl6 BK126.out
          obtain ⟨hfz55_0, hfz55_1, hfz55_2, hfz55_3, hfz55_4, hfz55_5⟩ := spec_StackOk.fz6 BK126.out
          try go_wp2
          go_roundg k1
          case measure => have := HK1.out; omega
          case rel => exact ⟨(wrap64 (x5_1 + ((rd_T48 l0 x6_1).f1))), (wrap64 (x6_1 + 1)), (by first | rfl | (simp; done) | (simp [*]; done)), (by first | rfl | (simp; done) | (simp [*]; done)), H', ⟨by have := HK1.out; omega⟩, ⟨by repeat (first | (with_reducible first | exact HB.out | apply below_alloc | apply pw_below_drewN | apply below_drew1 | refine below_set ?_ GE126.out) | exact HB.out)⟩⟩
        ·replace c43 := Bool.eq_false_iff.mpr c43
         subst c43
         rw [if_neg (show ¬ (false = true) by decide)] at H
         have H' := Aside0.mk H
         clear H
         have p125 : 0 ≤ (x6_1 : Int) := of_decide_eq_true (by first | (with_reducible assumption) | assumption)
         have q125 : x6_1 < (l0.length : Int) := of_decide_eq_true (by first | (with_reducible assumption) | assumption)
         obtain ⟨ad125, e125, hx125_0, hx125_1, hx125_2, hx125_3, hx125_4, hx125_5⟩ := at_T48 HR0.out x6_1 p125 q125
         (try rw [← Nbq42.out] at hx125_3)
         cases e125
         replace hx125_0 := (HB.out.cell (World.block_lt_of_cell? w _ hx125_0)).trans hx125_0
         replace hx125_1 := (HB.out.cell (World.block_lt_of_cell? w _ hx125_1)).trans hx125_1
         replace hx125_2 := (HB.out.cell (World.block_lt_of_cell? w _ hx125_2)).trans hx125_2
         replace hx125_3 := (HB.out.cell (World.block_lt_of_cell? w _ hx125_3)).trans hx125_3
         replace hx125_4 := (HB.out.cell (World.block_lt_of_cell? w _ hx125_4)).trans hx125_4
         replace hx125_5 := (HB.out.cell (World.block_lt_of_cell? w _ hx125_5)).trans hx125_5
         replace p125 := eq_true p125
         replace q125 := eq_true q125
         try go_wp2_with (first | ((with_reducible refine gate_dst (N := 7) rfl ?_); refine box_event ?hg (N := 7) ?hd (cs := #[.string (⟨#[]⟩ : ByteArray), .int .i64 0, .int .i64 0, .bool false, .int .i64 0, .int .i64 0]) (t := 48) ?hr ?_; (case hd => rfl); (case hg => rfl); (case hr => first | (go_simp; done) | (go_simp; rfl)); intro gb126 hg w56 hbox hb; have n0_ := Aside0.mk (below_step Sk.bl_ hb); have n1_ := Aside0.mk (hbox); have n2_ := Aside0.mk ((by rw [hg]; exact (below_size Sk.bl_) : w.heap.size ≤ gb126)); have n3_ := Aside0.mk ((by rw [hg]; exact (below_size Sk.bl_) : w.heap.size ≤ gb126)); clear HB; have HB := n0_; have BK126 := n1_; have GW126 := n2_; have GE126 := n3_; clear n0_ n1_ n2_ n3_; clear hb hbox hg; obtain ⟨hcz57_0, hcz57_1, hcz57_2, hcz57_3, hcz57_4, hcz57_5⟩ := spec_StackOk.cl6 BK126.out; obtain ⟨hfz57_0, hfz57_1, hfz57_2, hfz57_3, hfz57_4, hfz57_5⟩ := spec_StackOk.fz6 BK126.out))
         have n0_ : Aside0 (((((((w56.setCell ⟨gb126, 0, none⟩ (.string ((rd_T48 l0 x6_1).f0))).setCell ⟨gb126, 1, none⟩ (.int .i64 ((rd_T48 l0 x6_1).f1))).setCell ⟨gb126, 2, none⟩ (.int .i64 ((rd_T48 l0 x6_1).f2))).setCell ⟨gb126, 3, none⟩ (.bool false)).setCell ⟨gb126, 4, none⟩ (.int .i64 ((rd_T48 l0 x6_1).f4))).setCell ⟨gb126, 5, none⟩ (.int .i64 ((rd_T48 l0 x6_1).f5))).heap[gb126]? = some (.cells #[.string ((rd_T48 l0 x6_1).f0), .int .i64 ((rd_T48 l0 x6_1).f1), .int .i64 ((rd_T48 l0 x6_1).f2), .bool false, .int .i64 ((rd_T48 l0 x6_1).f4), .int .i64 ((rd_T48 l0 x6_1).f5)] 48 (0, 0))) := ⟨by (with_reducible repeat (first | refine blk_drewN ?_ _ | refine blk_drew ?_ | refine blk_alloc ?_ _)); refine blk_put (cs := #[.string ((rd_T48 l0 x6_1).f0), .int .i64 ((rd_T48 l0 x6_1).f1), .int .i64 ((rd_T48 l0 x6_1).f2), .bool false, .int .i64 ((rd_T48 l0 x6_1).f4), .int .i64 0]) ?_ 5 _ rfl; (with_reducible repeat (first | refine blk_drewN ?_ _ | refine blk_drew ?_ | refine blk_alloc ?_ _)); refine blk_put (cs := #[.string ((rd_T48 l0 x6_1).f0), .int .i64 ((rd_T48 l0 x6_1).f1), .int .i64 ((rd_T48 l0 x6_1).f2), .bool false, .int .i64 0, .int .i64 0]) ?_ 4 _ rfl; (with_reducible repeat (first | refine blk_drewN ?_ _ | refine blk_drew ?_ | refine blk_alloc ?_ _)); refine blk_put (cs := #[.string ((rd_T48 l0 x6_1).f0), .int .i64 ((rd_T48 l0 x6_1).f1), .int .i64 ((rd_T48 l0 x6_1).f2), .bool false, .int .i64 0, .int .i64 0]) ?_ 3 _ rfl; (with_reducible repeat (first | refine blk_drewN ?_ _ | refine blk_drew ?_ | refine blk_alloc ?_ _)); refine blk_put (cs := #[.string ((rd_T48 l0 x6_1).f0), .int .i64 ((rd_T48 l0 x6_1).f1), .int .i64 0, .bool false, .int .i64 0, .int .i64 0]) ?_ 2 _ rfl; (with_reducible repeat (first | refine blk_drewN ?_ _ | refine blk_drew ?_ | refine blk_alloc ?_ _)); refine blk_put (cs := #[.string ((rd_T48 l0 x6_1).f0), .int .i64 0, .int .i64 0, .bool false, .int .i64 0, .int .i64 0]) ?_ 1 _ rfl; (with_reducible repeat (first | refine blk_drewN ?_ _ | refine blk_drew ?_ | refine blk_alloc ?_ _)); refine blk_put (cs := #[.string (⟨#[]⟩ : ByteArray), .int .i64 0, .int .i64 0, .bool false, .int .i64 0, .int .i64 0]) ?_ 0 _ rfl; (with_reducible repeat (first | refine blk_drewN ?_ _ | refine blk_drew ?_ | refine blk_alloc ?_ _)); exact BK126.out⟩
         have n1_ : Aside0 (Below w.heap.size w ((((((w56.setCell ⟨gb126, 0, none⟩ (.string ((rd_T48 l0 x6_1).f0))).setCell ⟨gb126, 1, none⟩ (.int .i64 ((rd_T48 l0 x6_1).f1))).setCell ⟨gb126, 2, none⟩ (.int .i64 ((rd_T48 l0 x6_1).f2))).setCell ⟨gb126, 3, none⟩ (.bool false)).setCell ⟨gb126, 4, none⟩ (.int .i64 ((rd_T48 l0 x6_1).f4))).setCell ⟨gb126, 5, none⟩ (.int .i64 ((rd_T48 l0 x6_1).f5)))) := ⟨by repeat (first | (with_reducible first | exact HB.out | apply below_alloc | apply pw_below_drewN | apply below_drew1 | refine below_set ?_ GE126.out) | exact HB.out)⟩
         (try clear BK126)
         (try clear HB)
         generalize ((((((w56.setCell ⟨gb126, 0, none⟩ (.string ((rd_T48 l0 x6_1).f0))).setCell ⟨gb126, 1, none⟩ (.int .i64 ((rd_T48 l0 x6_1).f1))).setCell ⟨gb126, 2, none⟩ (.int .i64 ((rd_T48 l0 x6_1).f2))).setCell ⟨gb126, 3, none⟩ (.bool false)).setCell ⟨gb126, 4, none⟩ (.int .i64 ((rd_T48 l0 x6_1).f4))).setCell ⟨gb126, 5, none⟩ (.int .i64 ((rd_T48 l0 x6_1).f5))) = w58 at n0_ n1_ ⊢
         have BK126 := n0_
         have HB := n1_
         clear n0_ n1_
         have n0_ := Aside0.mk (blk_drew BK126.out)
         have n1_ := Aside0.mk (below_drew1 HB.out)
         clear BK126
         clear HB
         have BK126 := n0_
         have HB := n1_
         clear n0_ n1_
         refine start_ (n := 31) (S := fun w' => w'.cell? ⟨gb126, 0, none⟩ = some (.string ((rd_T48 l0 x6_1).f0)) ∧ w'.cell? ⟨gb126, 1, none⟩ = some (.int .i64 ((rd_T48 l0 x6_1).f1)) ∧ w'.cell? ⟨gb126, 2, none⟩ = some (.int .i64 ((rd_T48 l0 x6_1).f2)) ∧ w'.cell? ⟨gb126, 3, none⟩ = some (.bool false) ∧ w'.cell? ⟨gb126, 4, none⟩ = some (.int .i64 ((rd_T48 l0 x6_1).f4)) ∧ w'.cell? ⟨gb126, 5, none⟩ = some (.int .i64 ((rd_T48 l0 x6_1).f5))) (ds := []) spec_StackOk.v0 (by kernel_rfl) rfl rfl ⟨(blk_cell BK126.out 0).trans rfl, (blk_cell BK126.out 1).trans rfl, (blk_cell BK126.out 2).trans rfl, (blk_cell BK126.out 3).trans rfl, (blk_cell BK126.out 4).trans rfl, (blk_cell BK126.out 5).trans rfl⟩ (fun hHeld => ?_); refine with_tabW spec_StackOk.tab6 spec_StackOk.bits6 (fun HT_ HW_ => ?_)
         generalize w58.drew = w59 at BK126 HB hHeld ⊢
         refine Sk.pq 0 18 spec_StackOk.v1 HT_.out (h := ?_)
         refine Sk.pq 1 19 spec_StackOk.v2 HT_.out (h := ?_)
         refine Sk.pq 2 20 spec_StackOk.v3 HT_.out (h := ?_)
         refine Sk.pq 3 21 spec_StackOk.v4 HT_.out (h := ?_)
         refine Sk.tk6 4 22 spec_StackOk.v5 HT_.out HW_.out hHeld (h := ?_)
         refine one_ (i := 5) (N := some 23) spec_StackOk.v6 rfl rfl (one_of HT_.out (by kernel_rfl)) (by decide) (fun K hK => ?_)
         refine goes_ Try.func38 (by kernel_rfl) rfl #[.agg #[.string ((rd_T48 l0 x6_1).f0), .int .i64 ((rd_T48 l0 x6_1).f1), .int .i64 ((rd_T48 l0 x6_1).f2), .bool false, .int .i64 ((rd_T48 l0 x6_1).f4), .int .i64 ((rd_T48 l0 x6_1).f5)]] (by rfl) rfl rfl (by (try simp only [List.map_toArray, List.map_cons, List.map_nil]); first | done | rfl | (simp only [List.length_drop, List.length_take]; rfl)) ?_
         with_reducible refine (spec_BoxOk.calls k1 ((rd_T48 l0 x6_1).f0) ((rd_T48 l0 x6_1).f1) ((rd_T48 l0 x6_1).f2) false ((rd_T48 l0 x6_1).f4) ((rd_T48 l0 x6_1).f5) true _ (by first | exact A10.out | (have h_ := A10.out; (try rw [← Nbq22.out] at h_); (try rw [← Nbq42.out] at h_); exact h_))).mono ?_
         rintro e w60 ⟨rfl, hb⟩
         refine ⟨_, rfl, ?_⟩
         have n0_ := Aside0.mk (blk_below (g := gb126) (by (with_reducible repeat (first | refine blk_drewN ?_ _ | refine blk_drew ?_ | refine blk_alloc ?_ _)); exact BK126.out) hb)
         have n1_ := Aside0.mk (below_step (by repeat (first | (with_reducible first | exact HB.out | apply below_alloc | apply pw_below_drewN | apply below_drew1 | refine below_set ?_ GE126.out) | exact HB.out)) hb)
         clear BK126
         clear HB
         have BK126 := n0_
         have HB := n1_
         clear n0_ n1_
         (try clear hb)
         refine hK.out _ _ ⟨(blk_cell BK126.out 0).trans rfl, (blk_cell BK126.out 1).trans rfl, (blk_cell BK126.out 2).trans rfl, (blk_cell BK126.out 3).trans rfl, (blk_cell BK126.out 4).trans rfl, (blk_cell BK126.out 5).trans rfl⟩ (fun hHeld => ?_)
         clear hK K
         refine Sk.nm 23 (h := ?_)
         refine Sk.pq 6 24 spec_StackOk.v7 HT_.out (h := ?_)
         refine Sk.pq 7 25 spec_StackOk.v8 HT_.out (h := ?_)
         refine Sk.pq 8 26 spec_StackOk.v9 HT_.out (h := ?_)
         refine Sk.pq 9 27 spec_StackOk.v10 HT_.out (h := ?_)
         refine Sk.pq 10 28 spec_StackOk.v11 HT_.out (h := ?_)
         refine Sk.pq 11 29 spec_StackOk.v12 HT_.out (h := ?_)
         refine Sk.pu 12 30 spec_StackOk.v13 HT_.out (h := ?_)
         refine Sk.pu 13 31 spec_StackOk.v14 HT_.out (h := ?_)
         refine Sk.pu 14 32 spec_StackOk.v15 HT_.out (h := ?_)
         refine Sk.pu 15 33 spec_StackOk.v16 HT_.out (h := ?_)
         refine Sk.pu 16 34 spec_StackOk.v17 HT_.out (h := ?_)
         refine Sk.pu 17 35 spec_StackOk.v18 HT_.out (h := ?_)
         refine Sk.pu 18 36 spec_StackOk.v19 HT_.out (h := ?_)
         refine Sk.pu 19 37 spec_StackOk.v20 HT_.out (h := ?_)
         refine Sk.pu 20 38 spec_StackOk.v21 HT_.out (h := ?_)
         refine Sk.pq 21 39 spec_StackOk.v22 HT_.out (h := ?_)
         refine Sk.pq 22 40 spec_StackOk.v23 HT_.out (h := ?_)
         refine Sk.pq 23 41 spec_StackOk.v24 HT_.out (h := ?_)
         refine Sk.pq 24 42 spec_StackOk.v25 HT_.out (h := ?_)
         refine Sk.tk6 25 43 spec_StackOk.v26 HT_.out HW_.out hHeld (h := ?_)
         refine Sk.pq 26 44 spec_StackOk.v27 HT_.out (h := ?_)
         refine Sk.pu 27 45 spec_StackOk.v28 HT_.out (h := ?_)
         refine Sk.pu 28 46 spec_StackOk.v29 HT_.out (h := ?_)
         refine Sk.pq 29 47 spec_StackOk.v30 HT_.out (h := ?_)
         refine Sk.pq 30 48 spec_StackOk.v31 HT_.out (h := ?_)
         refine done_ (done_of HT_.out (by kernel_rfl)) ?_
         obtain ⟨hcz61_0, hcz61_1, hcz61_2, hcz61_3, hcz61_4, hcz61_5⟩ := spec_StackOk.cl6 BK126.out
         obtain ⟨hfz61_0, hfz61_1, hfz61_2, hfz61_3, hfz61_4, hfz61_5⟩ := spec_StackOk.fz6 BK126.out
         try go_wp2
         go_roundg k1
         case measure => have := HK1.out; omega
         case rel => exact ⟨(wrap64 (x5_1 + ((rd_T48 l0 x6_1).f1))), (wrap64 (x6_1 + 1)), (by first | rfl | (simp; done) | (simp [*]; done)), (by first | rfl | (simp; done) | (simp [*]; done)), H', ⟨by have := HK1.out; omega⟩, ⟨by repeat (first | (with_reducible first | exact HB.out | apply below_alloc | apply pw_below_drewN | apply below_drew1 | refine below_set ?_ GE126.out) | exact HB.out)⟩⟩
      ·replace c11 := Bool.eq_false_iff.mpr c11
       subst c11
       rw [if_neg (show ¬ (false = true) by decide)] at H
       obtain rfl := Option.some.inj H
       have p125 : 0 ≤ (x6_1 : Int) := of_decide_eq_true (by first | (with_reducible assumption) | assumption)
       have q125 : x6_1 < (l0.length : Int) := of_decide_eq_true (by first | (with_reducible assumption) | assumption)
       obtain ⟨ad125, e125, hx125_0, hx125_1, hx125_2, hx125_3, hx125_4, hx125_5⟩ := at_T48 HR0.out x6_1 p125 q125
       cases e125
       replace hx125_0 := (HB.out.cell (World.block_lt_of_cell? w _ hx125_0)).trans hx125_0
       replace hx125_1 := (HB.out.cell (World.block_lt_of_cell? w _ hx125_1)).trans hx125_1
       replace hx125_2 := (HB.out.cell (World.block_lt_of_cell? w _ hx125_2)).trans hx125_2
       replace hx125_3 := (HB.out.cell (World.block_lt_of_cell? w _ hx125_3)).trans hx125_3
       replace hx125_4 := (HB.out.cell (World.block_lt_of_cell? w _ hx125_4)).trans hx125_4
       replace hx125_5 := (HB.out.cell (World.block_lt_of_cell? w _ hx125_5)).trans hx125_5
       replace p125 := eq_true p125
       replace q125 := eq_true q125
       try go_wp2_with (first | ((with_reducible refine gate_dst (N := 7) rfl ?_); refine box_event ?hg (N := 7) ?hd (cs := #[.string (⟨#[]⟩ : ByteArray), .int .i64 0, .int .i64 0, .bool false, .int .i64 0, .int .i64 0]) (t := 48) ?hr ?_; (case hd => rfl); (case hg => rfl); (case hr => first | (go_simp; done) | (go_simp; rfl)); intro gb126 hg w62 hbox hb; have n0_ := Aside0.mk (below_step Sk.bl_ hb); have n1_ := Aside0.mk (hbox); have n2_ := Aside0.mk ((by rw [hg]; exact (below_size Sk.bl_) : w.heap.size ≤ gb126)); have n3_ := Aside0.mk ((by rw [hg]; exact (below_size Sk.bl_) : w.heap.size ≤ gb126)); clear HB; have HB := n0_; have BK126 := n1_; have GW126 := n2_; have GE126 := n3_; clear n0_ n1_ n2_ n3_; clear hb hbox hg; obtain ⟨hcz63_0, hcz63_1, hcz63_2, hcz63_3, hcz63_4, hcz63_5⟩ := spec_StackOk.cl6 BK126.out; obtain ⟨hfz63_0, hfz63_1, hfz63_2, hfz63_3, hfz63_4, hfz63_5⟩ := spec_StackOk.fz6 BK126.out))
       have n0_ : Aside0 (((((((w62.setCell ⟨gb126, 0, none⟩ (.string ((rd_T48 l0 x6_1).f0))).setCell ⟨gb126, 1, none⟩ (.int .i64 ((rd_T48 l0 x6_1).f1))).setCell ⟨gb126, 2, none⟩ (.int .i64 ((rd_T48 l0 x6_1).f2))).setCell ⟨gb126, 3, none⟩ (.bool ((rd_T48 l0 x6_1).f3))).setCell ⟨gb126, 4, none⟩ (.int .i64 ((rd_T48 l0 x6_1).f4))).setCell ⟨gb126, 5, none⟩ (.int .i64 ((rd_T48 l0 x6_1).f5))).heap[gb126]? = some (.cells #[.string ((rd_T48 l0 x6_1).f0), .int .i64 ((rd_T48 l0 x6_1).f1), .int .i64 ((rd_T48 l0 x6_1).f2), .bool ((rd_T48 l0 x6_1).f3), .int .i64 ((rd_T48 l0 x6_1).f4), .int .i64 ((rd_T48 l0 x6_1).f5)] 48 (0, 0))) := ⟨by (with_reducible repeat (first | refine blk_drewN ?_ _ | refine blk_drew ?_ | refine blk_alloc ?_ _)); refine blk_put (cs := #[.string ((rd_T48 l0 x6_1).f0), .int .i64 ((rd_T48 l0 x6_1).f1), .int .i64 ((rd_T48 l0 x6_1).f2), .bool ((rd_T48 l0 x6_1).f3), .int .i64 ((rd_T48 l0 x6_1).f4), .int .i64 0]) ?_ 5 _ rfl; (with_reducible repeat (first | refine blk_drewN ?_ _ | refine blk_drew ?_ | refine blk_alloc ?_ _)); refine blk_put (cs := #[.string ((rd_T48 l0 x6_1).f0), .int .i64 ((rd_T48 l0 x6_1).f1), .int .i64 ((rd_T48 l0 x6_1).f2), .bool ((rd_T48 l0 x6_1).f3), .int .i64 0, .int .i64 0]) ?_ 4 _ rfl; (with_reducible repeat (first | refine blk_drewN ?_ _ | refine blk_drew ?_ | refine blk_alloc ?_ _)); refine blk_put (cs := #[.string ((rd_T48 l0 x6_1).f0), .int .i64 ((rd_T48 l0 x6_1).f1), .int .i64 ((rd_T48 l0 x6_1).f2), .bool false, .int .i64 0, .int .i64 0]) ?_ 3 _ rfl; (with_reducible repeat (first | refine blk_drewN ?_ _ | refine blk_drew ?_ | refine blk_alloc ?_ _)); refine blk_put (cs := #[.string ((rd_T48 l0 x6_1).f0), .int .i64 ((rd_T48 l0 x6_1).f1), .int .i64 0, .bool false, .int .i64 0, .int .i64 0]) ?_ 2 _ rfl; (with_reducible repeat (first | refine blk_drewN ?_ _ | refine blk_drew ?_ | refine blk_alloc ?_ _)); refine blk_put (cs := #[.string ((rd_T48 l0 x6_1).f0), .int .i64 0, .int .i64 0, .bool false, .int .i64 0, .int .i64 0]) ?_ 1 _ rfl; (with_reducible repeat (first | refine blk_drewN ?_ _ | refine blk_drew ?_ | refine blk_alloc ?_ _)); refine blk_put (cs := #[.string (⟨#[]⟩ : ByteArray), .int .i64 0, .int .i64 0, .bool false, .int .i64 0, .int .i64 0]) ?_ 0 _ rfl; (with_reducible repeat (first | refine blk_drewN ?_ _ | refine blk_drew ?_ | refine blk_alloc ?_ _)); exact BK126.out⟩
       have n1_ : Aside0 (Below w.heap.size w ((((((w62.setCell ⟨gb126, 0, none⟩ (.string ((rd_T48 l0 x6_1).f0))).setCell ⟨gb126, 1, none⟩ (.int .i64 ((rd_T48 l0 x6_1).f1))).setCell ⟨gb126, 2, none⟩ (.int .i64 ((rd_T48 l0 x6_1).f2))).setCell ⟨gb126, 3, none⟩ (.bool ((rd_T48 l0 x6_1).f3))).setCell ⟨gb126, 4, none⟩ (.int .i64 ((rd_T48 l0 x6_1).f4))).setCell ⟨gb126, 5, none⟩ (.int .i64 ((rd_T48 l0 x6_1).f5)))) := ⟨by repeat (first | (with_reducible first | exact HB.out | apply below_alloc | apply pw_below_drewN | apply below_drew1 | refine below_set ?_ GE126.out) | exact HB.out)⟩
       (try clear BK126)
       (try clear HB)
       generalize ((((((w62.setCell ⟨gb126, 0, none⟩ (.string ((rd_T48 l0 x6_1).f0))).setCell ⟨gb126, 1, none⟩ (.int .i64 ((rd_T48 l0 x6_1).f1))).setCell ⟨gb126, 2, none⟩ (.int .i64 ((rd_T48 l0 x6_1).f2))).setCell ⟨gb126, 3, none⟩ (.bool ((rd_T48 l0 x6_1).f3))).setCell ⟨gb126, 4, none⟩ (.int .i64 ((rd_T48 l0 x6_1).f4))).setCell ⟨gb126, 5, none⟩ (.int .i64 ((rd_T48 l0 x6_1).f5))) = w64 at n0_ n1_ ⊢
       have BK126 := n0_
       have HB := n1_
       clear n0_ n1_
       have n0_ := Aside0.mk (blk_drew BK126.out)
       have n1_ := Aside0.mk (below_drew1 HB.out)
       clear BK126
       clear HB
       have BK126 := n0_
       have HB := n1_
       clear n0_ n1_
       refine start_ (n := 31) (S := fun w' => w'.cell? ⟨gb126, 0, none⟩ = some (.string ((rd_T48 l0 x6_1).f0)) ∧ w'.cell? ⟨gb126, 1, none⟩ = some (.int .i64 ((rd_T48 l0 x6_1).f1)) ∧ w'.cell? ⟨gb126, 2, none⟩ = some (.int .i64 ((rd_T48 l0 x6_1).f2)) ∧ w'.cell? ⟨gb126, 3, none⟩ = some (.bool ((rd_T48 l0 x6_1).f3)) ∧ w'.cell? ⟨gb126, 4, none⟩ = some (.int .i64 ((rd_T48 l0 x6_1).f4)) ∧ w'.cell? ⟨gb126, 5, none⟩ = some (.int .i64 ((rd_T48 l0 x6_1).f5))) (ds := []) spec_StackOk.v0 (by kernel_rfl) rfl rfl ⟨(blk_cell BK126.out 0).trans rfl, (blk_cell BK126.out 1).trans rfl, (blk_cell BK126.out 2).trans rfl, (blk_cell BK126.out 3).trans rfl, (blk_cell BK126.out 4).trans rfl, (blk_cell BK126.out 5).trans rfl⟩ (fun hHeld => ?_); refine with_tabW spec_StackOk.tab6 spec_StackOk.bits6 (fun HT_ HW_ => ?_)
       generalize w64.drew = w65 at BK126 HB hHeld ⊢
       refine Sk.pq 0 18 spec_StackOk.v1 HT_.out (h := ?_)
       refine Sk.pq 1 19 spec_StackOk.v2 HT_.out (h := ?_)
       refine Sk.pq 2 20 spec_StackOk.v3 HT_.out (h := ?_)
       refine Sk.pq 3 21 spec_StackOk.v4 HT_.out (h := ?_)
       refine Sk.tk6 4 22 spec_StackOk.v5 HT_.out HW_.out hHeld (h := ?_)
       refine one_ (i := 5) (N := some 23) spec_StackOk.v6 rfl rfl (one_of HT_.out (by kernel_rfl)) (by decide) (fun K hK => ?_)
       refine goes_ Try.func38 (by kernel_rfl) rfl #[.agg #[.string ((rd_T48 l0 x6_1).f0), .int .i64 ((rd_T48 l0 x6_1).f1), .int .i64 ((rd_T48 l0 x6_1).f2), .bool ((rd_T48 l0 x6_1).f3), .int .i64 ((rd_T48 l0 x6_1).f4), .int .i64 ((rd_T48 l0 x6_1).f5)]] (by rfl) rfl rfl (by (try simp only [List.map_toArray, List.map_cons, List.map_nil]); first | done | rfl | (simp only [List.length_drop, List.length_take]; rfl)) ?_
       with_reducible refine (spec_BoxOk.calls k1 ((rd_T48 l0 x6_1).f0) ((rd_T48 l0 x6_1).f1) ((rd_T48 l0 x6_1).f2) ((rd_T48 l0 x6_1).f3) ((rd_T48 l0 x6_1).f4) ((rd_T48 l0 x6_1).f5) false _ (by first | exact A10.out | (have h_ := A10.out; (try rw [← Nbq22.out] at h_); (try rw [← Nbq42.out] at h_); exact h_))).mono ?_
       rintro e w66 ⟨rfl, hb⟩
       refine ⟨_, rfl, ?_⟩
       have n0_ := Aside0.mk (blk_below (g := gb126) (by (with_reducible repeat (first | refine blk_drewN ?_ _ | refine blk_drew ?_ | refine blk_alloc ?_ _)); exact BK126.out) hb)
       have n1_ := Aside0.mk (below_step (by repeat (first | (with_reducible first | exact HB.out | apply below_alloc | apply pw_below_drewN | apply below_drew1 | refine below_set ?_ GE126.out) | exact HB.out)) hb)
       clear BK126
       clear HB
       have BK126 := n0_
       have HB := n1_
       clear n0_ n1_
       (try clear hb)
       refine hK.out _ _ ⟨(blk_cell BK126.out 0).trans rfl, (blk_cell BK126.out 1).trans rfl, (blk_cell BK126.out 2).trans rfl, (blk_cell BK126.out 3).trans rfl, (blk_cell BK126.out 4).trans rfl, (blk_cell BK126.out 5).trans rfl⟩ (fun hHeld => ?_)
       clear hK K
       refine Sk.nm 23 (h := ?_)
       refine Sk.pq 6 24 spec_StackOk.v7 HT_.out (h := ?_)
       refine Sk.pq 7 25 spec_StackOk.v8 HT_.out (h := ?_)
       refine Sk.pq 8 26 spec_StackOk.v9 HT_.out (h := ?_)
       refine Sk.pu 9 27 spec_StackOk.v10 HT_.out (h := ?_)
       refine Sk.pu 10 28 spec_StackOk.v11 HT_.out (h := ?_)
       refine Sk.pu 11 29 spec_StackOk.v12 HT_.out (h := ?_)
       refine Sk.pu 12 30 spec_StackOk.v13 HT_.out (h := ?_)
       refine Sk.pu 13 31 spec_StackOk.v14 HT_.out (h := ?_)
       refine Sk.pu 14 32 spec_StackOk.v15 HT_.out (h := ?_)
       refine Sk.pu 15 33 spec_StackOk.v16 HT_.out (h := ?_)
       refine Sk.pu 16 34 spec_StackOk.v17 HT_.out (h := ?_)
       refine Sk.pu 17 35 spec_StackOk.v18 HT_.out (h := ?_)
       refine Sk.pu 18 36 spec_StackOk.v19 HT_.out (h := ?_)
       refine Sk.pu 19 37 spec_StackOk.v20 HT_.out (h := ?_)
       refine Sk.pu 20 38 spec_StackOk.v21 HT_.out (h := ?_)
       refine Sk.pu 21 39 spec_StackOk.v22 HT_.out (h := ?_)
       refine Sk.pq 22 40 spec_StackOk.v23 HT_.out (h := ?_)
       refine Sk.pq 23 41 spec_StackOk.v24 HT_.out (h := ?_)
       refine Sk.pu 24 42 spec_StackOk.v25 HT_.out (h := ?_)
       refine Sk.pu 25 43 spec_StackOk.v26 HT_.out (h := ?_)
       refine Sk.pu 26 44 spec_StackOk.v27 HT_.out (h := ?_)
       refine Sk.pu 27 45 spec_StackOk.v28 HT_.out (h := ?_)
       refine Sk.pu 28 46 spec_StackOk.v29 HT_.out (h := ?_)
       refine Sk.pu 29 47 spec_StackOk.v30 HT_.out (h := ?_)
       refine Sk.pq 30 48 spec_StackOk.v31 HT_.out (h := ?_)
       refine done_ (done_of HT_.out (by kernel_rfl)) ?_
       try go_wp2
       go_ret
       exact ⟨by first | rfl | (simp [errW_none, errW_some] <;> rfl) | (simp [*, errW_none, errW_some] <;> rfl), by repeat (first | (with_reducible first | exact HB.out | apply below_alloc | apply pw_below_drewN | apply below_drew1 | refine below_set ?_ GE126.out) | exact HB.out)⟩
    ·rw [if_neg c4] at H
     exact absurd H (by simp)
   ·rw [if_neg c3] at H
    have c3b0 : decide (x6_1 < (l0.length : Int)) = false := decide_eq_false c3
    clear c3
    replace H := Option.bind_eq_some_iff.mp H
    obtain ⟨t129, A670, H⟩ := H
    (try dsimp only at H)
    have A67 := Aside0.mk A670
    clear A670
    by_cases c68 : t129 = true
    ·subst c68
     rw [if_pos rfl] at H
     obtain rfl := Option.some.inj H
     go_wp2_with (first | ((with_reducible refine gate_callee (f := 37) rfl ?_); refine goesL_ (some 54) rfl rfl Try.func37 (by kernel_rfl) rfl #[.int .i64 a1, .int .i64 0, .int .i64 1000000] rfl (by (try simp only [List.map_toArray, List.map_cons, List.map_nil]); first | done | rfl | (simp only [List.length_drop, List.length_take]; rfl)) ?_; (with_reducible refine (spec_l1In.calls a1 0 1000000 true _ (by first | exact A67.out | (have h_ := A67.out; (try rw [← Nbq22.out] at h_); (try rw [← Nbq42.out] at h_); exact h_))).mono ?_); rintro e w' ⟨rfl, ⟨nd, rfl⟩⟩; refine ⟨_, rfl, ?_⟩))
     go_ret
     exact ⟨by first | rfl | (simp [errW_none, errW_some] <;> rfl) | (simp [*, errW_none, errW_some] <;> rfl), Sk.bl_⟩
    ·replace c68 := Bool.eq_false_iff.mpr c68
     subst c68
     rw [if_neg (show ¬ (false = true) by decide)] at H
     obtain rfl := Option.some.inj H
     go_wp2_with (first | ((with_reducible refine gate_callee (f := 37) rfl ?_); refine goesL_ (some 54) rfl rfl Try.func37 (by kernel_rfl) rfl #[.int .i64 a1, .int .i64 0, .int .i64 1000000] rfl (by (try simp only [List.map_toArray, List.map_cons, List.map_nil]); first | done | rfl | (simp only [List.length_drop, List.length_take]; rfl)) ?_; (with_reducible refine (spec_l1In.calls a1 0 1000000 false _ (by first | exact A67.out | (have h_ := A67.out; (try rw [← Nbq22.out] at h_); (try rw [← Nbq42.out] at h_); exact h_))).mono ?_); rintro e w' ⟨rfl, ⟨nd, rfl⟩⟩; refine ⟨_, rfl, ?_⟩))
     go_ret
     exact ⟨by first | rfl | (simp [errW_none, errW_some] <;> rfl) | (simp [*, errW_none, errW_some] <;> rfl), Sk.bl_⟩

end Go.Proofs.Ythfkmjbefdmopaa.PA
