/- What Go's functions that the laws reach come to: laid by a program of this session over the print's words. -/
import Derived.Test.YtlmohamgfindmaaPAx0
import Derived.Test.YtlmohamgfindmaaPAx48
namespace Go.Proofs.Ytlmohamgfindmaa.PA
open Go.RowKit Go.Proofs.YtlmohamgfindmaaW.PrintWords Go.Proofs.YtlmohamgfindmaaW.PrintLast Go.Proofs.YtlmohamgfindmaaW.PrintMore
attribute [local go_sem] max2_int min2_int max_two min_two max_three min_three max_four min_four   -- for this text's walks alone
set_option linter.unusedVariables false
set_option linter.unusedSimpArgs false

/-! ### spec_Beats: function 67 -/
mutual
def spec_Beats.j0 : Nat → List Int → Bool → Int → Int → Int → Option (Int × Int × Int × Bool)
  | 0, _, _, _, _, _ => none
  | k + 1, x1, x16, x714000, x714001, x714002 => if x16 = true then (some (0, 0, 0, false)) else (spec_Beats.l0 k x1 0 x714000 x714001 x714002)
def spec_Beats.l0 : Nat → List Int → Int → Int → Int → Int → Option (Int × Int × Int × Bool)
  | 0, _, _, _, _, _ => none
  | k + 1, x1, x6, x714000, x714001, x714002 => if x6 < (x1.length : Int) then (if 0 ≤ x6 then ((spec_Swing1.f k x714000 x714001 x714002 (rd x1 x6)).bind fun bt717 => (if bt717.2.2.2 = true then (spec_Beats.l0 k x1 (wrap64 (x6 + 1)) bt717.1 bt717.2.1 bt717.2.2.1) else (some (0, 0, 0, false)))) else (none)) else (some (x714000, x714001, x714002, true))
end
def spec_Beats.f (k : Nat) (a0_0 : Int) (a0_1 : Int) (a0_2 : Int) (l1 : List Int) : Option (Int × Int × Int × Bool) := (spec_SwayOk.f a0_0 a0_1 a0_2).bind fun t715 => (if t715 = true then (spec_Beats.j0 k l1 (decide ((l1.length : Int) > 40)) a0_0 a0_1 a0_2) else (spec_Beats.j0 k l1 true a0_0 a0_1 a0_2))
theorem spec_Beats.mono_l : ∀ k, (∀ y0 y1 y2 y3 y4, LeO (spec_Beats.j0 k y0 y1 y2 y3 y4) (spec_Beats.j0 (k + 1) y0 y1 y2 y3 y4)) ∧ (∀ y0 y1 y2 y3 y4, LeO (spec_Beats.l0 k y0 y1 y2 y3 y4) (spec_Beats.l0 (k + 1) y0 y1 y2 y3 y4))
  | 0 => ⟨fun _ _ _ _ _ r h => by simp [spec_Beats.j0] at h, fun _ _ _ _ _ r h => by simp [spec_Beats.l0] at h⟩
  | k + 1 => by
    obtain ⟨ih0, ih1⟩ := spec_Beats.mono_l k
    refine ⟨?_, ?_⟩
    · intro y0 y1 y2 y3 y4
      unfold spec_Beats.j0
      repeat' first
      | (with_reducible exact ih0 _ _ _ _ _)
      | (with_reducible exact ih1 _ _ _ _ _)
      | (with_reducible exact spec_Swing1.mono _ _ _ _ _)
      | (with_reducible exact LeO.refl _)
      | (with_reducible exact LeO.none _)
      | (with_reducible refine LeO.ite ?_ ?_)
      | (with_reducible refine LeO.bind ?_ (fun _ => ?_))
      | exact ih0 _ _ _ _ _
      | exact ih1 _ _ _ _ _
      | exact spec_Swing1.mono _ _ _ _ _
      | exact LeO.none _
      | refine LeO.ite ?_ ?_
      | refine LeO.bind ?_ (fun _ => ?_)
    · intro y0 y1 y2 y3 y4
      unfold spec_Beats.l0
      repeat' first
      | (with_reducible exact ih0 _ _ _ _ _)
      | (with_reducible exact ih1 _ _ _ _ _)
      | (with_reducible exact spec_Swing1.mono _ _ _ _ _)
      | (with_reducible exact LeO.refl _)
      | (with_reducible exact LeO.none _)
      | (with_reducible refine LeO.ite ?_ ?_)
      | (with_reducible refine LeO.bind ?_ (fun _ => ?_))
      | exact ih0 _ _ _ _ _
      | exact ih1 _ _ _ _ _
      | exact spec_Swing1.mono _ _ _ _ _
      | exact LeO.none _
      | refine LeO.ite ?_ ?_
      | refine LeO.bind ?_ (fun _ => ?_)
theorem spec_Beats.mono : ∀ a0 a1 a2 a3 k, LeO (spec_Beats.f k a0 a1 a2 a3) (spec_Beats.f (k + 1) a0 a1 a2 a3) := by
  intro a0 a1 a2 a3 k
  obtain ⟨ih0, ih1⟩ := spec_Beats.mono_l k
  unfold spec_Beats.f
  repeat' first
      | (with_reducible exact ih0 _ _ _ _ _)
      | (with_reducible exact ih1 _ _ _ _ _)
      | (with_reducible exact spec_Swing1.mono _ _ _ _ _)
      | (with_reducible exact LeO.refl _)
      | (with_reducible exact LeO.none _)
      | (with_reducible refine LeO.ite ?_ ?_)
      | (with_reducible refine LeO.bind ?_ (fun _ => ?_))
      | exact ih0 _ _ _ _ _
      | exact ih1 _ _ _ _ _
      | exact spec_Swing1.mono _ _ _ _ _
      | exact LeO.none _
      | refine LeO.ite ?_ ?_
      | refine LeO.bind ?_ (fun _ => ?_)
def spec_Beats.T6 : Bool × List (List Nat × List Nat) := (true, [([], []), ([], []), ([], []), ([1, 2], [1, 2]), ([3], [3]), ([0, 4], [0, 4]), ([5], [5]), ([6], [6]), ([6], [6]), ([], []), ([9, 7, 5, 0, 1, 2, 3, 4, 5, 6, 7, 9], [7, 9]), ([8, 10, 0, 1, 2, 3, 4, 5, 6, 7, 8, 9, 10], [8])])
def spec_Beats.B6 : List Nat := [0, 0, 0, 6, 14, 31, 63, 127, 127, 0, 767, 2047]
theorem spec_Beats.tab6 : rtab .any (opsOf Try.f67 6) = spec_Beats.T6 := by kernel_rfl
theorem spec_Beats.bits6 : waitsOk spec_Beats.T6.2 spec_Beats.B6 = true := by kernel_rfl
abbrev spec_Beats.v0 : Array Bool := #[false, false, false, false, false, false, false, false, false, false, false, false]
abbrev spec_Beats.v1 : Array Bool := #[false, true, false, false, false, false, false, false, false, false, false, false]
abbrev spec_Beats.v2 : Array Bool := #[false, true, true, false, false, false, false, false, false, false, false, false]
abbrev spec_Beats.v3 : Array Bool := #[false, true, true, true, false, false, false, false, false, false, false, false]
abbrev spec_Beats.v4 : Array Bool := #[true, true, true, true, false, false, false, false, false, false, false, false]
abbrev spec_Beats.v5 : Array Bool := #[true, true, true, true, true, false, false, false, false, false, false, false]
abbrev spec_Beats.v6 : Array Bool := #[true, true, true, true, true, true, true, true, true, true, false, false]
abbrev spec_Beats.v7 : Array Bool := #[true, true, true, true, true, true, false, false, false, false, false, false]
abbrev spec_Beats.v8 : Array Bool := #[true, true, true, true, true, false, false, false, false, true, false, false]
abbrev spec_Beats.v9 : Array Bool := #[true, true, true, true, true, true, true, false, false, false, false, false]
abbrev spec_Beats.v10 : Array Bool := #[true, true, true, true, true, true, true, true, false, false, false, false]
abbrev spec_Beats.v11 : Array Bool := #[true, true, true, true, true, true, true, true, true, false, false, false]
abbrev spec_Beats.v12 : Array Bool := #[true, true, true, true, true, true, false, false, false, true, false, false]
abbrev spec_Beats.v13 : Array Bool := #[true, true, true, true, true, true, true, false, false, true, false, false]
abbrev spec_Beats.v14 : Array Bool := #[true, true, true, true, true, true, true, true, false, true, false, false]
abbrev spec_Beats.v15 : Array Bool := #[true, true, true, true, true, true, true, true, true, true, true, false]
abbrev spec_Beats.v16 : Array Bool := #[true, true, true, true, true, true, true, true, true, true, true, true]
set_option maxHeartbeats 8000000 in
set_option maxRecDepth 100000 in
theorem spec_Beats.calls (k : Nat) (a0_0 : Int) (a0_1 : Int) (a0_2 : Int) (A1 : Option Addr) (c1 : Nat) (l1 : List Int) (r1 : Int) (r2 : Int) (r3 : Int) (r4 : Bool) (w : World) (hr1 : Kd.C (Kd.int .i64) w A1 l1.length l1) (hc1 : l1.length ≤ c1) (h : spec_Beats.f k a0_0 a0_1 a0_2 l1 = some (r1, r2, r3, r4)) :
 Calls Try.prog 67 #[.agg #[.int .i64 a0_0, .int .i64 a0_1, .int .i64 a0_2], .slice A1 l1.length c1] w fun e w' => e = .returned (.tuple #[.agg #[.int .i64 r1, .int .i64 r2, .int .i64 r3], .bool r4]) ∧ Below w.heap.size w w' := by
 have hu99 := Try.underlying99
 have HR1 := Aside0.mk hr1
 have HC1 := Aside0.mk hc1
 clear hr1 hc1
 have HB := Aside0.mk (Below.refl w.heap.size w)
 have H : ((spec_SwayOk.f a0_0 a0_1 a0_2).bind fun t715 => (if t715 = true then (spec_Beats.j0 k l1 (decide ((l1.length : Int) > 40)) a0_0 a0_1 a0_2) else (spec_Beats.j0 k l1 true a0_0 a0_1 a0_2))) = some (r1, r2, r3, r4) := h
 clear h
 have HC3 := Aside0.mk H
 clear H
 go_enter Try.func67, Try.ntmps67
 go_upto_region 1 with (first | ((with_reducible refine gate_dst (N := 2) rfl ?_); (try (refine gate_guard (by rfl) ?_; dsimp only)); refine box_event ?hg (N := 2) ?hd (cs := #[.int .i64 a0_0, .int .i64 a0_1, .int .i64 a0_2]) (t := 99) ?hr ?_; (case hd => rfl); (case hg => rfl); (case hr => first | (go_simp; done) | (go_simp; rfl)); intro gb713 hg w4 hbox hb; have n0_ := Aside0.mk (below_step (by repeat (first | (with_reducible first | exact HB.out | apply below_alloc | apply pw_below_drewN | apply below_drew1) | exact HB.out)) hb); have n1_ := Aside0.mk (hbox); have n2_ := Aside0.mk ((by rw [hg]; exact (below_size (by repeat (first | (with_reducible first | exact HB.out | apply below_alloc | apply pw_below_drewN | apply below_drew1) | exact HB.out))) : w.heap.size ≤ gb713)); have n3_ := Aside0.mk ((by rw [hg]; exact (below_size (by repeat (first | (with_reducible first | exact HB.out | apply below_alloc | apply pw_below_drewN | apply below_drew1) | exact HB.out))) : w.heap.size ≤ gb713)); clear HB; have HB := n0_; have BK713 := n1_; have GW713 := n2_; have GE713 := n3_; clear n0_ n1_ n2_ n3_; clear hb hbox hg) | ((with_reducible refine gate_dst (N := 4) rfl ?_); (try (refine gate_guard (by rfl) ?_; dsimp only)); refine box_event ?hg (N := 4) ?hd (cs := #[.int .i64 0, .int .i64 0, .int .i64 0]) (t := 99) ?hr ?_; (case hd => rfl); (case hg => rfl); (case hr => first | (go_simp; done) | (go_simp; rfl)); intro gb714 hg w5 hbox hb; have n0_ := Aside0.mk (blk_below (g := gb713) (o := .cells #[.int .i64 a0_0, .int .i64 a0_1, .int .i64 a0_2] 99 (0, 0)) (by (with_reducible repeat (first | refine blk_drewN ?_ _ | refine blk_drew ?_ | refine blk_alloc ?_ _)); exact BK713.out) hb); have n1_ := Aside0.mk (below_step (by repeat (first | (with_reducible first | exact HB.out | apply below_alloc | apply pw_below_drewN | apply below_drew1 | refine below_set ?_ GE713.out) | exact HB.out)) hb); have n2_ := Aside0.mk (hbox); have n3_ := Aside0.mk ((by rw [hg]; exact (below_size (by repeat (first | (with_reducible first | exact HB.out | apply below_alloc | apply pw_below_drewN | apply below_drew1 | refine below_set ?_ GE713.out) | exact HB.out))) : w.heap.size ≤ gb714)); have n4_ := Aside0.mk ((by rw [hg]; exact (below_size (by repeat (first | (with_reducible first | exact HB.out | apply below_alloc | apply pw_below_drewN | apply below_drew1 | refine below_set ?_ GE713.out) | exact HB.out))) : w.heap.size ≤ gb714)); have n5_ := Aside0.mk ((by rw [hg]; exact Nat.ne_of_lt (blk_lt (g := gb713) (o := .cells #[.int .i64 a0_0, .int .i64 a0_1, .int .i64 a0_2] 99 (0, 0)) (by (with_reducible repeat (first | refine blk_drewN ?_ _ | refine blk_drew ?_ | refine blk_alloc ?_ _)); exact BK713.out)) : gb713 ≠ gb714)); have n6_ := Aside0.mk ((by rw [hg]; exact Nat.ne_of_gt (blk_lt (g := gb713) (o := .cells #[.int .i64 a0_0, .int .i64 a0_1, .int .i64 a0_2] 99 (0, 0)) (by (with_reducible repeat (first | refine blk_drewN ?_ _ | refine blk_drew ?_ | refine blk_alloc ?_ _)); exact BK713.out)) : gb714 ≠ gb713)); clear BK713; clear HB; have BK713 := n0_; have HB := n1_; have BK714 := n2_; have GW714 := n3_; have GE714 := n4_; have NB713_714 := n5_; have NB714_713 := n6_; clear n0_ n1_ n2_ n3_ n4_ n5_ n6_; clear hb hbox hg))
 (try simp only [Act.put, List.setIfInBounds_toArray, List.set_cons_zero, List.set_cons_succ])
 go_cut [16] (fun v16 wc => ∃ (kq : Nat) (x16_2 : Bool), v16 = .bool x16_2 ∧ Aside0 (spec_Beats.j0 kq l1 x16_2 a0_0 a0_1 a0_2 = some (r1, r2, r3, r4)) ∧ Aside0 (kq ≤ k) ∧ Aside0 (wc.heap[gb713]? = some (.cells #[.int .i64 a0_0, .int .i64 a0_1, .int .i64 a0_2] 99 (0, 0))) ∧ Aside0 (wc.heap[gb714]? = some (.cells #[.int .i64 0, .int .i64 0, .int .i64 0] 99 (0, 0))) ∧ Aside0 (Below w.heap.size w wc))
 case first =>
  have H := HC3.out
  clear HC3
  replace H := Option.bind_eq_some_iff.mp H
  obtain ⟨t715, A60, H⟩ := H
  (try dsimp only at H)
  have A6 := Aside0.mk A60
  clear A60
  by_cases c7 : t715 = true
  ·subst c7
   rw [if_pos rfl] at H
   have H' := Aside0.mk H
   clear H
   have hnb8 := NB713_714.out
   have hnc8 := NB714_713.out
   have hcz9_0 : w5.cell? ⟨gb713, 0, none⟩ = some (.int .i64 a0_0) := (blk_cell BK713.out 0).trans rfl
   have hcz9_1 : w5.cell? ⟨gb713, 1, none⟩ = some (.int .i64 a0_1) := (blk_cell BK713.out 1).trans rfl
   have hcz9_2 : w5.cell? ⟨gb713, 2, none⟩ = some (.int .i64 a0_2) := (blk_cell BK713.out 2).trans rfl
   have hfz9_0 := blk_frozen BK713.out 0
   have hfz9_1 := blk_frozen BK713.out 1
   have hfz9_2 := blk_frozen BK713.out 2
   go_wp2_with (first | ((with_reducible refine gate_callee (f := 130) rfl ?_); refine goesL_ (some 10) rfl rfl Try.func130 (by kernel_rfl) rfl #[.agg #[.int .i64 a0_0, .int .i64 a0_1, .int .i64 a0_2]] rfl (by (try simp only [List.map_toArray, List.map_cons, List.map_nil]); first | done | rfl | (simp only [List.length_drop, List.length_take]; rfl)) ?_; (with_reducible refine (spec_SwayOk.calls a0_0 a0_1 a0_2 true _ A6.out).mono ?_); rintro e w10 ⟨rfl, hb⟩; refine ⟨_, rfl, ?_⟩; have n0_ := Aside0.mk (blk_below (g := gb713) (o := .cells #[.int .i64 a0_0, .int .i64 a0_1, .int .i64 a0_2] 99 (0, 0)) (by (with_reducible repeat (first | refine blk_drewN ?_ _ | refine blk_drew ?_ | refine blk_alloc ?_ _)); exact BK713.out) hb); have n1_ := Aside0.mk (blk_below (g := gb714) (o := .cells #[.int .i64 0, .int .i64 0, .int .i64 0] 99 (0, 0)) (by (with_reducible repeat (first | refine blk_drewN ?_ _ | refine blk_drew ?_ | refine blk_alloc ?_ _)); exact BK714.out) hb); have n2_ := Aside0.mk (below_step (by repeat (first | (with_reducible first | exact HB.out | apply below_alloc | apply pw_below_drewN | apply below_drew1 | refine below_set ?_ GE713.out | refine below_set ?_ GE714.out) | exact HB.out)) hb); clear BK713; clear BK714; clear HB; have BK713 := n0_; have BK714 := n1_; have HB := n2_; clear n0_ n1_ n2_; (try clear hb); (try clear hb2); (try clear hk); (try clear hi)))
   go_meet
   case rel => exact ⟨_, (decide ((l1.length : Int) > 40)), (by first | rfl | (simp; done) | (simp [*]; done)), H', ⟨by first | omega | exact Nat.le_refl _⟩, ⟨by (with_reducible repeat (first | refine blk_drewN ?_ _ | refine blk_drew ?_ | refine blk_alloc ?_ _)); exact BK713.out⟩, ⟨by (with_reducible repeat (first | refine blk_drewN ?_ _ | refine blk_drew ?_ | refine blk_alloc ?_ _)); exact BK714.out⟩, ⟨by repeat (first | (with_reducible first | exact HB.out | apply below_alloc | apply pw_below_drewN | apply below_drew1 | refine below_set ?_ GE713.out | refine below_set ?_ GE714.out) | exact HB.out)⟩⟩
  ·replace c7 := Bool.eq_false_iff.mpr c7
   subst c7
   rw [if_neg (show ¬ (false = true) by decide)] at H
   have H' := Aside0.mk H
   clear H
   have hnb11 := NB713_714.out
   have hnc11 := NB714_713.out
   have hcz12_0 : w5.cell? ⟨gb713, 0, none⟩ = some (.int .i64 a0_0) := (blk_cell BK713.out 0).trans rfl
   have hcz12_1 : w5.cell? ⟨gb713, 1, none⟩ = some (.int .i64 a0_1) := (blk_cell BK713.out 1).trans rfl
   have hcz12_2 : w5.cell? ⟨gb713, 2, none⟩ = some (.int .i64 a0_2) := (blk_cell BK713.out 2).trans rfl
   have hfz12_0 := blk_frozen BK713.out 0
   have hfz12_1 := blk_frozen BK713.out 1
   have hfz12_2 := blk_frozen BK713.out 2
   go_wp2_with (first | ((with_reducible refine gate_callee (f := 130) rfl ?_); refine goesL_ (some 10) rfl rfl Try.func130 (by kernel_rfl) rfl #[.agg #[.int .i64 a0_0, .int .i64 a0_1, .int .i64 a0_2]] rfl (by (try simp only [List.map_toArray, List.map_cons, List.map_nil]); first | done | rfl | (simp only [List.length_drop, List.length_take]; rfl)) ?_; (with_reducible refine (spec_SwayOk.calls a0_0 a0_1 a0_2 false _ A6.out).mono ?_); rintro e w13 ⟨rfl, hb⟩; refine ⟨_, rfl, ?_⟩; have n0_ := Aside0.mk (blk_below (g := gb713) (o := .cells #[.int .i64 a0_0, .int .i64 a0_1, .int .i64 a0_2] 99 (0, 0)) (by (with_reducible repeat (first | refine blk_drewN ?_ _ | refine blk_drew ?_ | refine blk_alloc ?_ _)); exact BK713.out) hb); have n1_ := Aside0.mk (blk_below (g := gb714) (o := .cells #[.int .i64 0, .int .i64 0, .int .i64 0] 99 (0, 0)) (by (with_reducible repeat (first | refine blk_drewN ?_ _ | refine blk_drew ?_ | refine blk_alloc ?_ _)); exact BK714.out) hb); have n2_ := Aside0.mk (below_step (by repeat (first | (with_reducible first | exact HB.out | apply below_alloc | apply pw_below_drewN | apply below_drew1 | refine below_set ?_ GE713.out | refine below_set ?_ GE714.out) | exact HB.out)) hb); clear BK713; clear BK714; clear HB; have BK713 := n0_; have BK714 := n1_; have HB := n2_; clear n0_ n1_ n2_; (try clear hb); (try clear hb2); (try clear hk); (try clear hi)))
   go_meet
   case rel => exact ⟨_, (true), (by first | rfl | (simp; done) | (simp [*]; done)), H', ⟨by first | omega | exact Nat.le_refl _⟩, ⟨by (with_reducible repeat (first | refine blk_drewN ?_ _ | refine blk_drew ?_ | refine blk_alloc ?_ _)); exact BK713.out⟩, ⟨by (with_reducible repeat (first | refine blk_drewN ?_ _ | refine blk_drew ?_ | refine blk_alloc ?_ _)); exact BK714.out⟩, ⟨by repeat (first | (with_reducible first | exact HB.out | apply below_alloc | apply pw_below_drewN | apply below_drew1 | refine below_set ?_ GE713.out | refine below_set ?_ GE714.out) | exact HB.out)⟩⟩
 case rest =>
  clear HC3
  (try clear c1); (try clear p2); (try clear c6); (try clear c7); (try clear c8); (try clear c11); (try clear c13); (try clear hcz12_0); (try clear hcz12_1); (try clear hcz12_2); (try clear hcz9_0); (try clear hcz9_1); (try clear hcz9_2); (try clear hfz12_0); (try clear hfz12_1); (try clear hfz12_2); (try clear hfz9_0); (try clear hfz9_1); (try clear hfz9_2)
  obtain ⟨kq, x16_2, rfl, HA, HJ2, BK713, BK714, HB⟩ := hcut
  cases kq with
  | zero => exact absurd HA.out (by simp [spec_Beats.j0])
  | succ kj2 =>
   have H := HA.out
   clear HA
   simp only [spec_Beats.j0] at H
   by_cases c14 : x16_2 = true
   ·subst c14
    rw [if_pos rfl] at H
    simp only [Option.some.injEq, Prod.mk.injEq] at H
    obtain ⟨rfl, rfl, rfl, rfl⟩ := H
    have hnb15 := NB714_713.out
    have hnc15 := NB713_714.out
    have hcz16_0 : wc.cell? ⟨gb714, 0, none⟩ = some (.int .i64 0) := (blk_cell BK714.out 0).trans rfl
    have hcz16_1 : wc.cell? ⟨gb714, 1, none⟩ = some (.int .i64 0) := (blk_cell BK714.out 1).trans rfl
    have hcz16_2 : wc.cell? ⟨gb714, 2, none⟩ = some (.int .i64 0) := (blk_cell BK714.out 2).trans rfl
    have hfz16_0 := blk_frozen BK714.out 0
    have hfz16_1 := blk_frozen BK714.out 1
    have hfz16_2 := blk_frozen BK714.out 2
    go_wp2
    refine bodyPost_ret (results_ct rfl _ _ gb714 99 #[.int .i64 0, .int .i64 0, .int .i64 0] (0, 0) _ rfl (by (with_reducible repeat (first | refine blk_drewN ?_ _ | refine blk_drew ?_ | refine blk_alloc ?_ _)); refine blk_put (cs := #[.int .i64 0, .int .i64 0, .int .i64 0]) ?_ 2 _ rfl; (with_reducible repeat (first | refine blk_drewN ?_ _ | refine blk_drew ?_ | refine blk_alloc ?_ _)); refine blk_put (cs := #[.int .i64 0, .int .i64 0, .int .i64 0]) ?_ 1 _ rfl; (with_reducible repeat (first | refine blk_drewN ?_ _ | refine blk_drew ?_ | refine blk_alloc ?_ _)); refine blk_put (cs := #[.int .i64 0, .int .i64 0, .int .i64 0]) ?_ 0 _ rfl; (with_reducible repeat (first | refine blk_drewN ?_ _ | refine blk_drew ?_ | refine blk_alloc ?_ _)); exact BK714.out) Try.underlying99 rfl (by kernel_rfl)) rfl ?_
    exact ⟨by first | rfl | (simp [errW_none, errW_some] <;> rfl) | (simp [*, errW_none, errW_some] <;> rfl), by repeat (first | (with_reducible first | exact HB.out | apply below_alloc | apply pw_below_drewN | apply below_drew1 | refine below_set ?_ GE713.out | refine below_set ?_ GE714.out) | exact HB.out)⟩
   ·replace c14 := Bool.eq_false_iff.mpr c14
    subst c14
    rw [if_neg (show ¬ (false = true) by decide)] at H
    have H' := Aside0.mk H
    clear H
    go_wp2
    go_loopg [6] kj2 (fun kq v6 w' => ∃ (x6_2 : Int) (x714000_2 : Int) (x714001_2 : Int) (x714002_2 : Int) (x715000_2 : Int) (x715001_2 : Int) (x715002_2 : Int), v6 = .int .i64 x6_2 ∧ Aside0 (spec_Beats.l0 kq l1 x6_2 x714000_2 x714001_2 x714002_2 = some (r1, r2, r3, r4)) ∧ Aside0 (kq ≤ kj2) ∧ Aside0 (w'.heap[gb713]? = some (.cells #[.int .i64 x714000_2, .int .i64 x714001_2, .int .i64 x714002_2] 99 (0, 0))) ∧ Aside0 (w'.heap[gb714]? = some (.cells #[.int .i64 x715000_2, .int .i64 x715001_2, .int .i64 x715002_2] 99 (0, 0))) ∧ Aside0 (Below w.heap.size w w'))
    case atStart => exact ⟨(0), (a0_0), (a0_1), (a0_2), (0), (0), (0), (by first | rfl | (simp; done) | (simp [*]; done)), H', ⟨Nat.le_refl _⟩, ⟨by (with_reducible repeat (first | refine blk_drewN ?_ _ | refine blk_drew ?_ | refine blk_alloc ?_ _)); exact BK713.out⟩, ⟨by (with_reducible repeat (first | refine blk_drewN ?_ _ | refine blk_drew ?_ | refine blk_alloc ?_ _)); exact BK714.out⟩, ⟨by repeat (first | (with_reducible first | exact HB.out | apply below_alloc | apply pw_below_drewN | apply below_drew1 | refine below_set ?_ GE713.out | refine below_set ?_ GE714.out) | exact HB.out)⟩⟩
    case round =>
     clear H'
     (try clear c1); (try clear p2); (try clear c6); (try clear c7); (try clear c8); (try clear c11); (try clear c13); (try clear c14); (try clear c15); (try clear hcz12_0); (try clear hcz12_1); (try clear hcz12_2); (try clear hcz16_0); (try clear hcz16_1); (try clear hcz16_2); (try clear hcz9_0); (try clear hcz9_1); (try clear hcz9_2); (try clear hfz12_0); (try clear hfz12_1); (try clear hfz12_2); (try clear hfz16_0); (try clear hfz16_1); (try clear hfz16_2); (try clear hfz9_0); (try clear hfz9_1); (try clear hfz9_2); (try clear p2)
     obtain ⟨x6_2, x714000_2, x714001_2, x714002_2, x715000_2, x715001_2, x715002_2, rfl, HA, HK2, BK713, BK714, HB⟩ := hrel
     cases gk with
     | zero => exact absurd HA.out (by simp [spec_Beats.l0])
     | succ k2 =>
      have H := HA.out
      clear HA
      simp only [spec_Beats.l0] at H
      by_cases c17 : x6_2 < (l1.length : Int)
      ·rw [if_pos c17] at H
       have c17b0 : decide (x6_2 < (l1.length : Int)) = true := decide_eq_true c17
       clear c17
       by_cases c18 : 0 ≤ x6_2
       ·rw [if_pos c18] at H
        have c18b0 : decide (0 ≤ x6_2) = true := decide_eq_true c18
        clear c18
        replace H := Option.bind_eq_some_iff.mp H
        obtain ⟨⟨t717, t718, t719, t720⟩, A190, H⟩ := H
        (try dsimp only at H)
        have A19 := Aside0.mk A190
        clear A190
        by_cases c20 : t720 = true
        ·subst c20
         rw [if_pos rfl] at H
         have H' := Aside0.mk H
         clear H
         try go_wp2
         have n0_ := Aside0.mk (blk_drew BK713.out)
         have n1_ := Aside0.mk (blk_drew BK714.out)
         have n2_ := Aside0.mk (below_drew1 HB.out)
         clear BK713
         clear BK714
         clear HB
         have BK713 := n0_
         have BK714 := n1_
         have HB := n2_
         clear n0_ n1_ n2_
         have p716 : 0 ≤ (x6_2 : Int) := of_decide_eq_true (by first | (with_reducible assumption) | assumption)
         have q716 : x6_2 < (l1.length : Int) := of_decide_eq_true (by first | (with_reducible assumption) | assumption)
         obtain ⟨ad716, e716, hx716_0⟩ := Kd.at_int HR1.out x6_2 p716 q716
         have hw716_0 := hx716_0
         cases e716
         replace hx716_0 := (HB.out.cell (World.block_lt_of_cell? w _ hx716_0)).trans hx716_0
         replace p716 := eq_true p716
         replace q716 := eq_true q716
         refine start_ (n := 12) (S := fun w' => w'.cell? ⟨gb713, 0, none⟩ = some (.int .i64 x714000_2) ∧ w'.cell? ⟨gb713, 1, none⟩ = some (.int .i64 x714001_2) ∧ w'.cell? ⟨gb713, 2, none⟩ = some (.int .i64 x714002_2) ∧ w'.cell? (ad716.add (x6_2).toNat) = some (.int .i64 (rd l1 x6_2))) (ds := []) spec_Beats.v0 (by kernel_rfl) rfl rfl ⟨(blk_cell BK713.out 0).trans rfl, (blk_cell BK713.out 1).trans rfl, (blk_cell BK713.out 2).trans rfl, ((HB.out.cell (World.block_lt_of_cell? w _ hw716_0)).trans hw716_0)⟩ (fun hHeld => ?_); refine with_tabW spec_Beats.tab6 spec_Beats.bits6 (fun HT_ HW_ => ?_)
         generalize wr.drew = w21 at BK713 BK714 HB hx716_0 hHeld ⊢
         refine pure_ (i := 1) (N := some 26) (v := ?_) (a' := ?_) spec_Beats.v1 rfl rfl (any_of HT_.out (by kernel_rfl)) (fun _ _ _ h => h) (Or.inl ⟨by rfl, ?_⟩) ?_ ?_
         rotate_left
         ·intro w'
          go_simp
          with_reducible rfl
         rotate_left
         ·simp only [Act.put, List.setIfInBounds_toArray, List.set_cons_zero, List.set_cons_succ, i64_w, i32_w]
          rfl
         refine pure_ (i := 2) (N := some 27) (v := ?_) (a' := ?_) spec_Beats.v2 rfl rfl (any_of HT_.out (by kernel_rfl)) (fun _ _ _ h => h) (Or.inl ⟨by rfl, ?_⟩) ?_ ?_
         rotate_left
         ·intro w'
          go_simp
          with_reducible rfl
         rotate_left
         ·simp only [Act.put, List.setIfInBounds_toArray, List.set_cons_zero, List.set_cons_succ, i64_w, i32_w]
          rfl
         refine pure_ (i := 3) (N := some 28) (v := ?_) (a' := ?_) spec_Beats.v3 rfl rfl (any_of HT_.out (by kernel_rfl)) (fun _ _ _ h => h) (Or.inl ⟨by rfl, ?_⟩) ?_ ?_
         rotate_left
         ·intro w'
          go_simp
          with_reducible rfl
         rotate_left
         ·simp only [Act.put, List.setIfInBounds_toArray, List.set_cons_zero, List.set_cons_succ, i64_w, i32_w]
          rfl
         refine take_ (i := 0) (N := some 25) (v := ?_) (a' := ?_) spec_Beats.v4 rfl rfl (take_ofW HT_.out HW_.out (by kernel_rfl)) (fun _ _ _ h => h) (Or.inl ⟨by rfl, ?_⟩) hHeld ?_ ?_
         rotate_left
         ·rintro w' ⟨s0, s1, s2, s3⟩
          go_simp
          with_reducible rfl
         rotate_left
         ·simp only [Act.put, List.setIfInBounds_toArray, List.set_cons_zero, List.set_cons_succ, i64_w, i32_w]
          rfl
         refine take_ (i := 4) (N := some 29) (v := ?_) (a' := ?_) spec_Beats.v5 rfl rfl (take_ofW HT_.out HW_.out (by kernel_rfl)) (fun _ _ _ h => h) (Or.inl ⟨by rfl, ?_⟩) hHeld ?_ ?_
         rotate_left
         ·rintro w' ⟨s0, s1, s2, s3⟩
          go_simp
          with_reducible rfl
         rotate_left
         ·simp only [Act.put, List.setIfInBounds_toArray, List.set_cons_zero, List.set_cons_succ, i64_w, i32_w]
          rfl
         refine join_ (σ := Nat) 2 spec_Beats.v6 (fun s_ => [(30, .tuple #[.agg #[.int .i64 t717, .int .i64 t718, .int .i64 t719], .bool true]), (7, .pointer (some ⟨s_, 0, none⟩)), (24, .tuple #[.agg #[.int .i64 t717, .int .i64 t718, .int .i64 t719], .bool true]), (31, .agg #[.int .i64 t717, .int .i64 t718, .int .i64 t719]), (32, .bool true)]) (fun s_ w' => (w'.cell? ⟨gb713, 0, none⟩ = some (.int .i64 x714000_2) ∧ w'.cell? ⟨gb713, 1, none⟩ = some (.int .i64 x714001_2) ∧ w'.cell? ⟨gb713, 2, none⟩ = some (.int .i64 x714002_2) ∧ w'.cell? (ad716.add (x6_2).toNat) = some (.int .i64 (rd l1 x6_2))) ∧ (w'.heap[gb713]? = some (.cells #[.int .i64 x714000_2, .int .i64 x714001_2, .int .i64 x714002_2] 99 (0, 0))) ∧ (w'.heap[gb714]? = some (.cells #[.int .i64 x715000_2, .int .i64 x715001_2, .int .i64 x715002_2] 99 (0, 0))) ∧ (w'.heap[s_]? = some (.cells #[.int .i64 0, .int .i64 0, .int .i64 0] 99 (0, 0))) ∧ (w.heap.size ≤ s_) ∧ (w.heap.size ≤ s_) ∧ (gb713 ≠ s_) ∧ (s_ ≠ gb713) ∧ (gb714 ≠ s_) ∧ (s_ ≠ gb714) ∧ (Below w.heap.size w w')) ?_ ?_
         rotate_left
         ·intro hCont
          refine two_ (i := 5) (j := 9) (Ni := some 30) (Nj := some 7) spec_Beats.v7 spec_Beats.v8 rfl rfl rfl rfl (two_of HT_.out (by kernel_rfl)) (by decide) (by decide) (fun K hK => ?_) (fun K hK => ?_)
          ·skip
           refine goes_ Try.func131 (by kernel_rfl) rfl #[.agg #[.int .i64 x714000_2, .int .i64 x714001_2, .int .i64 x714002_2], .int .i64 (rd l1 x6_2)] (by rfl) rfl rfl (by (try simp only [List.map_toArray, List.map_cons, List.map_nil]); first | done | rfl | (simp only [List.length_drop, List.length_take]; rfl)) ?_
           with_reducible refine (spec_Swing1.calls k2 x714000_2 x714001_2 x714002_2 (rd l1 x6_2) t717 t718 t719 true _ A19.out).mono ?_
           rintro e w22 ⟨rfl, hb⟩
           refine ⟨_, rfl, ?_⟩
           have n0_ := Aside0.mk (blk_below (g := gb713) (o := .cells #[.int .i64 x714000_2, .int .i64 x714001_2, .int .i64 x714002_2] 99 (0, 0)) (by (with_reducible repeat (first | refine blk_drewN ?_ _ | refine blk_drew ?_ | refine blk_alloc ?_ _)); exact BK713.out) hb)
           have n1_ := Aside0.mk (blk_below (g := gb714) (o := .cells #[.int .i64 x715000_2, .int .i64 x715001_2, .int .i64 x715002_2] 99 (0, 0)) (by (with_reducible repeat (first | refine blk_drewN ?_ _ | refine blk_drew ?_ | refine blk_alloc ?_ _)); exact BK714.out) hb)
           have n2_ := Aside0.mk (below_step (by repeat (first | (with_reducible first | exact HB.out | apply below_alloc | apply pw_below_drewN | apply below_drew1 | refine below_set ?_ GE713.out | refine below_set ?_ GE714.out) | exact HB.out)) hb)
           clear BK713
           clear BK714
           clear HB
           have BK713 := n0_
           have BK714 := n1_
           have HB := n2_
           clear n0_ n1_ n2_
           (try clear hb)
           (try clear hb2)
           (try clear hk)
           (try clear hi)
           refine hK.out _ _ ⟨(blk_cell BK713.out 0).trans rfl, (blk_cell BK713.out 1).trans rfl, (blk_cell BK713.out 2).trans rfl, ((HB.out.cell (World.block_lt_of_cell? w _ hw716_0)).trans hw716_0)⟩ (fun hHeld => ?_)
           clear hK K
           refine norm_ (a' := ?_) ?_ ?_
           rotate_left
           ·show Act.put _ (some 30) _ = _
            simp only [Act.put, List.setIfInBounds_toArray, List.set_cons_zero, List.set_cons_succ, i64_w, i32_w]
            rfl
           refine pure_ (i := 6) (N := some 24) (v := ?_) (a' := ?_) spec_Beats.v9 rfl rfl (any_of HT_.out (by kernel_rfl)) (fun _ _ _ h => h) (Or.inl ⟨by rfl, ?_⟩) ?_ ?_
           rotate_left
           ·intro w'
            go_simp
            with_reducible rfl
           rotate_left
           ·simp only [Act.put, List.setIfInBounds_toArray, List.set_cons_zero, List.set_cons_succ, i64_w, i32_w]
            rfl
           refine pure_ (i := 7) (N := some 31) (v := ?_) (a' := ?_) spec_Beats.v10 rfl rfl (any_of HT_.out (by kernel_rfl)) (fun _ _ _ h => h) (Or.inl ⟨by rfl, ?_⟩) ?_ ?_
           rotate_left
           ·intro w'
            go_simp
            with_reducible rfl
           rotate_left
           ·simp only [Act.put, List.setIfInBounds_toArray, List.set_cons_zero, List.set_cons_succ, i64_w, i32_w]
            rfl
           refine pure_ (i := 8) (N := some 32) (v := ?_) (a' := ?_) spec_Beats.v11 rfl rfl (any_of HT_.out (by kernel_rfl)) (fun _ _ _ h => h) (Or.inl ⟨by rfl, ?_⟩) ?_ ?_
           rotate_left
           ·intro w'
            go_simp
            with_reducible rfl
           rotate_left
           ·simp only [Act.put, List.setIfInBounds_toArray, List.set_cons_zero, List.set_cons_succ, i64_w, i32_w]
            rfl
           refine one_ (i := 9) (N := some 7) spec_Beats.v6 rfl rfl (one_of HT_.out (by kernel_rfl)) (by decide) (fun K hK => ?_)
           refine box_step ?hg (N := 7) ?hd (cs := #[.int .i64 0, .int .i64 0, .int .i64 0]) (t := 99) ?hr ?_; (case hd => rfl); (case hg => rfl); (case hr => first | (go_simp; done) | (go_simp; rfl))
           intro gb721 hg w23 hbox hb
           have n0_ := Aside0.mk (blk_below (g := gb713) (o := .cells #[.int .i64 x714000_2, .int .i64 x714001_2, .int .i64 x714002_2] 99 (0, 0)) (by (with_reducible repeat (first | refine blk_drewN ?_ _ | refine blk_drew ?_ | refine blk_alloc ?_ _)); exact BK713.out) hb)
           have n1_ := Aside0.mk (blk_below (g := gb714) (o := .cells #[.int .i64 x715000_2, .int .i64 x715001_2, .int .i64 x715002_2] 99 (0, 0)) (by (with_reducible repeat (first | refine blk_drewN ?_ _ | refine blk_drew ?_ | refine blk_alloc ?_ _)); exact BK714.out) hb)
           have n2_ := Aside0.mk (below_step (by repeat (first | (with_reducible first | exact HB.out | apply below_alloc | apply pw_below_drewN | apply below_drew1 | refine below_set ?_ GE713.out | refine below_set ?_ GE714.out) | exact HB.out)) hb)
           have n3_ := Aside0.mk (hbox)
           have n4_ := Aside0.mk ((by rw [hg]; exact (below_size (by repeat (first | (with_reducible first | exact HB.out | apply below_alloc | apply pw_below_drewN | apply below_drew1 | refine below_set ?_ GE713.out | refine below_set ?_ GE714.out) | exact HB.out))) : w.heap.size ≤ gb721))
           have n5_ := Aside0.mk ((by rw [hg]; exact (below_size (by repeat (first | (with_reducible first | exact HB.out | apply below_alloc | apply pw_below_drewN | apply below_drew1 | refine below_set ?_ GE713.out | refine below_set ?_ GE714.out) | exact HB.out))) : w.heap.size ≤ gb721))
           have n6_ := Aside0.mk ((by rw [hg]; exact Nat.ne_of_lt (blk_lt (g := gb713) (o := .cells #[.int .i64 x714000_2, .int .i64 x714001_2, .int .i64 x714002_2] 99 (0, 0)) (by (with_reducible repeat (first | refine blk_drewN ?_ _ | refine blk_drew ?_ | refine blk_alloc ?_ _)); exact BK713.out)) : gb713 ≠ gb721))
           have n7_ := Aside0.mk ((by rw [hg]; exact Nat.ne_of_gt (blk_lt (g := gb713) (o := .cells #[.int .i64 x714000_2, .int .i64 x714001_2, .int .i64 x714002_2] 99 (0, 0)) (by (with_reducible repeat (first | refine blk_drewN ?_ _ | refine blk_drew ?_ | refine blk_alloc ?_ _)); exact BK713.out)) : gb721 ≠ gb713))
           have n8_ := Aside0.mk ((by rw [hg]; exact Nat.ne_of_lt (blk_lt (g := gb714) (o := .cells #[.int .i64 x715000_2, .int .i64 x715001_2, .int .i64 x715002_2] 99 (0, 0)) (by (with_reducible repeat (first | refine blk_drewN ?_ _ | refine blk_drew ?_ | refine blk_alloc ?_ _)); exact BK714.out)) : gb714 ≠ gb721))
           have n9_ := Aside0.mk ((by rw [hg]; exact Nat.ne_of_gt (blk_lt (g := gb714) (o := .cells #[.int .i64 x715000_2, .int .i64 x715001_2, .int .i64 x715002_2] 99 (0, 0)) (by (with_reducible repeat (first | refine blk_drewN ?_ _ | refine blk_drew ?_ | refine blk_alloc ?_ _)); exact BK714.out)) : gb721 ≠ gb714))
           clear BK713
           clear BK714
           clear HB
           have BK713 := n0_
           have BK714 := n1_
           have HB := n2_
           have BK721 := n3_
           have GW721 := n4_
           have GE721 := n5_
           have NB713_721 := n6_
           have NB721_713 := n7_
           have NB714_721 := n8_
           have NB721_714 := n9_
           clear n0_ n1_ n2_ n3_ n4_ n5_ n6_ n7_ n8_ n9_
           clear hb hbox hg
           refine hK.out _ _ ⟨(blk_cell BK713.out 0).trans rfl, (blk_cell BK713.out 1).trans rfl, (blk_cell BK713.out 2).trans rfl, ((HB.out.cell (World.block_lt_of_cell? w _ hw716_0)).trans hw716_0)⟩ (fun hHeld => ?_)
           clear hK K
           refine norm_ (a' := ?_) ?_ ?_
           rotate_left
           ·show Act.put _ (some 7) _ = _
            simp only [Act.put, List.setIfInBounds_toArray, List.set_cons_zero, List.set_cons_succ, i64_w, i32_w]
            rfl
           exact norm_ (by simp only [putAll, Act.put, List.setIfInBounds_toArray, List.set_cons_zero, List.set_cons_succ]) (hCont (gb721) _ ⟨hHeld, (by (with_reducible repeat (first | refine blk_drewN ?_ _ | refine blk_drew ?_ | refine blk_alloc ?_ _)); exact BK713.out), (by (with_reducible repeat (first | refine blk_drewN ?_ _ | refine blk_drew ?_ | refine blk_alloc ?_ _)); exact BK714.out), (by (with_reducible repeat (first | refine blk_drewN ?_ _ | refine blk_drew ?_ | refine blk_alloc ?_ _)); exact BK721.out), GW721.out, GE721.out, NB713_721.out, NB721_713.out, NB714_721.out, NB721_714.out, (by repeat (first | (with_reducible first | exact HB.out | apply below_alloc | apply pw_below_drewN | apply below_drew1 | refine below_set ?_ GE713.out | refine below_set ?_ GE714.out | refine below_set ?_ GE721.out) | exact HB.out))⟩)
          ·skip
           refine box_step ?hg (N := 7) ?hd (cs := #[.int .i64 0, .int .i64 0, .int .i64 0]) (t := 99) ?hr ?_; (case hd => rfl); (case hg => rfl); (case hr => first | (go_simp; done) | (go_simp; rfl))
           intro gb721 hg w22 hbox hb
           have n0_ := Aside0.mk (blk_below (g := gb713) (o := .cells #[.int .i64 x714000_2, .int .i64 x714001_2, .int .i64 x714002_2] 99 (0, 0)) (by (with_reducible repeat (first | refine blk_drewN ?_ _ | refine blk_drew ?_ | refine blk_alloc ?_ _)); exact BK713.out) hb)
           have n1_ := Aside0.mk (blk_below (g := gb714) (o := .cells #[.int .i64 x715000_2, .int .i64 x715001_2, .int .i64 x715002_2] 99 (0, 0)) (by (with_reducible repeat (first | refine blk_drewN ?_ _ | refine blk_drew ?_ | refine blk_alloc ?_ _)); exact BK714.out) hb)
           have n2_ := Aside0.mk (below_step (by repeat (first | (with_reducible first | exact HB.out | apply below_alloc | apply pw_below_drewN | apply below_drew1 | refine below_set ?_ GE713.out | refine below_set ?_ GE714.out) | exact HB.out)) hb)
           have n3_ := Aside0.mk (hbox)
           have n4_ := Aside0.mk ((by rw [hg]; exact (below_size (by repeat (first | (with_reducible first | exact HB.out | apply below_alloc | apply pw_below_drewN | apply below_drew1 | refine below_set ?_ GE713.out | refine below_set ?_ GE714.out) | exact HB.out))) : w.heap.size ≤ gb721))
           have n5_ := Aside0.mk ((by rw [hg]; exact (below_size (by repeat (first | (with_reducible first | exact HB.out | apply below_alloc | apply pw_below_drewN | apply below_drew1 | refine below_set ?_ GE713.out | refine below_set ?_ GE714.out) | exact HB.out))) : w.heap.size ≤ gb721))
           have n6_ := Aside0.mk ((by rw [hg]; exact Nat.ne_of_lt (blk_lt (g := gb713) (o := .cells #[.int .i64 x714000_2, .int .i64 x714001_2, .int .i64 x714002_2] 99 (0, 0)) (by (with_reducible repeat (first | refine blk_drewN ?_ _ | refine blk_drew ?_ | refine blk_alloc ?_ _)); exact BK713.out)) : gb713 ≠ gb721))
           have n7_ := Aside0.mk ((by rw [hg]; exact Nat.ne_of_gt (blk_lt (g := gb713) (o := .cells #[.int .i64 x714000_2, .int .i64 x714001_2, .int .i64 x714002_2] 99 (0, 0)) (by (with_reducible repeat (first | refine blk_drewN ?_ _ | refine blk_drew ?_ | refine blk_alloc ?_ _)); exact BK713.out)) : gb721 ≠ gb713))
           have n8_ := Aside0.mk ((by rw [hg]; exact Nat.ne_of_lt (blk_lt (g := gb714) (o := .cells #[.int .i64 x715000_2, .int .i64 x715001_2, .int .i64 x715002_2] 99 (0, 0)) (by (with_reducible repeat (first | refine blk_drewN ?_ _ | refine blk_drew ?_ | refine blk_alloc ?_ _)); exact BK714.out)) : gb714 ≠ gb721))
           have n9_ := Aside0.mk ((by rw [hg]; exact Nat.ne_of_gt (blk_lt (g := gb714) (o := .cells #[.int .i64 x715000_2, .int .i64 x715001_2, .int .i64 x715002_2] 99 (0, 0)) (by (with_reducible repeat (first | refine blk_drewN ?_ _ | refine blk_drew ?_ | refine blk_alloc ?_ _)); exact BK714.out)) : gb721 ≠ gb714))
           clear BK713
           clear BK714
           clear HB
           have BK713 := n0_
           have BK714 := n1_
           have HB := n2_
           have BK721 := n3_
           have GW721 := n4_
           have GE721 := n5_
           have NB713_721 := n6_
           have NB721_713 := n7_
           have NB714_721 := n8_
           have NB721_714 := n9_
           clear n0_ n1_ n2_ n3_ n4_ n5_ n6_ n7_ n8_ n9_
           clear hb hbox hg
           refine hK.out _ _ ⟨(blk_cell BK713.out 0).trans rfl, (blk_cell BK713.out 1).trans rfl, (blk_cell BK713.out 2).trans rfl, ((HB.out.cell (World.block_lt_of_cell? w _ hw716_0)).trans hw716_0)⟩ (fun hHeld => ?_)
           clear hK K
           refine norm_ (a' := ?_) ?_ ?_
           rotate_left
           ·show Act.put _ (some 7) _ = _
            simp only [Act.put, List.setIfInBounds_toArray, List.set_cons_zero, List.set_cons_succ, i64_w, i32_w]
            rfl
           refine one_ (i := 5) (N := some 30) spec_Beats.v12 rfl rfl (one_of HT_.out (by kernel_rfl)) (by decide) (fun K hK => ?_)
           refine goes_ Try.func131 (by kernel_rfl) rfl #[.agg #[.int .i64 x714000_2, .int .i64 x714001_2, .int .i64 x714002_2], .int .i64 (rd l1 x6_2)] (by rfl) rfl rfl (by (try simp only [List.map_toArray, List.map_cons, List.map_nil]); first | done | rfl | (simp only [List.length_drop, List.length_take]; rfl)) ?_
           with_reducible refine (spec_Swing1.calls k2 x714000_2 x714001_2 x714002_2 (rd l1 x6_2) t717 t718 t719 true _ A19.out).mono ?_
           rintro e w23 ⟨rfl, hb⟩
           refine ⟨_, rfl, ?_⟩
           have n0_ := Aside0.mk (blk_below (g := gb713) (o := .cells #[.int .i64 x714000_2, .int .i64 x714001_2, .int .i64 x714002_2] 99 (0, 0)) (by (with_reducible repeat (first | refine blk_drewN ?_ _ | refine blk_drew ?_ | refine blk_alloc ?_ _)); exact BK713.out) hb)
           have n1_ := Aside0.mk (blk_below (g := gb714) (o := .cells #[.int .i64 x715000_2, .int .i64 x715001_2, .int .i64 x715002_2] 99 (0, 0)) (by (with_reducible repeat (first | refine blk_drewN ?_ _ | refine blk_drew ?_ | refine blk_alloc ?_ _)); exact BK714.out) hb)
           have n2_ := Aside0.mk (blk_below (g := gb721) (o := .cells #[.int .i64 0, .int .i64 0, .int .i64 0] 99 (0, 0)) (by (with_reducible repeat (first | refine blk_drewN ?_ _ | refine blk_drew ?_ | refine blk_alloc ?_ _)); exact BK721.out) hb)
           have n3_ := Aside0.mk (below_step (by repeat (first | (with_reducible first | exact HB.out | apply below_alloc | apply pw_below_drewN | apply below_drew1 | refine below_set ?_ GE713.out | refine below_set ?_ GE714.out | refine below_set ?_ GE721.out) | exact HB.out)) hb)
           clear BK713
           clear BK714
           clear BK721
           clear HB
           have BK713 := n0_
           have BK714 := n1_
           have BK721 := n2_
           have HB := n3_
           clear n0_ n1_ n2_ n3_
           (try clear hb)
           (try clear hb2)
           (try clear hk)
           (try clear hi)
           refine hK.out _ _ ⟨(blk_cell BK713.out 0).trans rfl, (blk_cell BK713.out 1).trans rfl, (blk_cell BK713.out 2).trans rfl, ((HB.out.cell (World.block_lt_of_cell? w _ hw716_0)).trans hw716_0)⟩ (fun hHeld => ?_)
           clear hK K
           refine norm_ (a' := ?_) ?_ ?_
           rotate_left
           ·show Act.put _ (some 30) _ = _
            simp only [Act.put, List.setIfInBounds_toArray, List.set_cons_zero, List.set_cons_succ, i64_w, i32_w]
            rfl
           refine pure_ (i := 6) (N := some 24) (v := ?_) (a' := ?_) spec_Beats.v13 rfl rfl (any_of HT_.out (by kernel_rfl)) (fun _ _ _ h => h) (Or.inl ⟨by rfl, ?_⟩) ?_ ?_
           rotate_left
           ·intro w'
            go_simp
            with_reducible rfl
           rotate_left
           ·simp only [Act.put, List.setIfInBounds_toArray, List.set_cons_zero, List.set_cons_succ, i64_w, i32_w]
            rfl
           refine pure_ (i := 7) (N := some 31) (v := ?_) (a' := ?_) spec_Beats.v14 rfl rfl (any_of HT_.out (by kernel_rfl)) (fun _ _ _ h => h) (Or.inl ⟨by rfl, ?_⟩) ?_ ?_
           rotate_left
           ·intro w'
            go_simp
            with_reducible rfl
           rotate_left
           ·simp only [Act.put, List.setIfInBounds_toArray, List.set_cons_zero, List.set_cons_succ, i64_w, i32_w]
            rfl
           refine pure_ (i := 8) (N := some 32) (v := ?_) (a' := ?_) spec_Beats.v6 rfl rfl (any_of HT_.out (by kernel_rfl)) (fun _ _ _ h => h) (Or.inl ⟨by rfl, ?_⟩) ?_ ?_
           rotate_left
           ·intro w'
            go_simp
            with_reducible rfl
           rotate_left
           ·simp only [Act.put, List.setIfInBounds_toArray, List.set_cons_zero, List.set_cons_succ, i64_w, i32_w]
            rfl
           exact norm_ (by simp only [putAll, Act.put, List.setIfInBounds_toArray, List.set_cons_zero, List.set_cons_succ]) (hCont (gb721) _ ⟨hHeld, (by (with_reducible repeat (first | refine blk_drewN ?_ _ | refine blk_drew ?_ | refine blk_alloc ?_ _)); exact BK713.out), (by (with_reducible repeat (first | refine blk_drewN ?_ _ | refine blk_drew ?_ | refine blk_alloc ?_ _)); exact BK714.out), (by (with_reducible repeat (first | refine blk_drewN ?_ _ | refine blk_drew ?_ | refine blk_alloc ?_ _)); exact BK721.out), GW721.out, GE721.out, NB713_721.out, NB721_713.out, NB714_721.out, NB721_714.out, (by repeat (first | (with_reducible first | exact HB.out | apply below_alloc | apply pw_below_drewN | apply below_drew1 | refine below_set ?_ GE713.out | refine below_set ?_ GE714.out | refine below_set ?_ GE721.out) | exact HB.out))⟩)
         rintro gb721 w24 ⟨hS_, h0_, h1_, h2_, h3_, h4_, h5_, h6_, h7_, h8_, h9_⟩
         have n0_ : Aside0 (w24.heap[gb713]? = some (.cells #[.int .i64 x714000_2, .int .i64 x714001_2, .int .i64 x714002_2] 99 (0, 0))) := ⟨h0_⟩
         have n1_ : Aside0 (w24.heap[gb714]? = some (.cells #[.int .i64 x715000_2, .int .i64 x715001_2, .int .i64 x715002_2] 99 (0, 0))) := ⟨h1_⟩
         have n2_ : Aside0 (w24.heap[gb721]? = some (.cells #[.int .i64 0, .int .i64 0, .int .i64 0] 99 (0, 0))) := ⟨h2_⟩
         have n3_ : Aside0 (w.heap.size ≤ gb721) := ⟨h3_⟩
         have n4_ : Aside0 (w.heap.size ≤ gb721) := ⟨h4_⟩
         have n5_ : Aside0 (gb713 ≠ gb721) := ⟨h5_⟩
         have n6_ : Aside0 (gb721 ≠ gb713) := ⟨h6_⟩
         have n7_ : Aside0 (gb714 ≠ gb721) := ⟨h7_⟩
         have n8_ : Aside0 (gb721 ≠ gb714) := ⟨h8_⟩
         have n9_ : Aside0 (Below w.heap.size w w24) := ⟨h9_⟩
         clear BK713
         clear BK714
         clear HB
         clear h0_ h1_ h2_ h3_ h4_ h5_ h6_ h7_ h8_ h9_
         have BK713 := n0_
         have BK714 := n1_
         have BK721 := n2_
         have GW721 := n3_
         have GE721 := n4_
         have NB713_721 := n5_
         have NB721_713 := n6_
         have NB714_721 := n7_
         have NB721_714 := n8_
         have HB := n9_
         clear n0_ n1_ n2_ n3_ n4_ n5_ n6_ n7_ n8_ n9_
         have hHeld : w24.cell? ⟨gb713, 0, none⟩ = some (.int .i64 x714000_2) ∧ w24.cell? ⟨gb713, 1, none⟩ = some (.int .i64 x714001_2) ∧ w24.cell? ⟨gb713, 2, none⟩ = some (.int .i64 x714002_2) ∧ w24.cell? (ad716.add (x6_2).toNat) = some (.int .i64 (rd l1 x6_2)) := hS_
         refine norm_ (a' := ?_) ?_ ?_
         rotate_left
         ·simp only [putAll, Act.put, List.setIfInBounds_toArray, List.set_cons_zero, List.set_cons_succ]
          rfl
         refine one_ (i := 10) (N := none) spec_Beats.v15 rfl rfl (one_of HT_.out (by kernel_rfl)) (by decide) (fun K hK => ?_)
         have hs25 : w24.cell? ⟨gb721, 0, none⟩ = some (.int .i64 0) := (blk_cell BK721.out 0).trans rfl
         have hfs25 := blk_frozen BK721.out 0
         have hns25_0 := NB713_721.out
         have hns25_1 := NB714_721.out
         have hms25_0 := NB721_713.out
         have hms25_1 := NB721_714.out
         have hs26 : w24.cell? ⟨gb721, 1, none⟩ = some (.int .i64 0) := (blk_cell BK721.out 1).trans rfl
         have hfs26 := blk_frozen BK721.out 1
         have hns26_0 := NB713_721.out
         have hns26_1 := NB714_721.out
         have hms26_0 := NB721_713.out
         have hms26_1 := NB721_714.out
         have hs27 : w24.cell? ⟨gb721, 2, none⟩ = some (.int .i64 0) := (blk_cell BK721.out 2).trans rfl
         have hfs27 := blk_frozen BK721.out 2
         have hns27_0 := NB713_721.out
         have hns27_1 := NB714_721.out
         have hms27_0 := NB721_713.out
         have hms27_1 := NB721_714.out
         refine skip_ (w1 := ?_) (by rfl) rfl ?_ ?_
         rotate_left
         ·go_simp
          rfl
         refine hK.out _ _ ⟨((cell_far (p := ⟨gb721, _, none⟩) NB713_721.out _).trans (((cell_far (p := ⟨gb721, _, none⟩) NB713_721.out _).trans (((cell_far (p := ⟨gb721, _, none⟩) NB713_721.out _).trans (hHeld.1)))))), ((cell_far (p := ⟨gb721, _, none⟩) NB713_721.out _).trans (((cell_far (p := ⟨gb721, _, none⟩) NB713_721.out _).trans (((cell_far (p := ⟨gb721, _, none⟩) NB713_721.out _).trans (hHeld.2.1)))))), ((cell_far (p := ⟨gb721, _, none⟩) NB713_721.out _).trans (((cell_far (p := ⟨gb721, _, none⟩) NB713_721.out _).trans (((cell_far (p := ⟨gb721, _, none⟩) NB713_721.out _).trans (hHeld.2.2.1)))))), ((cell_far (p := ⟨gb721, _, none⟩) (by first | exact Nat.ne_of_lt (Nat.lt_of_lt_of_le (by have := World.block_lt_of_cell? _ _ hw716_0; first | rwa [add_block] at this | exact this) GW721.out) | (rw [add_block]; exact Nat.ne_of_lt (Nat.lt_of_lt_of_le (by have := World.block_lt_of_cell? _ _ hw716_0; first | rwa [add_block] at this | exact this) GW721.out)) | (show (Addr.add _ _).block ≠ _; rw [add_block]; exact Nat.ne_of_lt (Nat.lt_of_lt_of_le (by have := World.block_lt_of_cell? _ _ hw716_0; first | rwa [add_block] at this | exact this) GW721.out)) | (dsimp only; exact Nat.ne_of_lt (Nat.lt_of_lt_of_le (by have := World.block_lt_of_cell? _ _ hw716_0; first | rwa [add_block] at this | exact this) GW721.out))) _).trans (((cell_far (p := ⟨gb721, _, none⟩) (by first | exact Nat.ne_of_lt (Nat.lt_of_lt_of_le (by have := World.block_lt_of_cell? _ _ hw716_0; first | rwa [add_block] at this | exact this) GW721.out) | (rw [add_block]; exact Nat.ne_of_lt (Nat.lt_of_lt_of_le (by have := World.block_lt_of_cell? _ _ hw716_0; first | rwa [add_block] at this | exact this) GW721.out)) | (show (Addr.add _ _).block ≠ _; rw [add_block]; exact Nat.ne_of_lt (Nat.lt_of_lt_of_le (by have := World.block_lt_of_cell? _ _ hw716_0; first | rwa [add_block] at this | exact this) GW721.out)) | (dsimp only; exact Nat.ne_of_lt (Nat.lt_of_lt_of_le (by have := World.block_lt_of_cell? _ _ hw716_0; first | rwa [add_block] at this | exact this) GW721.out))) _).trans (((cell_far (p := ⟨gb721, _, none⟩) (by first | exact Nat.ne_of_lt (Nat.lt_of_lt_of_le (by have := World.block_lt_of_cell? _ _ hw716_0; first | rwa [add_block] at this | exact this) GW721.out) | (rw [add_block]; exact Nat.ne_of_lt (Nat.lt_of_lt_of_le (by have := World.block_lt_of_cell? _ _ hw716_0; first | rwa [add_block] at this | exact this) GW721.out)) | (show (Addr.add _ _).block ≠ _; rw [add_block]; exact Nat.ne_of_lt (Nat.lt_of_lt_of_le (by have := World.block_lt_of_cell? _ _ hw716_0; first | rwa [add_block] at this | exact this) GW721.out)) | (dsimp only; exact Nat.ne_of_lt (Nat.lt_of_lt_of_le (by have := World.block_lt_of_cell? _ _ hw716_0; first | rwa [add_block] at this | exact this) GW721.out))) _).trans (hHeld.2.2.2))))))⟩ (fun hHeld => ?_)
         clear hK K
         refine pure_ (i := 11) (N := some 8) (v := ?_) (a' := ?_) spec_Beats.v16 rfl rfl (any_of HT_.out (by kernel_rfl)) (fun _ _ _ h => h) (Or.inl ⟨by rfl, ?_⟩) ?_ ?_
         rotate_left
         ·intro w'
          go_simp
          with_reducible rfl
         rotate_left
         ·simp only [Act.put, List.setIfInBounds_toArray, List.set_cons_zero, List.set_cons_succ, i64_w, i32_w]
          rfl
         refine done_ (done_of HT_.out (by kernel_rfl)) ?_
         have hnb28 := NB721_713.out
         have hnc28 := NB713_721.out
         have hnb29 := NB721_714.out
         have hnc29 := NB714_721.out
         have hcz30_0 : w24.cell? ⟨gb721, 0, none⟩ = some (.int .i64 0) := (blk_cell BK721.out 0).trans rfl
         have hcz30_1 : w24.cell? ⟨gb721, 1, none⟩ = some (.int .i64 0) := (blk_cell BK721.out 1).trans rfl
         have hcz30_2 : w24.cell? ⟨gb721, 2, none⟩ = some (.int .i64 0) := (blk_cell BK721.out 2).trans rfl
         have hfz30_0 := blk_frozen BK721.out 0
         have hfz30_1 := blk_frozen BK721.out 1
         have hfz30_2 := blk_frozen BK721.out 2
         have hnb31 := NB713_714.out
         have hnc31 := NB714_713.out
         have hcz32_0 : w24.cell? ⟨gb713, 0, none⟩ = some (.int .i64 x714000_2) := (blk_cell BK713.out 0).trans rfl
         have hcz32_1 : w24.cell? ⟨gb713, 1, none⟩ = some (.int .i64 x714001_2) := (blk_cell BK713.out 1).trans rfl
         have hcz32_2 : w24.cell? ⟨gb713, 2, none⟩ = some (.int .i64 x714002_2) := (blk_cell BK713.out 2).trans rfl
         have hfz32_0 := blk_frozen BK713.out 0
         have hfz32_1 := blk_frozen BK713.out 1
         have hfz32_2 := blk_frozen BK713.out 2
         try go_wp2
         go_roundg k2
         case measure => have := HJ2.out; have := HK2.out; omega
         case rel => exact ⟨(wrap64 (x6_2 + 1)), (t717), (t718), (t719), (x715000_2), (x715001_2), (x715002_2), (by first | rfl | (simp; done) | (simp [*]; done)), H', ⟨by have := HJ2.out; have := HK2.out; omega⟩, ⟨by (with_reducible repeat (first | refine blk_drewN ?_ _ | refine blk_drew ?_ | refine blk_alloc ?_ _)); refine blk_put (cs := #[.int .i64 t717, .int .i64 t718, .int .i64 x714002_2]) ?_ 2 _ rfl; (with_reducible repeat (first | refine blk_drewN ?_ _ | refine blk_drew ?_ | refine blk_alloc ?_ _)); refine blk_put (cs := #[.int .i64 t717, .int .i64 x714001_2, .int .i64 x714002_2]) ?_ 1 _ rfl; (with_reducible repeat (first | refine blk_drewN ?_ _ | refine blk_drew ?_ | refine blk_alloc ?_ _)); refine blk_put (cs := #[.int .i64 x714000_2, .int .i64 x714001_2, .int .i64 x714002_2]) ?_ 0 _ rfl; (with_reducible repeat (first | refine blk_drewN ?_ _ | refine blk_drew ?_ | refine blk_alloc ?_ _)); refine blk_far ?_ NB713_721.out _; (with_reducible repeat (first | refine blk_drewN ?_ _ | refine blk_drew ?_ | refine blk_alloc ?_ _)); refine blk_far ?_ NB713_721.out _; (with_reducible repeat (first | refine blk_drewN ?_ _ | refine blk_drew ?_ | refine blk_alloc ?_ _)); refine blk_far ?_ NB713_721.out _; (with_reducible repeat (first | refine blk_drewN ?_ _ | refine blk_drew ?_ | refine blk_alloc ?_ _)); exact BK713.out⟩, ⟨by (with_reducible repeat (first | refine blk_drewN ?_ _ | refine blk_drew ?_ | refine blk_alloc ?_ _)); refine blk_far ?_ NB714_713.out _; (with_reducible repeat (first | refine blk_drewN ?_ _ | refine blk_drew ?_ | refine blk_alloc ?_ _)); refine blk_far ?_ NB714_713.out _; (with_reducible repeat (first | refine blk_drewN ?_ _ | refine blk_drew ?_ | refine blk_alloc ?_ _)); refine blk_far ?_ NB714_713.out _; (with_reducible repeat (first | refine blk_drewN ?_ _ | refine blk_drew ?_ | refine blk_alloc ?_ _)); refine blk_far ?_ NB714_721.out _; (with_reducible repeat (first | refine blk_drewN ?_ _ | refine blk_drew ?_ | refine blk_alloc ?_ _)); refine blk_far ?_ NB714_721.out _; (with_reducible repeat (first | refine blk_drewN ?_ _ | refine blk_drew ?_ | refine blk_alloc ?_ _)); refine blk_far ?_ NB714_721.out _; (with_reducible repeat (first | refine blk_drewN ?_ _ | refine blk_drew ?_ | refine blk_alloc ?_ _)); exact BK714.out⟩, ⟨by repeat (first | (with_reducible first | exact HB.out | apply below_alloc | apply pw_below_drewN | apply below_drew1 | refine below_set ?_ GE713.out | refine below_set ?_ GE714.out | refine below_set ?_ GE721.out) | exact HB.out)⟩⟩
        ·replace c20 := Bool.eq_false_iff.mpr c20
         subst c20
         rw [if_neg (show ¬ (false = true) by decide)] at H
         simp only [Option.some.injEq, Prod.mk.injEq] at H
         obtain ⟨rfl, rfl, rfl, rfl⟩ := H
         try go_wp2
         have n0_ := Aside0.mk (blk_drew BK713.out)
         have n1_ := Aside0.mk (blk_drew BK714.out)
         have n2_ := Aside0.mk (below_drew1 HB.out)
         clear BK713
         clear BK714
         clear HB
         have BK713 := n0_
         have BK714 := n1_
         have HB := n2_
         clear n0_ n1_ n2_
         have p716 : 0 ≤ (x6_2 : Int) := of_decide_eq_true (by first | (with_reducible assumption) | assumption)
         have q716 : x6_2 < (l1.length : Int) := of_decide_eq_true (by first | (with_reducible assumption) | assumption)
         obtain ⟨ad716, e716, hx716_0⟩ := Kd.at_int HR1.out x6_2 p716 q716
         have hw716_0 := hx716_0
         cases e716
         replace hx716_0 := (HB.out.cell (World.block_lt_of_cell? w _ hx716_0)).trans hx716_0
         replace p716 := eq_true p716
         replace q716 := eq_true q716
         refine start_ (n := 12) (S := fun w' => w'.cell? ⟨gb713, 0, none⟩ = some (.int .i64 x714000_2) ∧ w'.cell? ⟨gb713, 1, none⟩ = some (.int .i64 x714001_2) ∧ w'.cell? ⟨gb713, 2, none⟩ = some (.int .i64 x714002_2) ∧ w'.cell? (ad716.add (x6_2).toNat) = some (.int .i64 (rd l1 x6_2))) (ds := []) spec_Beats.v0 (by kernel_rfl) rfl rfl ⟨(blk_cell BK713.out 0).trans rfl, (blk_cell BK713.out 1).trans rfl, (blk_cell BK713.out 2).trans rfl, ((HB.out.cell (World.block_lt_of_cell? w _ hw716_0)).trans hw716_0)⟩ (fun hHeld => ?_); refine with_tabW spec_Beats.tab6 spec_Beats.bits6 (fun HT_ HW_ => ?_)
         generalize wr.drew = w33 at BK713 BK714 HB hx716_0 hHeld ⊢
         refine pure_ (i := 1) (N := some 26) (v := ?_) (a' := ?_) spec_Beats.v1 rfl rfl (any_of HT_.out (by kernel_rfl)) (fun _ _ _ h => h) (Or.inl ⟨by rfl, ?_⟩) ?_ ?_
         rotate_left
         ·intro w'
          go_simp
          with_reducible rfl
         rotate_left
         ·simp only [Act.put, List.setIfInBounds_toArray, List.set_cons_zero, List.set_cons_succ, i64_w, i32_w]
          rfl
         refine pure_ (i := 2) (N := some 27) (v := ?_) (a' := ?_) spec_Beats.v2 rfl rfl (any_of HT_.out (by kernel_rfl)) (fun _ _ _ h => h) (Or.inl ⟨by rfl, ?_⟩) ?_ ?_
         rotate_left
         ·intro w'
          go_simp
          with_reducible rfl
         rotate_left
         ·simp only [Act.put, List.setIfInBounds_toArray, List.set_cons_zero, List.set_cons_succ, i64_w, i32_w]
          rfl
         refine pure_ (i := 3) (N := some 28) (v := ?_) (a' := ?_) spec_Beats.v3 rfl rfl (any_of HT_.out (by kernel_rfl)) (fun _ _ _ h => h) (Or.inl ⟨by rfl, ?_⟩) ?_ ?_
         rotate_left
         ·intro w'
          go_simp
          with_reducible rfl
         rotate_left
         ·simp only [Act.put, List.setIfInBounds_toArray, List.set_cons_zero, List.set_cons_succ, i64_w, i32_w]
          rfl
         refine take_ (i := 0) (N := some 25) (v := ?_) (a' := ?_) spec_Beats.v4 rfl rfl (take_ofW HT_.out HW_.out (by kernel_rfl)) (fun _ _ _ h => h) (Or.inl ⟨by rfl, ?_⟩) hHeld ?_ ?_
         rotate_left
         ·rintro w' ⟨s0, s1, s2, s3⟩
          go_simp
          with_reducible rfl
         rotate_left
         ·simp only [Act.put, List.setIfInBounds_toArray, List.set_cons_zero, List.set_cons_succ, i64_w, i32_w]
          rfl
         refine take_ (i := 4) (N := some 29) (v := ?_) (a' := ?_) spec_Beats.v5 rfl rfl (take_ofW HT_.out HW_.out (by kernel_rfl)) (fun _ _ _ h => h) (Or.inl ⟨by rfl, ?_⟩) hHeld ?_ ?_
         rotate_left
         ·rintro w' ⟨s0, s1, s2, s3⟩
          go_simp
          with_reducible rfl
         rotate_left
         ·simp only [Act.put, List.setIfInBounds_toArray, List.set_cons_zero, List.set_cons_succ, i64_w, i32_w]
          rfl
         refine join_ (σ := Nat) 2 spec_Beats.v6 (fun s_ => [(30, .tuple #[.agg #[.int .i64 t717, .int .i64 t718, .int .i64 t719], .bool false]), (7, .pointer (some ⟨s_, 0, none⟩)), (24, .tuple #[.agg #[.int .i64 t717, .int .i64 t718, .int .i64 t719], .bool false]), (31, .agg #[.int .i64 t717, .int .i64 t718, .int .i64 t719]), (32, .bool false)]) (fun s_ w' => (w'.cell? ⟨gb713, 0, none⟩ = some (.int .i64 x714000_2) ∧ w'.cell? ⟨gb713, 1, none⟩ = some (.int .i64 x714001_2) ∧ w'.cell? ⟨gb713, 2, none⟩ = some (.int .i64 x714002_2) ∧ w'.cell? (ad716.add (x6_2).toNat) = some (.int .i64 (rd l1 x6_2))) ∧ (w'.heap[gb713]? = some (.cells #[.int .i64 x714000_2, .int .i64 x714001_2, .int .i64 x714002_2] 99 (0, 0))) ∧ (w'.heap[gb714]? = some (.cells #[.int .i64 x715000_2, .int .i64 x715001_2, .int .i64 x715002_2] 99 (0, 0))) ∧ (w'.heap[s_]? = some (.cells #[.int .i64 0, .int .i64 0, .int .i64 0] 99 (0, 0))) ∧ (w.heap.size ≤ s_) ∧ (w.heap.size ≤ s_) ∧ (gb713 ≠ s_) ∧ (s_ ≠ gb713) ∧ (gb714 ≠ s_) ∧ (s_ ≠ gb714) ∧ (Below w.heap.size w w')) ?_ ?_
         rotate_left
         ·intro hCont
          refine two_ (i := 5) (j := 9) (Ni := some 30) (Nj := some 7) spec_Beats.v7 spec_Beats.v8 rfl rfl rfl rfl (two_of HT_.out (by kernel_rfl)) (by decide) (by decide) (fun K hK => ?_) (fun K hK => ?_)
          ·skip
           refine goes_ Try.func131 (by kernel_rfl) rfl #[.agg #[.int .i64 x714000_2, .int .i64 x714001_2, .int .i64 x714002_2], .int .i64 (rd l1 x6_2)] (by rfl) rfl rfl (by (try simp only [List.map_toArray, List.map_cons, List.map_nil]); first | done | rfl | (simp only [List.length_drop, List.length_take]; rfl)) ?_
           with_reducible refine (spec_Swing1.calls k2 x714000_2 x714001_2 x714002_2 (rd l1 x6_2) t717 t718 t719 false _ A19.out).mono ?_
           rintro e w34 ⟨rfl, hb⟩
           refine ⟨_, rfl, ?_⟩
           have n0_ := Aside0.mk (blk_below (g := gb713) (o := .cells #[.int .i64 x714000_2, .int .i64 x714001_2, .int .i64 x714002_2] 99 (0, 0)) (by (with_reducible repeat (first | refine blk_drewN ?_ _ | refine blk_drew ?_ | refine blk_alloc ?_ _)); exact BK713.out) hb)
           have n1_ := Aside0.mk (blk_below (g := gb714) (o := .cells #[.int .i64 x715000_2, .int .i64 x715001_2, .int .i64 x715002_2] 99 (0, 0)) (by (with_reducible repeat (first | refine blk_drewN ?_ _ | refine blk_drew ?_ | refine blk_alloc ?_ _)); exact BK714.out) hb)
           have n2_ := Aside0.mk (below_step (by repeat (first | (with_reducible first | exact HB.out | apply below_alloc | apply pw_below_drewN | apply below_drew1 | refine below_set ?_ GE713.out | refine below_set ?_ GE714.out) | exact HB.out)) hb)
           clear BK713
           clear BK714
           clear HB
           have BK713 := n0_
           have BK714 := n1_
           have HB := n2_
           clear n0_ n1_ n2_
           (try clear hb)
           (try clear hb2)
           (try clear hk)
           (try clear hi)
           refine hK.out _ _ ⟨(blk_cell BK713.out 0).trans rfl, (blk_cell BK713.out 1).trans rfl, (blk_cell BK713.out 2).trans rfl, ((HB.out.cell (World.block_lt_of_cell? w _ hw716_0)).trans hw716_0)⟩ (fun hHeld => ?_)
           clear hK K
           refine norm_ (a' := ?_) ?_ ?_
           rotate_left
           ·show Act.put _ (some 30) _ = _
            simp only [Act.put, List.setIfInBounds_toArray, List.set_cons_zero, List.set_cons_succ, i64_w, i32_w]
            rfl
           refine pure_ (i := 6) (N := some 24) (v := ?_) (a' := ?_) spec_Beats.v9 rfl rfl (any_of HT_.out (by kernel_rfl)) (fun _ _ _ h => h) (Or.inl ⟨by rfl, ?_⟩) ?_ ?_
           rotate_left
           ·intro w'
            go_simp
            with_reducible rfl
           rotate_left
           ·simp only [Act.put, List.setIfInBounds_toArray, List.set_cons_zero, List.set_cons_succ, i64_w, i32_w]
            rfl
           refine pure_ (i := 7) (N := some 31) (v := ?_) (a' := ?_) spec_Beats.v10 rfl rfl (any_of HT_.out (by kernel_rfl)) (fun _ _ _ h => h) (Or.inl ⟨by rfl, ?_⟩) ?_ ?_
           rotate_left
           ·intro w'
            go_simp
            with_reducible rfl
           rotate_left
           ·simp only [Act.put, List.setIfInBounds_toArray, List.set_cons_zero, List.set_cons_succ, i64_w, i32_w]
            rfl
           refine pure_ (i := 8) (N := some 32) (v := ?_) (a' := ?_) spec_Beats.v11 rfl rfl (any_of HT_.out (by kernel_rfl)) (fun _ _ _ h => h) (Or.inl ⟨by rfl, ?_⟩) ?_ ?_
           rotate_left
           ·intro w'
            go_simp
            with_reducible rfl
           rotate_left
           ·simp only [Act.put, List.setIfInBounds_toArray, List.set_cons_zero, List.set_cons_succ, i64_w, i32_w]
            rfl
           refine one_ (i := 9) (N := some 7) spec_Beats.v6 rfl rfl (one_of HT_.out (by kernel_rfl)) (by decide) (fun K hK => ?_)
           refine box_step ?hg (N := 7) ?hd (cs := #[.int .i64 0, .int .i64 0, .int .i64 0]) (t := 99) ?hr ?_; (case hd => rfl); (case hg => rfl); (case hr => first | (go_simp; done) | (go_simp; rfl))
           intro gb721 hg w35 hbox hb
           have n0_ := Aside0.mk (blk_below (g := gb713) (o := .cells #[.int .i64 x714000_2, .int .i64 x714001_2, .int .i64 x714002_2] 99 (0, 0)) (by (with_reducible repeat (first | refine blk_drewN ?_ _ | refine blk_drew ?_ | refine blk_alloc ?_ _)); exact BK713.out) hb)
           have n1_ := Aside0.mk (blk_below (g := gb714) (o := .cells #[.int .i64 x715000_2, .int .i64 x715001_2, .int .i64 x715002_2] 99 (0, 0)) (by (with_reducible repeat (first | refine blk_drewN ?_ _ | refine blk_drew ?_ | refine blk_alloc ?_ _)); exact BK714.out) hb)
           have n2_ := Aside0.mk (below_step (by repeat (first | (with_reducible first | exact HB.out | apply below_alloc | apply pw_below_drewN | apply below_drew1 | refine below_set ?_ GE713.out | refine below_set ?_ GE714.out) | exact HB.out)) hb)
           have n3_ := Aside0.mk (hbox)
           have n4_ := Aside0.mk ((by rw [hg]; exact (below_size (by repeat (first | (with_reducible first | exact HB.out | apply below_alloc | apply pw_below_drewN | apply below_drew1 | refine below_set ?_ GE713.out | refine below_set ?_ GE714.out) | exact HB.out))) : w.heap.size ≤ gb721))
           have n5_ := Aside0.mk ((by rw [hg]; exact (below_size (by repeat (first | (with_reducible first | exact HB.out | apply below_alloc | apply pw_below_drewN | apply below_drew1 | refine below_set ?_ GE713.out | refine below_set ?_ GE714.out) | exact HB.out))) : w.heap.size ≤ gb721))
           have n6_ := Aside0.mk ((by rw [hg]; exact Nat.ne_of_lt (blk_lt (g := gb713) (o := .cells #[.int .i64 x714000_2, .int .i64 x714001_2, .int .i64 x714002_2] 99 (0, 0)) (by (with_reducible repeat (first | refine blk_drewN ?_ _ | refine blk_drew ?_ | refine blk_alloc ?_ _)); exact BK713.out)) : gb713 ≠ gb721))
           have n7_ := Aside0.mk ((by rw [hg]; exact Nat.ne_of_gt (blk_lt (g := gb713) (o := .cells #[.int .i64 x714000_2, .int .i64 x714001_2, .int .i64 x714002_2] 99 (0, 0)) (by (with_reducible repeat (first | refine blk_drewN ?_ _ | refine blk_drew ?_ | refine blk_alloc ?_ _)); exact BK713.out)) : gb721 ≠ gb713))
           have n8_ := Aside0.mk ((by rw [hg]; exact Nat.ne_of_lt (blk_lt (g := gb714) (o := .cells #[.int .i64 x715000_2, .int .i64 x715001_2, .int .i64 x715002_2] 99 (0, 0)) (by (with_reducible repeat (first | refine blk_drewN ?_ _ | refine blk_drew ?_ | refine blk_alloc ?_ _)); exact BK714.out)) : gb714 ≠ gb721))
           have n9_ := Aside0.mk ((by rw [hg]; exact Nat.ne_of_gt (blk_lt (g := gb714) (o := .cells #[.int .i64 x715000_2, .int .i64 x715001_2, .int .i64 x715002_2] 99 (0, 0)) (by (with_reducible repeat (first | refine blk_drewN ?_ _ | refine blk_drew ?_ | refine blk_alloc ?_ _)); exact BK714.out)) : gb721 ≠ gb714))
           clear BK713
           clear BK714
           clear HB
           have BK713 := n0_
           have BK714 := n1_
           have HB := n2_
           have BK721 := n3_
           have GW721 := n4_
           have GE721 := n5_
           have NB713_721 := n6_
           have NB721_713 := n7_
           have NB714_721 := n8_
           have NB721_714 := n9_
           clear n0_ n1_ n2_ n3_ n4_ n5_ n6_ n7_ n8_ n9_
           clear hb hbox hg
           refine hK.out _ _ ⟨(blk_cell BK713.out 0).trans rfl, (blk_cell BK713.out 1).trans rfl, (blk_cell BK713.out 2).trans rfl, ((HB.out.cell (World.block_lt_of_cell? w _ hw716_0)).trans hw716_0)⟩ (fun hHeld => ?_)
           clear hK K
           refine norm_ (a' := ?_) ?_ ?_
           rotate_left
           ·show Act.put _ (some 7) _ = _
            simp only [Act.put, List.setIfInBounds_toArray, List.set_cons_zero, List.set_cons_succ, i64_w, i32_w]
            rfl
           exact norm_ (by simp only [putAll, Act.put, List.setIfInBounds_toArray, List.set_cons_zero, List.set_cons_succ]) (hCont (gb721) _ ⟨hHeld, (by (with_reducible repeat (first | refine blk_drewN ?_ _ | refine blk_drew ?_ | refine blk_alloc ?_ _)); exact BK713.out), (by (with_reducible repeat (first | refine blk_drewN ?_ _ | refine blk_drew ?_ | refine blk_alloc ?_ _)); exact BK714.out), (by (with_reducible repeat (first | refine blk_drewN ?_ _ | refine blk_drew ?_ | refine blk_alloc ?_ _)); exact BK721.out), GW721.out, GE721.out, NB713_721.out, NB721_713.out, NB714_721.out, NB721_714.out, (by repeat (first | (with_reducible first | exact HB.out | apply below_alloc | apply pw_below_drewN | apply below_drew1 | refine below_set ?_ GE713.out | refine below_set ?_ GE714.out | refine below_set ?_ GE721.out) | exact HB.out))⟩)
          ·skip
           refine box_step ?hg (N := 7) ?hd (cs := #[.int .i64 0, .int .i64 0, .int .i64 0]) (t := 99) ?hr ?_; (case hd => rfl); (case hg => rfl); (case hr => first | (go_simp; done) | (go_simp; rfl))
           intro gb721 hg w34 hbox hb
           have n0_ := Aside0.mk (blk_below (g := gb713) (o := .cells #[.int .i64 x714000_2, .int .i64 x714001_2, .int .i64 x714002_2] 99 (0, 0)) (by (with_reducible repeat (first | refine blk_drewN ?_ _ | refine blk_drew ?_ | refine blk_alloc ?_ _)); exact BK713.out) hb)
           have n1_ := Aside0.mk (blk_below (g := gb714) (o := .cells #[.int .i64 x715000_2, .int .i64 x715001_2, .int .i64 x715002_2] 99 (0, 0)) (by (with_reducible repeat (first | refine blk_drewN ?_ _ | refine blk_drew ?_ | refine blk_alloc ?_ _)); exact BK714.out) hb)
           have n2_ := Aside0.mk (below_step (by repeat (first | (with_reducible first | exact HB.out | apply below_alloc | apply pw_below_drewN | apply below_drew1 | refine below_set ?_ GE713.out | refine below_set ?_ GE714.out) | exact HB.out)) hb)
           have n3_ := Aside0.mk (hbox)
           have n4_ := Aside0.mk ((by rw [hg]; exact (below_size (by repeat (first | (with_reducible first | exact HB.out | apply below_alloc | apply pw_below_drewN | apply below_drew1 | refine below_set ?_ GE713.out | refine below_set ?_ GE714.out) | exact HB.out))) : w.heap.size ≤ gb721))
           have n5_ := Aside0.mk ((by rw [hg]; exact (below_size (by repeat (first | (with_reducible first | exact HB.out | apply below_alloc | apply pw_below_drewN | apply below_drew1 | refine below_set ?_ GE713.out | refine below_set ?_ GE714.out) | exact HB.out))) : w.heap.size ≤ gb721))
           have n6_ := Aside0.mk ((by rw [hg]; exact Nat.ne_of_lt (blk_lt (g := gb713) (o := .cells #[.int .i64 x714000_2, .int .i64 x714001_2, .int .i64 x714002_2] 99 (0, 0)) (by (with_reducible repeat (first | refine blk_drewN ?_ _ | refine blk_drew ?_ | refine blk_alloc ?_ _)); exact BK713.out)) : gb713 ≠ gb721))
           have n7_ := Aside0.mk ((by rw [hg]; exact Nat.ne_of_gt (blk_lt (g := gb713) (o := .cells #[.int .i64 x714000_2, .int .i64 x714001_2, .int .i64 x714002_2] 99 (0, 0)) (by (with_reducible repeat (first | refine blk_drewN ?_ _ | refine blk_drew ?_ | refine blk_alloc ?_ _)); exact BK713.out)) : gb721 ≠ gb713))
           have n8_ := Aside0.mk ((by rw [hg]; exact Nat.ne_of_lt (blk_lt (g := gb714) (o := .cells #[.int .i64 x715000_2, .int .i64 x715001_2, .int .i64 x715002_2] 99 (0, 0)) (by (with_reducible repeat (first | refine blk_drewN ?_ _ | refine blk_drew ?_ | refine blk_alloc ?_ _)); exact BK714.out)) : gb714 ≠ gb721))
           have n9_ := Aside0.mk ((by rw [hg]; exact Nat.ne_of_gt (blk_lt (g := gb714) (o := .cells #[.int .i64 x715000_2, .int .i64 x715001_2, .int .i64 x715002_2] 99 (0, 0)) (by (with_reducible repeat (first | refine blk_drewN ?_ _ | refine blk_drew ?_ | refine blk_alloc ?_ _)); exact BK714.out)) : gb721 ≠ gb714))
           clear BK713
           clear BK714
           clear HB
           have BK713 := n0_
           have BK714 := n1_
           have HB := n2_
           have BK721 := n3_
           have GW721 := n4_
           have GE721 := n5_
           have NB713_721 := n6_
           have NB721_713 := n7_
           have NB714_721 := n8_
           have NB721_714 := n9_
           clear n0_ n1_ n2_ n3_ n4_ n5_ n6_ n7_ n8_ n9_
           clear hb hbox hg
           refine hK.out _ _ ⟨(blk_cell BK713.out 0).trans rfl, (blk_cell BK713.out 1).trans rfl, (blk_cell BK713.out 2).trans rfl, ((HB.out.cell (World.block_lt_of_cell? w _ hw716_0)).trans hw716_0)⟩ (fun hHeld => ?_)
           clear hK K
           refine norm_ (a' := ?_) ?_ ?_
           rotate_left
           ·show Act.put _ (some 7) _ = _
            simp only [Act.put, List.setIfInBounds_toArray, List.set_cons_zero, List.set_cons_succ, i64_w, i32_w]
            rfl
           refine one_ (i := 5) (N := some 30) spec_Beats.v12 rfl rfl (one_of HT_.out (by kernel_rfl)) (by decide) (fun K hK => ?_)
           refine goes_ Try.func131 (by kernel_rfl) rfl #[.agg #[.int .i64 x714000_2, .int .i64 x714001_2, .int .i64 x714002_2], .int .i64 (rd l1 x6_2)] (by rfl) rfl rfl (by (try simp only [List.map_toArray, List.map_cons, List.map_nil]); first | done | rfl | (simp only [List.length_drop, List.length_take]; rfl)) ?_
           with_reducible refine (spec_Swing1.calls k2 x714000_2 x714001_2 x714002_2 (rd l1 x6_2) t717 t718 t719 false _ A19.out).mono ?_
           rintro e w35 ⟨rfl, hb⟩
           refine ⟨_, rfl, ?_⟩
           have n0_ := Aside0.mk (blk_below (g := gb713) (o := .cells #[.int .i64 x714000_2, .int .i64 x714001_2, .int .i64 x714002_2] 99 (0, 0)) (by (with_reducible repeat (first | refine blk_drewN ?_ _ | refine blk_drew ?_ | refine blk_alloc ?_ _)); exact BK713.out) hb)
           have n1_ := Aside0.mk (blk_below (g := gb714) (o := .cells #[.int .i64 x715000_2, .int .i64 x715001_2, .int .i64 x715002_2] 99 (0, 0)) (by (with_reducible repeat (first | refine blk_drewN ?_ _ | refine blk_drew ?_ | refine blk_alloc ?_ _)); exact BK714.out) hb)
           have n2_ := Aside0.mk (blk_below (g := gb721) (o := .cells #[.int .i64 0, .int .i64 0, .int .i64 0] 99 (0, 0)) (by (with_reducible repeat (first | refine blk_drewN ?_ _ | refine blk_drew ?_ | refine blk_alloc ?_ _)); exact BK721.out) hb)
           have n3_ := Aside0.mk (below_step (by repeat (first | (with_reducible first | exact HB.out | apply below_alloc | apply pw_below_drewN | apply below_drew1 | refine below_set ?_ GE713.out | refine below_set ?_ GE714.out | refine below_set ?_ GE721.out) | exact HB.out)) hb)
           clear BK713
           clear BK714
           clear BK721
           clear HB
           have BK713 := n0_
           have BK714 := n1_
           have BK721 := n2_
           have HB := n3_
           clear n0_ n1_ n2_ n3_
           (try clear hb)
           (try clear hb2)
           (try clear hk)
           (try clear hi)
           refine hK.out _ _ ⟨(blk_cell BK713.out 0).trans rfl, (blk_cell BK713.out 1).trans rfl, (blk_cell BK713.out 2).trans rfl, ((HB.out.cell (World.block_lt_of_cell? w _ hw716_0)).trans hw716_0)⟩ (fun hHeld => ?_)
           clear hK K
           refine norm_ (a' := ?_) ?_ ?_
           rotate_left
           ·show Act.put _ (some 30) _ = _
            simp only [Act.put, List.setIfInBounds_toArray, List.set_cons_zero, List.set_cons_succ, i64_w, i32_w]
            rfl
           refine pure_ (i := 6) (N := some 24) (v := ?_) (a' := ?_) spec_Beats.v13 rfl rfl (any_of HT_.out (by kernel_rfl)) (fun _ _ _ h => h) (Or.inl ⟨by rfl, ?_⟩) ?_ ?_
           rotate_left
           ·intro w'
            go_simp
            with_reducible rfl
           rotate_left
           ·simp only [Act.put, List.setIfInBounds_toArray, List.set_cons_zero, List.set_cons_succ, i64_w, i32_w]
            rfl
           refine pure_ (i := 7) (N := some 31) (v := ?_) (a' := ?_) spec_Beats.v14 rfl rfl (any_of HT_.out (by kernel_rfl)) (fun _ _ _ h => h) (Or.inl ⟨by rfl, ?_⟩) ?_ ?_
           rotate_left
           ·intro w'
            go_simp
            with_reducible rfl
           rotate_left
           ·simp only [Act.put, List.setIfInBounds_toArray, List.set_cons_zero, List.set_cons_succ, i64_w, i32_w]
            rfl
           refine pure_ (i := 8) (N := some 32) (v := ?_) (a' := ?_) spec_Beats.v6 rfl rfl (any_of HT_.out (by kernel_rfl)) (fun _ _ _ h => h) (Or.inl ⟨by rfl, ?_⟩) ?_ ?_
           rotate_left
           ·intro w'
            go_simp
            with_reducible rfl
           rotate_left
           ·simp only [Act.put, List.setIfInBounds_toArray, List.set_cons_zero, List.set_cons_succ, i64_w, i32_w]
            rfl
           exact norm_ (by simp only [putAll, Act.put, List.setIfInBounds_toArray, List.set_cons_zero, List.set_cons_succ]) (hCont (gb721) _ ⟨hHeld, (by (with_reducible repeat (first | refine blk_drewN ?_ _ | refine blk_drew ?_ | refine blk_alloc ?_ _)); exact BK713.out), (by (with_reducible repeat (first | refine blk_drewN ?_ _ | refine blk_drew ?_ | refine blk_alloc ?_ _)); exact BK714.out), (by (with_reducible repeat (first | refine blk_drewN ?_ _ | refine blk_drew ?_ | refine blk_alloc ?_ _)); exact BK721.out), GW721.out, GE721.out, NB713_721.out, NB721_713.out, NB714_721.out, NB721_714.out, (by repeat (first | (with_reducible first | exact HB.out | apply below_alloc | apply pw_below_drewN | apply below_drew1 | refine below_set ?_ GE713.out | refine below_set ?_ GE714.out | refine below_set ?_ GE721.out) | exact HB.out))⟩)
         rintro gb721 w36 ⟨hS_, h0_, h1_, h2_, h3_, h4_, h5_, h6_, h7_, h8_, h9_⟩
         have n0_ : Aside0 (w36.heap[gb713]? = some (.cells #[.int .i64 x714000_2, .int .i64 x714001_2, .int .i64 x714002_2] 99 (0, 0))) := ⟨h0_⟩
         have n1_ : Aside0 (w36.heap[gb714]? = some (.cells #[.int .i64 x715000_2, .int .i64 x715001_2, .int .i64 x715002_2] 99 (0, 0))) := ⟨h1_⟩
         have n2_ : Aside0 (w36.heap[gb721]? = some (.cells #[.int .i64 0, .int .i64 0, .int .i64 0] 99 (0, 0))) := ⟨h2_⟩
         have n3_ : Aside0 (w.heap.size ≤ gb721) := ⟨h3_⟩
         have n4_ : Aside0 (w.heap.size ≤ gb721) := ⟨h4_⟩
         have n5_ : Aside0 (gb713 ≠ gb721) := ⟨h5_⟩
         have n6_ : Aside0 (gb721 ≠ gb713) := ⟨h6_⟩
         have n7_ : Aside0 (gb714 ≠ gb721) := ⟨h7_⟩
         have n8_ : Aside0 (gb721 ≠ gb714) := ⟨h8_⟩
         have n9_ : Aside0 (Below w.heap.size w w36) := ⟨h9_⟩
         clear BK713
         clear BK714
         clear HB
         clear h0_ h1_ h2_ h3_ h4_ h5_ h6_ h7_ h8_ h9_
         have BK713 := n0_
         have BK714 := n1_
         have BK721 := n2_
         have GW721 := n3_
         have GE721 := n4_
         have NB713_721 := n5_
         have NB721_713 := n6_
         have NB714_721 := n7_
         have NB721_714 := n8_
         have HB := n9_
         clear n0_ n1_ n2_ n3_ n4_ n5_ n6_ n7_ n8_ n9_
         have hHeld : w36.cell? ⟨gb713, 0, none⟩ = some (.int .i64 x714000_2) ∧ w36.cell? ⟨gb713, 1, none⟩ = some (.int .i64 x714001_2) ∧ w36.cell? ⟨gb713, 2, none⟩ = some (.int .i64 x714002_2) ∧ w36.cell? (ad716.add (x6_2).toNat) = some (.int .i64 (rd l1 x6_2)) := hS_
         refine norm_ (a' := ?_) ?_ ?_
         rotate_left
         ·simp only [putAll, Act.put, List.setIfInBounds_toArray, List.set_cons_zero, List.set_cons_succ]
          rfl
         refine one_ (i := 10) (N := none) spec_Beats.v15 rfl rfl (one_of HT_.out (by kernel_rfl)) (by decide) (fun K hK => ?_)
         have hs37 : w36.cell? ⟨gb721, 0, none⟩ = some (.int .i64 0) := (blk_cell BK721.out 0).trans rfl
         have hfs37 := blk_frozen BK721.out 0
         have hns37_0 := NB713_721.out
         have hns37_1 := NB714_721.out
         have hms37_0 := NB721_713.out
         have hms37_1 := NB721_714.out
         have hs38 : w36.cell? ⟨gb721, 1, none⟩ = some (.int .i64 0) := (blk_cell BK721.out 1).trans rfl
         have hfs38 := blk_frozen BK721.out 1
         have hns38_0 := NB713_721.out
         have hns38_1 := NB714_721.out
         have hms38_0 := NB721_713.out
         have hms38_1 := NB721_714.out
         have hs39 : w36.cell? ⟨gb721, 2, none⟩ = some (.int .i64 0) := (blk_cell BK721.out 2).trans rfl
         have hfs39 := blk_frozen BK721.out 2
         have hns39_0 := NB713_721.out
         have hns39_1 := NB714_721.out
         have hms39_0 := NB721_713.out
         have hms39_1 := NB721_714.out
         refine skip_ (w1 := ?_) (by rfl) rfl ?_ ?_
         rotate_left
         ·go_simp
          rfl
         refine hK.out _ _ ⟨((cell_far (p := ⟨gb721, _, none⟩) NB713_721.out _).trans (((cell_far (p := ⟨gb721, _, none⟩) NB713_721.out _).trans (((cell_far (p := ⟨gb721, _, none⟩) NB713_721.out _).trans (hHeld.1)))))), ((cell_far (p := ⟨gb721, _, none⟩) NB713_721.out _).trans (((cell_far (p := ⟨gb721, _, none⟩) NB713_721.out _).trans (((cell_far (p := ⟨gb721, _, none⟩) NB713_721.out _).trans (hHeld.2.1)))))), ((cell_far (p := ⟨gb721, _, none⟩) NB713_721.out _).trans (((cell_far (p := ⟨gb721, _, none⟩) NB713_721.out _).trans (((cell_far (p := ⟨gb721, _, none⟩) NB713_721.out _).trans (hHeld.2.2.1)))))), ((cell_far (p := ⟨gb721, _, none⟩) (by first | exact Nat.ne_of_lt (Nat.lt_of_lt_of_le (by have := World.block_lt_of_cell? _ _ hw716_0; first | rwa [add_block] at this | exact this) GW721.out) | (rw [add_block]; exact Nat.ne_of_lt (Nat.lt_of_lt_of_le (by have := World.block_lt_of_cell? _ _ hw716_0; first | rwa [add_block] at this | exact this) GW721.out)) | (show (Addr.add _ _).block ≠ _; rw [add_block]; exact Nat.ne_of_lt (Nat.lt_of_lt_of_le (by have := World.block_lt_of_cell? _ _ hw716_0; first | rwa [add_block] at this | exact this) GW721.out)) | (dsimp only; exact Nat.ne_of_lt (Nat.lt_of_lt_of_le (by have := World.block_lt_of_cell? _ _ hw716_0; first | rwa [add_block] at this | exact this) GW721.out))) _).trans (((cell_far (p := ⟨gb721, _, none⟩) (by first | exact Nat.ne_of_lt (Nat.lt_of_lt_of_le (by have := World.block_lt_of_cell? _ _ hw716_0; first | rwa [add_block] at this | exact this) GW721.out) | (rw [add_block]; exact Nat.ne_of_lt (Nat.lt_of_lt_of_le (by have := World.block_lt_of_cell? _ _ hw716_0; first | rwa [add_block] at this | exact this) GW721.out)) | (show (Addr.add _ _).block ≠ _; rw [add_block]; exact Nat.ne_of_lt (Nat.lt_of_lt_of_le (by have := World.block_lt_of_cell? _ _ hw716_0; first | rwa [add_block] at this | exact this) GW721.out)) | (dsimp only; exact Nat.ne_of_lt (Nat.lt_of_lt_of_le (by have := World.block_lt_of_cell? _ _ hw716_0; first | rwa [add_block] at this | exact this) GW721.out))) _).trans (((cell_far (p := ⟨gb721, _, none⟩) (by first | exact Nat.ne_of_lt (Nat.lt_of_lt_of_le (by have := World.block_lt_of_cell? _ _ hw716_0; first | rwa [add_block] at this | exact this) GW721.out) | (rw [add_block]; exact Nat.ne_of_lt (Nat.lt_of_lt_of_le (by have := World.block_lt_of_cell? _ _ hw716_0; first | rwa [add_block] at this | exact this) GW721.out)) | (show (Addr.add _ _).block ≠ _; rw [add_block]; exact Nat.ne_of_lt (Nat.lt_of_lt_of_le (by have := World.block_lt_of_cell? _ _ hw716_0; first | rwa [add_block] at this | exact this) GW721.out)) | (dsimp only; exact Nat.ne_of_lt (Nat.lt_of_lt_of_le (by have := World.block_lt_of_cell? _ _ hw716_0; first | rwa [add_block] at this | exact this) GW721.out))) _).trans (hHeld.2.2.2))))))⟩ (fun hHeld => ?_)
         clear hK K
         refine pure_ (i := 11) (N := some 8) (v := ?_) (a' := ?_) spec_Beats.v16 rfl rfl (any_of HT_.out (by kernel_rfl)) (fun _ _ _ h => h) (Or.inl ⟨by rfl, ?_⟩) ?_ ?_
         rotate_left
         ·intro w'
          go_simp
          with_reducible rfl
         rotate_left
         ·simp only [Act.put, List.setIfInBounds_toArray, List.set_cons_zero, List.set_cons_succ, i64_w, i32_w]
          rfl
         refine done_ (done_of HT_.out (by kernel_rfl)) ?_
         have hnb40 := NB714_713.out
         have hnc40 := NB713_714.out
         have hnb41 := NB714_721.out
         have hnc41 := NB721_714.out
         have hcz42_0 : w36.cell? ⟨gb714, 0, none⟩ = some (.int .i64 x715000_2) := (blk_cell BK714.out 0).trans rfl
         have hcz42_1 : w36.cell? ⟨gb714, 1, none⟩ = some (.int .i64 x715001_2) := (blk_cell BK714.out 1).trans rfl
         have hcz42_2 : w36.cell? ⟨gb714, 2, none⟩ = some (.int .i64 x715002_2) := (blk_cell BK714.out 2).trans rfl
         have hfz42_0 := blk_frozen BK714.out 0
         have hfz42_1 := blk_frozen BK714.out 1
         have hfz42_2 := blk_frozen BK714.out 2
         try go_wp2
         refine bodyPost_ret (results_ct rfl _ _ gb714 99 #[.int .i64 0, .int .i64 0, .int .i64 0] (0, 0) _ rfl (by (with_reducible repeat (first | refine blk_drewN ?_ _ | refine blk_drew ?_ | refine blk_alloc ?_ _)); refine blk_put (cs := #[.int .i64 0, .int .i64 0, .int .i64 x715002_2]) ?_ 2 _ rfl; (with_reducible repeat (first | refine blk_drewN ?_ _ | refine blk_drew ?_ | refine blk_alloc ?_ _)); refine blk_put (cs := #[.int .i64 0, .int .i64 x715001_2, .int .i64 x715002_2]) ?_ 1 _ rfl; (with_reducible repeat (first | refine blk_drewN ?_ _ | refine blk_drew ?_ | refine blk_alloc ?_ _)); refine blk_put (cs := #[.int .i64 x715000_2, .int .i64 x715001_2, .int .i64 x715002_2]) ?_ 0 _ rfl; (with_reducible repeat (first | refine blk_drewN ?_ _ | refine blk_drew ?_ | refine blk_alloc ?_ _)); refine blk_far ?_ NB714_721.out _; (with_reducible repeat (first | refine blk_drewN ?_ _ | refine blk_drew ?_ | refine blk_alloc ?_ _)); refine blk_far ?_ NB714_721.out _; (with_reducible repeat (first | refine blk_drewN ?_ _ | refine blk_drew ?_ | refine blk_alloc ?_ _)); refine blk_far ?_ NB714_721.out _; (with_reducible repeat (first | refine blk_drewN ?_ _ | refine blk_drew ?_ | refine blk_alloc ?_ _)); exact BK714.out) Try.underlying99 rfl (by kernel_rfl)) rfl ?_
         exact ⟨by first | rfl | (simp [errW_none, errW_some] <;> rfl) | (simp [*, errW_none, errW_some] <;> rfl), by repeat (first | (with_reducible first | exact HB.out | apply below_alloc | apply pw_below_drewN | apply below_drew1 | refine below_set ?_ GE713.out | refine below_set ?_ GE714.out | refine below_set ?_ GE721.out) | exact HB.out)⟩
       ·rw [if_neg c18] at H
        exact absurd H (by simp)
      ·rw [if_neg c17] at H
       have c17b0 : decide (x6_2 < (l1.length : Int)) = false := decide_eq_false c17
       clear c17
       simp only [Option.some.injEq, Prod.mk.injEq] at H
       obtain ⟨rfl, rfl, rfl, rfl⟩ := H
       have hnb43 := NB713_714.out
       have hnc43 := NB714_713.out
       have hcz44_0 : wr.cell? ⟨gb713, 0, none⟩ = some (.int .i64 x714000_2) := (blk_cell BK713.out 0).trans rfl
       have hcz44_1 : wr.cell? ⟨gb713, 1, none⟩ = some (.int .i64 x714001_2) := (blk_cell BK713.out 1).trans rfl
       have hcz44_2 : wr.cell? ⟨gb713, 2, none⟩ = some (.int .i64 x714002_2) := (blk_cell BK713.out 2).trans rfl
       have hfz44_0 := blk_frozen BK713.out 0
       have hfz44_1 := blk_frozen BK713.out 1
       have hfz44_2 := blk_frozen BK713.out 2
       have hcz45_0 : wr.cell? ⟨gb714, 0, none⟩ = some (.int .i64 x715000_2) := (blk_cell BK714.out 0).trans rfl
       have hcz45_1 : wr.cell? ⟨gb714, 1, none⟩ = some (.int .i64 x715001_2) := (blk_cell BK714.out 1).trans rfl
       have hcz45_2 : wr.cell? ⟨gb714, 2, none⟩ = some (.int .i64 x715002_2) := (blk_cell BK714.out 2).trans rfl
       have hfz45_0 := blk_frozen BK714.out 0
       have hfz45_1 := blk_frozen BK714.out 1
       have hfz45_2 := blk_frozen BK714.out 2
       go_wp2
       refine bodyPost_ret (results_ct rfl _ _ gb714 99 #[.int .i64 x714000_2, .int .i64 x714001_2, .int .i64 x714002_2] (0, 0) _ rfl (by (with_reducible repeat (first | refine blk_drewN ?_ _ | refine blk_drew ?_ | refine blk_alloc ?_ _)); refine blk_put (cs := #[.int .i64 x714000_2, .int .i64 x714001_2, .int .i64 x715002_2]) ?_ 2 _ rfl; (with_reducible repeat (first | refine blk_drewN ?_ _ | refine blk_drew ?_ | refine blk_alloc ?_ _)); refine blk_put (cs := #[.int .i64 x714000_2, .int .i64 x715001_2, .int .i64 x715002_2]) ?_ 1 _ rfl; (with_reducible repeat (first | refine blk_drewN ?_ _ | refine blk_drew ?_ | refine blk_alloc ?_ _)); refine blk_put (cs := #[.int .i64 x715000_2, .int .i64 x715001_2, .int .i64 x715002_2]) ?_ 0 _ rfl; (with_reducible repeat (first | refine blk_drewN ?_ _ | refine blk_drew ?_ | refine blk_alloc ?_ _)); exact BK714.out) Try.underlying99 rfl (by kernel_rfl)) rfl ?_
       exact ⟨by first | rfl | (simp [errW_none, errW_some] <;> rfl) | (simp [*, errW_none, errW_some] <;> rfl), by repeat (first | (with_reducible first | exact HB.out | apply below_alloc | apply pw_below_drewN | apply below_drew1 | refine below_set ?_ GE713.out | refine below_set ?_ GE714.out) | exact HB.out)⟩

end Go.Proofs.Ytlmohamgfindmaa.PA
