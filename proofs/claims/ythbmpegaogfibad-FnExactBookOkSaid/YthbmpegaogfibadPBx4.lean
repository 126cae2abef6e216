/- What Go's functions that the laws reach come to: laid by a program of this session over the print's words. -/
import Derived.Test.YthbmpegaogfibadPBx0
import Derived.Test.YthbmpegaogfibadPBx2
import Derived.Test.YthbmpegaogfibadPBx3
import Derived.Test.YthbmpegaogfibadSteps
namespace Go.Proofs.Ythbmpegaogfibad.PB
open Go.RowKit Go.Proofs.YthbmpegaogfibadW.PrintWords Go.Proofs.YthbmpegaogfibadW.PrintLast Go.Proofs.YthbmpegaogfibadW.PrintMore Go.Proofs.Ythbmpegaogfibad
attribute [local go_sem] max2_int min2_int max_two min_two max_three min_three max_four min_four   -- for this text's walks alone
set_option linter.unusedVariables false
set_option linter.unusedSimpArgs false

set_option maxHeartbeats 8000000 in
set_option maxRecDepth 100000 in
theorem spec_BookOk.calls (k : Nat) (A0_0 : Option Addr) (c0_0 : Nat) (l0_0 : List (S38)) (A0_1 : Option Addr) (c0_1 : Nat) (l0_1 : List Int) (r : Bool) (w : World) (hr0_0 : Kd.C k38 w A0_0 l0_0.length l0_0) (hc0_0 : l0_0.length ≤ c0_0) (hr0_1 : Kd.C (Kd.int .i64) w A0_1 l0_1.length l0_1) (hc0_1 : l0_1.length ≤ c0_1) (h : spec_BookOk.f k l0_0 l0_1 = some r) :
 Calls Try.prog 5 #[.agg #[.slice A0_0 l0_0.length c0_0, .slice A0_1 l0_1.length c0_1]] w fun e w' => e = .returned (.bool r) ∧ Below w.heap.size w w' := by
 have hu30 := Try.underlying30
 have hu38 := Try.underlying38
 have HR0_0 := Aside0.mk hr0_0
 have HC0_0 := Aside0.mk hc0_0
 clear hr0_0 hc0_0
 have HR0_1 := Aside0.mk hr0_1
 have HC0_1 := Aside0.mk hc0_1
 clear hr0_1 hc0_1
 have HB := Aside0.mk (Below.refl w.heap.size w)
 have H : (spec_BookOk.l0 k 0 l0_0 l0_1) = some r := h
 clear h
 have H' := Aside0.mk H
 clear H
 go_enter Try.func5, Try.ntmps5
 go_wp2_with (first | ((with_reducible refine gate_dst (N := 1) rfl ?_); (try (refine gate_guard (by rfl) ?_; dsimp only)); refine box_event ?hg (N := 1) ?hd (cs := #[.slice A0_0 l0_0.length c0_0, .slice A0_1 l0_1.length c0_1]) (t := 30) ?hr ?_; (case hd => rfl); (case hg => rfl); (case hr => first | (go_simp; done) | (go_simp; rfl)); intro gb115 hg w2 hbox hb; have n0_ := Aside0.mk (below_step (by repeat (first | (with_reducible first | exact HB.out | apply below_alloc | apply pw_below_drewN | apply below_drew1) | exact HB.out)) hb); have n1_ := Aside0.mk (hbox); have n2_ := Aside0.mk ((by rw [hg]; exact (below_size (by repeat (first | (with_reducible first | exact HB.out | apply below_alloc | apply pw_below_drewN | apply below_drew1) | exact HB.out))) : w.heap.size ≤ gb115)); have n3_ := Aside0.mk ((by rw [hg]; exact (below_size (by repeat (first | (with_reducible first | exact HB.out | apply below_alloc | apply pw_below_drewN | apply below_drew1) | exact HB.out))) : w.heap.size ≤ gb115)); clear HB; have HB := n0_; have BK115 := n1_; have GW115 := n2_; have GE115 := n3_; clear n0_ n1_ n2_ n3_; clear hb hbox hg))
 go_loopg [3] k (fun kq v3 w' => ∃ (x3_1 : Int), v3 = .int .i64 x3_1 ∧ Aside0 (spec_BookOk.l0 kq x3_1 l0_0 l0_1 = some r) ∧ Aside0 (kq ≤ k) ∧ Aside0 (w'.heap[gb115]? = some (.cells #[(.slice A0_0 l0_0.length c0_0), (.slice A0_1 l0_1.length c0_1)] 30 (0, 0))) ∧ Aside0 (Below w.heap.size w w'))
 case atStart => exact ⟨(0), (by first | rfl | (simp; done) | (simp [*]; done)), H', ⟨Nat.le_refl _⟩, ⟨by (with_reducible repeat (first | refine blk_drewN ?_ _ | refine blk_drew ?_ | refine blk_alloc ?_ _)); exact BK115.out⟩, ⟨by repeat (first | (with_reducible first | exact HB.out | apply below_alloc | apply pw_below_drewN | apply below_drew1 | refine below_set ?_ GE115.out) | exact HB.out)⟩⟩
 case round =>
  clear H'
  try clear p2
  obtain ⟨x3_1, rfl, HA, HK1, BK115, HB⟩ := hrel
  cases gk with
  | zero => exact absurd HA.out (by simp [spec_BookOk.l0])
  | succ k1 =>
   have H := HA.out
   clear HA
   simp only [spec_BookOk.l0] at H
   by_cases c3 : x3_1 < (l0_0.length : Int)
   ·rw [if_pos c3] at H
    have c3b0 : decide (x3_1 < (l0_0.length : Int)) = true := decide_eq_true c3
    clear c3
    by_cases c4 : 0 ≤ x3_1
    ·rw [if_pos c4] at H
     have c4b0 : decide (0 ≤ x3_1) = true := decide_eq_true c4
     clear c4
     have HC5 := Aside0.mk H
     clear H
     have hcz6_0 : wr.cell? ⟨gb115, 0, none⟩ = some (.slice A0_0 l0_0.length c0_0) := (blk_cell BK115.out 0).trans rfl
     have hcz6_1 : wr.cell? ⟨gb115, 1, none⟩ = some (.slice A0_1 l0_1.length c0_1) := (blk_cell BK115.out 1).trans rfl
     have hfz6_0 := blk_frozen BK115.out 0
     have hfz6_1 := blk_frozen BK115.out 1
     have p116 : 0 ≤ (x3_1 : Int) := of_decide_eq_true (by first | (with_reducible assumption) | assumption)
     have q116 : x3_1 < (l0_0.length : Int) := of_decide_eq_true (by first | (with_reducible assumption) | assumption)
     obtain ⟨ad116, A116_4, c116_4, e116, hx116_0, hx116_1, hx116_2, hx116_3, hx116_4, hl116_4, hi116_4⟩ := at_T38 HR0_0.out x3_1 p116 q116
     cases e116
     replace hx116_0 := (HB.out.cell (World.block_lt_of_cell? w _ hx116_0)).trans hx116_0
     replace hx116_1 := (HB.out.cell (World.block_lt_of_cell? w _ hx116_1)).trans hx116_1
     replace hx116_2 := (HB.out.cell (World.block_lt_of_cell? w _ hx116_2)).trans hx116_2
     replace hx116_3 := (HB.out.cell (World.block_lt_of_cell? w _ hx116_3)).trans hx116_3
     replace hx116_4 := (HB.out.cell (World.block_lt_of_cell? w _ hx116_4)).trans hx116_4
     have HR116_4 := Aside0.mk hi116_4
     have HC116_4 := Aside0.mk hl116_4
     clear hi116_4 hl116_4
     replace p116 := eq_true p116
     replace q116 := eq_true q116
     go_upto_region 5 with (first | ((with_reducible refine gate_dst (N := 4) rfl ?_); (try (refine gate_guard (by rfl) ?_; dsimp only)); refine box_event ?hg (N := 4) ?hd (cs := #[.int .i64 0, .string (⟨#[]⟩ : ByteArray), .string (⟨#[]⟩ : ByteArray), .int .i64 0, .slice none 0 0]) (t := 38) ?hr ?_; (case hd => rfl); (case hg => rfl); (case hr => first | (go_simp; done) | (go_simp; rfl)); intro gb117 hg w7 hbox hb; have n0_ := Aside0.mk (blk_below (g := gb115) (o := .cells #[.slice (some ad116) l0_0.length c0_0, .slice A0_1 l0_1.length c0_1] 30 (0, 0)) (by (with_reducible repeat (first | refine blk_drewN ?_ _ | refine blk_drew ?_ | refine blk_alloc ?_ _)); exact BK115.out) hb); have n1_ := Aside0.mk (below_step (by repeat (first | (with_reducible first | exact HB.out | apply below_alloc | apply pw_below_drewN | apply below_drew1 | refine below_set ?_ GE115.out) | exact HB.out)) hb); have n2_ := Aside0.mk (hbox); have n3_ := Aside0.mk ((by rw [hg]; exact (below_size (by repeat (first | (with_reducible first | exact HB.out | apply below_alloc | apply pw_below_drewN | apply below_drew1 | refine below_set ?_ GE115.out) | exact HB.out))) : w.heap.size ≤ gb117)); have n4_ := Aside0.mk ((by rw [hg]; exact (below_size (by repeat (first | (with_reducible first | exact HB.out | apply below_alloc | apply pw_below_drewN | apply below_drew1 | refine below_set ?_ GE115.out) | exact HB.out))) : w.heap.size ≤ gb117)); have n5_ := Aside0.mk ((by rw [hg]; exact Nat.ne_of_lt (blk_lt (g := gb115) (o := .cells #[.slice (some ad116) l0_0.length c0_0, .slice A0_1 l0_1.length c0_1] 30 (0, 0)) (by (with_reducible repeat (first | refine blk_drewN ?_ _ | refine blk_drew ?_ | refine blk_alloc ?_ _)); exact BK115.out)) : gb115 ≠ gb117)); have n6_ := Aside0.mk ((by rw [hg]; exact Nat.ne_of_gt (blk_lt (g := gb115) (o := .cells #[.slice (some ad116) l0_0.length c0_0, .slice A0_1 l0_1.length c0_1] 30 (0, 0)) (by (with_reducible repeat (first | refine blk_drewN ?_ _ | refine blk_drew ?_ | refine blk_alloc ?_ _)); exact BK115.out)) : gb117 ≠ gb115)); clear BK115; clear HB; have BK115 := n0_; have HB := n1_; have BK117 := n2_; have GW117 := n3_; have GE117 := n4_; have NB115_117 := n5_; have NB117_115 := n6_; clear n0_ n1_ n2_ n3_ n4_ n5_ n6_; clear hb hbox hg; have hnb8 := NB117_115.out; have hnc8 := NB115_117.out; have hcz9_0 : w7.cell? ⟨gb117, 0, none⟩ = some (.int .i64 0) := (blk_cell BK117.out 0).trans rfl; have hcz9_1 : w7.cell? ⟨gb117, 1, none⟩ = some (.string (⟨#[]⟩ : ByteArray)) := (blk_cell BK117.out 1).trans rfl; have hcz9_2 : w7.cell? ⟨gb117, 2, none⟩ = some (.string (⟨#[]⟩ : ByteArray)) := (blk_cell BK117.out 2).trans rfl; have hcz9_3 : w7.cell? ⟨gb117, 3, none⟩ = some (.int .i64 0) := (blk_cell BK117.out 3).trans rfl; have hcz9_4 : w7.cell? ⟨gb117, 4, none⟩ = some (.slice none 0 0) := (blk_cell BK117.out 4).trans rfl; have hfz9_0 := blk_frozen BK117.out 0; have hfz9_1 := blk_frozen BK117.out 1; have hfz9_2 := blk_frozen BK117.out 2; have hfz9_3 := blk_frozen BK117.out 3; have hfz9_4 := blk_frozen BK117.out 4))
     (try simp only [Act.put, List.setIfInBounds_toArray, List.set_cons_zero, List.set_cons_succ])
     go_cut [69] (fun v69 wc => ∃ (kq : Nat) (x69_4 : Bool), v69 = .bool x69_4 ∧ Aside0 (spec_BookOk.j1 kq x3_1 x69_4 l0_0 l0_1 ((rd_T38 l0_0 x3_1).f0) ((rd_T38 l0_0 x3_1).f1) ((rd_T38 l0_0 x3_1).f2) ((rd_T38 l0_0 x3_1).f3) ((rd_T38 l0_0 x3_1).f4) = some r) ∧ Aside0 (kq ≤ k1) ∧ Aside0 (wc.heap[gb115]? = some (.cells #[(.slice (some ad116) l0_0.length c0_0), (.slice A0_1 l0_1.length c0_1)] 30 (0, 0))) ∧ Aside0 (wc.heap[gb117]? = some (.cells #[.int .i64 ((rd_T38 l0_0 x3_1).f0), .string ((rd_T38 l0_0 x3_1).f1), .string ((rd_T38 l0_0 x3_1).f2), .int .i64 ((rd_T38 l0_0 x3_1).f3), (.slice A116_4 ((rd_T38 l0_0 x3_1).f4).length c116_4)] 38 (0, 0))) ∧ Aside0 (Below w.heap.size w wc))
     case first =>
      have H := HC5.out
      clear HC5
      replace H := Option.bind_eq_some_iff.mp H
      obtain ⟨t118, A100, H⟩ := H
      (try dsimp only at H)
      have A10 := Aside0.mk A100
      clear A100
      by_cases c11 : t118 = true
      ·subst c11
       rw [if_pos rfl] at H
       by_cases c12 : x3_1 > 0
       ·rw [if_pos c12] at H
        have c12b0 : decide (0 < x3_1) = true := decide_eq_true c12
        clear c12
        (first | rw [c12b0] | (simp only [i64_w, i32_w]; rw [c12b0]) | skip)
        obtain ⟨ji13, hji13⟩ : ∃ j_ : Int, (wrap64 (x3_1 - 1)) = j_ := ⟨_, rfl⟩
        replace H : (if 0 ≤ (ji13) then (if (ji13) < (l0_0.length : Int) then (if ((rd_T38 l0_0 (ji13)).f0) ≥ ((rd_T38 l0_0 x3_1).f0) then (spec_BookOk.j1 k1 x3_1 true l0_0 l0_1 ((rd_T38 l0_0 x3_1).f0) ((rd_T38 l0_0 x3_1).f1) ((rd_T38 l0_0 x3_1).f2) ((rd_T38 l0_0 x3_1).f3) ((rd_T38 l0_0 x3_1).f4)) else ((spec_l1Name.f k1 ((rd_T38 l0_0 x3_1).f1)).bind fun t120 => (if t120 = true then (if ((rd_T38 l0_0 x3_1).f2).toList = ([] : List UInt8) then ((spec_l1In.f ((rd_T38 l0_0 x3_1).f3) 1 5).bind fun t121 => (if t121 = true then (spec_BookOk.j1 k1 x3_1 ((((rd_T38 l0_0 x3_1).f4).length : Int) != ((rd_T38 l0_0 x3_1).f3)) l0_0 l0_1 ((rd_T38 l0_0 x3_1).f0) ((rd_T38 l0_0 x3_1).f1) ((rd_T38 l0_0 x3_1).f2) ((rd_T38 l0_0 x3_1).f3) ((rd_T38 l0_0 x3_1).f4)) else (spec_BookOk.j1 k1 x3_1 true l0_0 l0_1 ((rd_T38 l0_0 x3_1).f0) ((rd_T38 l0_0 x3_1).f1) ((rd_T38 l0_0 x3_1).f2) ((rd_T38 l0_0 x3_1).f3) ((rd_T38 l0_0 x3_1).f4)))) else ((spec_l1Name.f k1 ((rd_T38 l0_0 x3_1).f2)).bind fun t122 => (if t122 = true then ((spec_l1In.f ((rd_T38 l0_0 x3_1).f3) 1 5).bind fun t123 => (if t123 = true then (spec_BookOk.j1 k1 x3_1 ((((rd_T38 l0_0 x3_1).f4).length : Int) != ((rd_T38 l0_0 x3_1).f3)) l0_0 l0_1 ((rd_T38 l0_0 x3_1).f0) ((rd_T38 l0_0 x3_1).f1) ((rd_T38 l0_0 x3_1).f2) ((rd_T38 l0_0 x3_1).f3) ((rd_T38 l0_0 x3_1).f4)) else (spec_BookOk.j1 k1 x3_1 true l0_0 l0_1 ((rd_T38 l0_0 x3_1).f0) ((rd_T38 l0_0 x3_1).f1) ((rd_T38 l0_0 x3_1).f2) ((rd_T38 l0_0 x3_1).f3) ((rd_T38 l0_0 x3_1).f4)))) else (spec_BookOk.j1 k1 x3_1 true l0_0 l0_1 ((rd_T38 l0_0 x3_1).f0) ((rd_T38 l0_0 x3_1).f1) ((rd_T38 l0_0 x3_1).f2) ((rd_T38 l0_0 x3_1).f3) ((rd_T38 l0_0 x3_1).f4))))) else (spec_BookOk.j1 k1 x3_1 true l0_0 l0_1 ((rd_T38 l0_0 x3_1).f0) ((rd_T38 l0_0 x3_1).f1) ((rd_T38 l0_0 x3_1).f2) ((rd_T38 l0_0 x3_1).f3) ((rd_T38 l0_0 x3_1).f4))))) else (none)) else (none)) = some r := by first | (rw [hji13] at H; exact H) | (simp only [hji13] at H ⊢; exact H)
        (try rw [hji13] at A10)
        have hji13w : (IntKind.i64.wrap (x3_1 - 1)) = ji13 := (i64_w _).trans hji13
        by_cases c14 : 0 ≤ (ji13)
        ·rw [if_pos c14] at H
         have c14b0 : decide (0 ≤ (ji13)) = true := decide_eq_true c14
         clear c14
         by_cases c15 : (ji13) < (l0_0.length : Int)
         ·rw [if_pos c15] at H
          have c15b0 : decide ((ji13) < (l0_0.length : Int)) = true := decide_eq_true c15
          clear c15
          by_cases c16 : ((rd_T38 l0_0 (ji13)).f0) ≥ ((rd_T38 l0_0 x3_1).f0)
          ·rw [if_pos c16] at H
           have c16b0 : decide (((rd_T38 l0_0 x3_1).f0) ≤ ((rd_T38 l0_0 (ji13)).f0)) = true := decide_eq_true c16
           clear c16
           have H' := Aside0.mk H
           clear H
           try go_wp2
           have n0_ : Aside0 ((((((w7.setCell ⟨gb117, 0, none⟩ (.int .i64 ((rd_T38 l0_0 x3_1).f0))).setCell ⟨gb117, 1, none⟩ (.string ((rd_T38 l0_0 x3_1).f1))).setCell ⟨gb117, 2, none⟩ (.string ((rd_T38 l0_0 x3_1).f2))).setCell ⟨gb117, 3, none⟩ (.int .i64 ((rd_T38 l0_0 x3_1).f3))).setCell ⟨gb117, 4, none⟩ (.slice A116_4 ((rd_T38 l0_0 x3_1).f4).length c116_4)).heap[gb115]? = some (.cells #[.slice (some ad116) l0_0.length c0_0, .slice A0_1 l0_1.length c0_1] 30 (0, 0))) := ⟨by (with_reducible repeat (first | refine blk_drewN ?_ _ | refine blk_drew ?_ | refine blk_alloc ?_ _)); refine blk_far ?_ NB115_117.out _; (with_reducible repeat (first | refine blk_drewN ?_ _ | refine blk_drew ?_ | refine blk_alloc ?_ _)); refine blk_far ?_ NB115_117.out _; (with_reducible repeat (first | refine blk_drewN ?_ _ | refine blk_drew ?_ | refine blk_alloc ?_ _)); refine blk_far ?_ NB115_117.out _; (with_reducible repeat (first | refine blk_drewN ?_ _ | refine blk_drew ?_ | refine blk_alloc ?_ _)); refine blk_far ?_ NB115_117.out _; (with_reducible repeat (first | refine blk_drewN ?_ _ | refine blk_drew ?_ | refine blk_alloc ?_ _)); refine blk_far ?_ NB115_117.out _; (with_reducible repeat (first | refine blk_drewN ?_ _ | refine blk_drew ?_ | refine blk_alloc ?_ _)); exact BK115.out⟩
           have n1_ : Aside0 ((((((w7.setCell ⟨gb117, 0, none⟩ (.int .i64 ((rd_T38 l0_0 x3_1).f0))).setCell ⟨gb117, 1, none⟩ (.string ((rd_T38 l0_0 x3_1).f1))).setCell ⟨gb117, 2, none⟩ (.string ((rd_T38 l0_0 x3_1).f2))).setCell ⟨gb117, 3, none⟩ (.int .i64 ((rd_T38 l0_0 x3_1).f3))).setCell ⟨gb117, 4, none⟩ (.slice A116_4 ((rd_T38 l0_0 x3_1).f4).length c116_4)).heap[gb117]? = some (.cells #[.int .i64 ((rd_T38 l0_0 x3_1).f0), .string ((rd_T38 l0_0 x3_1).f1), .string ((rd_T38 l0_0 x3_1).f2), .int .i64 ((rd_T38 l0_0 x3_1).f3), .slice A116_4 ((rd_T38 l0_0 x3_1).f4).length c116_4] 38 (0, 0))) := ⟨by (with_reducible repeat (first | refine blk_drewN ?_ _ | refine blk_drew ?_ | refine blk_alloc ?_ _)); refine blk_put (cs := #[.int .i64 ((rd_T38 l0_0 x3_1).f0), .string ((rd_T38 l0_0 x3_1).f1), .string ((rd_T38 l0_0 x3_1).f2), .int .i64 ((rd_T38 l0_0 x3_1).f3), .slice none 0 0]) ?_ 4 _ rfl; (with_reducible repeat (first | refine blk_drewN ?_ _ | refine blk_drew ?_ | refine blk_alloc ?_ _)); refine blk_put (cs := #[.int .i64 ((rd_T38 l0_0 x3_1).f0), .string ((rd_T38 l0_0 x3_1).f1), .string ((rd_T38 l0_0 x3_1).f2), .int .i64 0, .slice none 0 0]) ?_ 3 _ rfl; (with_reducible repeat (first | refine blk_drewN ?_ _ | refine blk_drew ?_ | refine blk_alloc ?_ _)); refine blk_put (cs := #[.int .i64 ((rd_T38 l0_0 x3_1).f0), .string ((rd_T38 l0_0 x3_1).f1), .string (⟨#[]⟩ : ByteArray), .int .i64 0, .slice none 0 0]) ?_ 2 _ rfl; (with_reducible repeat (first | refine blk_drewN ?_ _ | refine blk_drew ?_ | refine blk_alloc ?_ _)); refine blk_put (cs := #[.int .i64 ((rd_T38 l0_0 x3_1).f0), .string (⟨#[]⟩ : ByteArray), .string (⟨#[]⟩ : ByteArray), .int .i64 0, .slice none 0 0]) ?_ 1 _ rfl; (with_reducible repeat (first | refine blk_drewN ?_ _ | refine blk_drew ?_ | refine blk_alloc ?_ _)); refine blk_put (cs := #[.int .i64 0, .string (⟨#[]⟩ : ByteArray), .string (⟨#[]⟩ : ByteArray), .int .i64 0, .slice none 0 0]) ?_ 0 _ rfl; (with_reducible repeat (first | refine blk_drewN ?_ _ | refine blk_drew ?_ | refine blk_alloc ?_ _)); exact BK117.out⟩
           have n2_ : Aside0 (Below w.heap.size w (((((w7.setCell ⟨gb117, 0, none⟩ (.int .i64 ((rd_T38 l0_0 x3_1).f0))).setCell ⟨gb117, 1, none⟩ (.string ((rd_T38 l0_0 x3_1).f1))).setCell ⟨gb117, 2, none⟩ (.string ((rd_T38 l0_0 x3_1).f2))).setCell ⟨gb117, 3, none⟩ (.int .i64 ((rd_T38 l0_0 x3_1).f3))).setCell ⟨gb117, 4, none⟩ (.slice A116_4 ((rd_T38 l0_0 x3_1).f4).length c116_4))) := ⟨by repeat (first | (with_reducible first | exact HB.out | apply below_alloc | apply pw_below_drewN | apply below_drew1 | refine below_set ?_ GE115.out | refine below_set ?_ GE117.out) | exact HB.out)⟩
           (try clear BK115)
           (try clear BK117)
           (try clear HB)
           generalize (((((w7.setCell ⟨gb117, 0, none⟩ (.int .i64 ((rd_T38 l0_0 x3_1).f0))).setCell ⟨gb117, 1, none⟩ (.string ((rd_T38 l0_0 x3_1).f1))).setCell ⟨gb117, 2, none⟩ (.string ((rd_T38 l0_0 x3_1).f2))).setCell ⟨gb117, 3, none⟩ (.int .i64 ((rd_T38 l0_0 x3_1).f3))).setCell ⟨gb117, 4, none⟩ (.slice A116_4 ((rd_T38 l0_0 x3_1).f4).length c116_4)) = w17 at n0_ n1_ n2_ ⊢
           have BK115 := n0_
           have BK117 := n1_
           have HB := n2_
           clear n0_ n1_ n2_
           have n0_ := Aside0.mk (blk_drew BK115.out)
           have n1_ := Aside0.mk (blk_drew BK117.out)
           have n2_ := Aside0.mk (below_drew1 HB.out)
           clear BK115
           clear BK117
           clear HB
           have BK115 := n0_
           have BK117 := n1_
           have HB := n2_
           clear n0_ n1_ n2_
           have p119 : 0 ≤ ((ji13) : Int) := of_decide_eq_true (by first | (with_reducible assumption) | assumption)
           have q119 : (ji13) < (l0_0.length : Int) := of_decide_eq_true (by first | (with_reducible assumption) | assumption)
           obtain ⟨ad119, A119_4, c119_4, e119, hx119_0, hx119_1, hx119_2, hx119_3, hx119_4, hl119_4, hi119_4⟩ := at_T38 HR0_0.out (ji13) p119 q119
           have hw119_4 := hx119_4
           have hw119_3 := hx119_3
           have hw119_2 := hx119_2
           have hw119_1 := hx119_1
           have hw119_0 := hx119_0
           obtain rfl : ad116 = ad119 := (by injection e119)
           replace hx119_0 := (HB.out.cell (World.block_lt_of_cell? w _ hx119_0)).trans hx119_0
           replace hx119_1 := (HB.out.cell (World.block_lt_of_cell? w _ hx119_1)).trans hx119_1
           replace hx119_2 := (HB.out.cell (World.block_lt_of_cell? w _ hx119_2)).trans hx119_2
           replace hx119_3 := (HB.out.cell (World.block_lt_of_cell? w _ hx119_3)).trans hx119_3
           replace hx119_4 := (HB.out.cell (World.block_lt_of_cell? w _ hx119_4)).trans hx119_4
           have HR119_4 := Aside0.mk hi119_4
           have HC119_4 := Aside0.mk hl119_4
           clear hi119_4 hl119_4
           replace p119 := eq_true p119
           replace q119 := eq_true q119
           refine start_ (n := 51) (S := fun w' => w'.cell? ⟨gb117, 0, none⟩ = some (.int .i64 ((rd_T38 l0_0 x3_1).f0)) ∧ w'.cell? ⟨gb117, 1, none⟩ = some (.string ((rd_T38 l0_0 x3_1).f1)) ∧ w'.cell? ⟨gb117, 2, none⟩ = some (.string ((rd_T38 l0_0 x3_1).f2)) ∧ w'.cell? ⟨gb117, 3, none⟩ = some (.int .i64 ((rd_T38 l0_0 x3_1).f3)) ∧ w'.cell? ⟨gb117, 4, none⟩ = some (.slice A116_4 ((rd_T38 l0_0 x3_1).f4).length c116_4) ∧ w'.cell? ⟨gb115, 0, none⟩ = some (.slice (some ad116) l0_0.length c0_0) ∧ w'.cell? ⟨gb115, 1, none⟩ = some (.slice A0_1 l0_1.length c0_1) ∧ w'.cell? (ad116.add (((ji13)).toNat * 5)) = some (.int .i64 ((rd_T38 l0_0 (ji13)).f0)) ∧ w'.cell? ⟨(ad116.add (((ji13)).toNat * 5)).block, (ad116.add (((ji13)).toNat * 5)).off + 1, none⟩ = some (.string ((rd_T38 l0_0 (ji13)).f1)) ∧ w'.cell? ⟨(ad116.add (((ji13)).toNat * 5)).block, (ad116.add (((ji13)).toNat * 5)).off + 2, none⟩ = some (.string ((rd_T38 l0_0 (ji13)).f2)) ∧ w'.cell? ⟨(ad116.add (((ji13)).toNat * 5)).block, (ad116.add (((ji13)).toNat * 5)).off + 3, none⟩ = some (.int .i64 ((rd_T38 l0_0 (ji13)).f3)) ∧ w'.cell? ⟨(ad116.add (((ji13)).toNat * 5)).block, (ad116.add (((ji13)).toNat * 5)).off + 4, none⟩ = some (.slice A119_4 ((rd_T38 l0_0 (ji13)).f4).length c119_4)) (ds := []) spec_BookOk.v0 (by kernel_rfl) rfl rfl ⟨(blk_cell BK117.out 0).trans rfl, (blk_cell BK117.out 1).trans rfl, (blk_cell BK117.out 2).trans rfl, (blk_cell BK117.out 3).trans rfl, (blk_cell BK117.out 4).trans rfl, (blk_cell BK115.out 0).trans rfl, (blk_cell BK115.out 1).trans rfl, ((HB.out.cell (World.block_lt_of_cell? w _ hw119_0)).trans hw119_0), ((HB.out.cell (World.block_lt_of_cell? w _ hw119_1)).trans hw119_1), ((HB.out.cell (World.block_lt_of_cell? w _ hw119_2)).trans hw119_2), ((HB.out.cell (World.block_lt_of_cell? w _ hw119_3)).trans hw119_3), ((HB.out.cell (World.block_lt_of_cell? w _ hw119_4)).trans hw119_4)⟩ (fun hHeld => ?_); refine with_tabW spec_BookOk.tab5 spec_BookOk.bits5 (fun HT_ HW_ => ?_)
           generalize w17.drew = w18 at BK115 BK117 HB HR119_4 hx119_0 hx119_1 hx119_2 hx119_3 hx119_4 hHeld ⊢
           refine Sk.pq 0 19 spec_BookOk.v1 HT_.out (h := ?_)
           refine Sk.tk12 1 20 spec_BookOk.v2 HT_.out HW_.out hHeld (h := ?_)
           refine one_ (i := 2) (N := some 21) spec_BookOk.v3 rfl rfl (one_of HT_.out (by kernel_rfl)) (by decide) (fun K hK => ?_)
           refine goes_ Try.func11 (by kernel_rfl) rfl #[.int .i64 ((rd_T38 l0_0 x3_1).f0), .int .i64 1, .int .i64 1000000] (by rfl) rfl rfl (by (try simp only [List.map_toArray, List.map_cons, List.map_nil]); first | done | rfl | (simp only [List.length_drop, List.length_take]; rfl)) ?_
           with_reducible refine (spec_l1In.calls ((rd_T38 l0_0 x3_1).f0) 1 1000000 true _ A10.out).mono ?_
           rintro e w' ⟨rfl, ⟨nd, rfl⟩⟩
           refine ⟨_, rfl, ?_⟩
           refine hK.out _ _ ⟨(blk_cell BK117.out 0).trans rfl, (blk_cell BK117.out 1).trans rfl, (blk_cell BK117.out 2).trans rfl, (blk_cell BK117.out 3).trans rfl, (blk_cell BK117.out 4).trans rfl, (blk_cell BK115.out 0).trans rfl, (blk_cell BK115.out 1).trans rfl, ((HB.out.cell (World.block_lt_of_cell? w _ hw119_0)).trans hw119_0), ((HB.out.cell (World.block_lt_of_cell? w _ hw119_1)).trans hw119_1), ((HB.out.cell (World.block_lt_of_cell? w _ hw119_2)).trans hw119_2), ((HB.out.cell (World.block_lt_of_cell? w _ hw119_3)).trans hw119_3), ((HB.out.cell (World.block_lt_of_cell? w _ hw119_4)).trans hw119_4)⟩ (fun hHeld => ?_)
           clear hK K
           refine Sk.nm 21 (h := ?_)
           refine Sk.pq 3 22 spec_BookOk.v4 HT_.out (h := ?_)
           refine Sk.pq 4 23 spec_BookOk.v5 HT_.out (h := ?_)
           refine Sk.pq 5 24 spec_BookOk.v6 HT_.out (h := ?_)
           refine Sk.pq 6 25 spec_BookOk.v7 HT_.out (h := ?_)
           refine Sk.pq 7 26 spec_BookOk.v8 HT_.out (h := ?_)
           refine Sk.pq 8 27 spec_BookOk.v9 HT_.out (h := ?_)
           refine Sk.pq 10 29 spec_BookOk.v10 HT_.out (h := ?_)
           refine Sk.pq 11 30 spec_BookOk.v11 HT_.out (h := ?_)
           refine Sk.pq 15 34 spec_BookOk.v12 HT_.out (h := ?_)
           refine Sk.tk12 9 28 spec_BookOk.v13 HT_.out HW_.out hHeld (h := ?_)
           refine Sk.pq 12 31 spec_BookOk.v14 HT_.out (h := ?_)
           refine Sk.pq 13 32 spec_BookOk.v15 HT_.out (h := ?_)
           refine Sk.tk12 14 33 spec_BookOk.v16 HT_.out HW_.out hHeld (h := ?_)
           refine Sk.tk12 16 35 spec_BookOk.v17 HT_.out HW_.out hHeld (h := ?_)
           refine Sk.pq 17 36 spec_BookOk.v18 HT_.out (h := ?_)
           refine Sk.pq 18 37 spec_BookOk.v19 HT_.out (h := ?_)
           refine Sk.pq 19 38 spec_BookOk.v20 HT_.out (h := ?_)
           refine Sk.pq 20 39 spec_BookOk.v21 HT_.out (h := ?_)
           refine Sk.pu 21 40 spec_BookOk.v22 HT_.out (h := ?_)
           refine Sk.pu 22 41 spec_BookOk.v23 HT_.out (h := ?_)
           refine Sk.pu 23 42 spec_BookOk.v24 HT_.out (h := ?_)
           refine Sk.pu 24 43 spec_BookOk.v25 HT_.out (h := ?_)
           refine Sk.pq 25 44 spec_BookOk.v26 HT_.out (h := ?_)
           refine Sk.pq 26 45 spec_BookOk.v27 HT_.out (h := ?_)
           refine Sk.pu 27 46 spec_BookOk.v28 HT_.out (h := ?_)
           refine Sk.pu 28 47 spec_BookOk.v29 HT_.out (h := ?_)
           refine Sk.pu 29 48 spec_BookOk.v30 HT_.out (h := ?_)
           refine Sk.pu 30 49 spec_BookOk.v31 HT_.out (h := ?_)
           refine Sk.pu 31 50 spec_BookOk.v32 HT_.out (h := ?_)
           refine Sk.pu 32 51 spec_BookOk.v33 HT_.out (h := ?_)
           refine Sk.pu 33 52 spec_BookOk.v34 HT_.out (h := ?_)
           refine Sk.pu 34 53 spec_BookOk.v35 HT_.out (h := ?_)
           refine Sk.pu 35 54 spec_BookOk.v36 HT_.out (h := ?_)
           refine Sk.pq 36 55 spec_BookOk.v37 HT_.out (h := ?_)
           refine Sk.pq 37 56 spec_BookOk.v38 HT_.out (h := ?_)
           refine Sk.pu 38 57 spec_BookOk.v39 HT_.out (h := ?_)
           refine Sk.pu 39 58 spec_BookOk.v40 HT_.out (h := ?_)
           refine Sk.pu 40 59 spec_BookOk.v41 HT_.out (h := ?_)
           refine Sk.pu 41 60 spec_BookOk.v42 HT_.out (h := ?_)
           refine Sk.pq 42 61 spec_BookOk.v43 HT_.out (h := ?_)
           refine Sk.pq 43 62 spec_BookOk.v44 HT_.out (h := ?_)
           refine Sk.pu 44 63 spec_BookOk.v45 HT_.out (h := ?_)
           refine Sk.pu 45 64 spec_BookOk.v46 HT_.out (h := ?_)
           refine Sk.pu 46 65 spec_BookOk.v47 HT_.out (h := ?_)
           refine Sk.pu 47 66 spec_BookOk.v48 HT_.out (h := ?_)
           refine Sk.pu 48 67 spec_BookOk.v49 HT_.out (h := ?_)
           refine Sk.pu 49 68 spec_BookOk.v50 HT_.out (h := ?_)
           refine Sk.pq 50 69 spec_BookOk.v51 HT_.out (h := ?_)
           refine done_ (done_of HT_.out (by kernel_rfl)) ?_
           try go_wp2
           go_meet
           case rel => exact ⟨_, (true), (by first | rfl | (simp; done) | (simp [*]; done)), H', ⟨by have := HK1.out; first | omega | exact Nat.le_refl _⟩, ⟨by (with_reducible repeat (first | refine blk_drewN ?_ _ | refine blk_drew ?_ | refine blk_alloc ?_ _)); exact BK115.out⟩, ⟨by (with_reducible repeat (first | refine blk_drewN ?_ _ | refine blk_drew ?_ | refine blk_alloc ?_ _)); exact BK117.out⟩, ⟨by repeat (first | (with_reducible first | exact HB.out | apply below_alloc | apply pw_below_drewN | apply below_drew1 | refine below_set ?_ GE115.out | refine below_set ?_ GE117.out) | exact HB.out)⟩⟩
          ·rw [if_neg c16] at H
           have c16b0 : decide (((rd_T38 l0_0 x3_1).f0) ≤ ((rd_T38 l0_0 (ji13)).f0)) = false := decide_eq_false c16
           clear c16
           replace H := Option.bind_eq_some_iff.mp H
           obtain ⟨t120, A190, H⟩ := H
           (try dsimp only at H)
           have A19 := Aside0.mk A190
           clear A190
           by_cases c20 : t120 = true
           ·subst c20
            rw [if_pos rfl] at H
            by_cases c21 : ((rd_T38 l0_0 x3_1).f2).toList = ([] : List UInt8)
            ·rw [if_pos c21] at H
             have c21b0 : (((rd_T38 l0_0 x3_1).f2).toList == ([] : List UInt8)) = true := beq_iff_eq.mpr c21
             have c21b1 : (((rd_T38 l0_0 x3_1).f2).toList != ([] : List UInt8)) = false := bne_eq_false_iff_eq.mpr c21
             clear c21
             replace H := Option.bind_eq_some_iff.mp H
             obtain ⟨t121, A220, H⟩ := H
             (try dsimp only at H)
             have A22 := Aside0.mk A220
             clear A220
             by_cases c23 : t121 = true
             ·subst c23
              rw [if_pos rfl] at H
              have H' := Aside0.mk H
              clear H
              try go_wp2
              have n0_ : Aside0 ((((((w7.setCell ⟨gb117, 0, none⟩ (.int .i64 ((rd_T38 l0_0 x3_1).f0))).setCell ⟨gb117, 1, none⟩ (.string ((rd_T38 l0_0 x3_1).f1))).setCell ⟨gb117, 2, none⟩ (.string ((rd_T38 l0_0 x3_1).f2))).setCell ⟨gb117, 3, none⟩ (.int .i64 ((rd_T38 l0_0 x3_1).f3))).setCell ⟨gb117, 4, none⟩ (.slice A116_4 ((rd_T38 l0_0 x3_1).f4).length c116_4)).heap[gb115]? = some (.cells #[.slice (some ad116) l0_0.length c0_0, .slice A0_1 l0_1.length c0_1] 30 (0, 0))) := ⟨by (with_reducible repeat (first | refine blk_drewN ?_ _ | refine blk_drew ?_ | refine blk_alloc ?_ _)); refine blk_far ?_ NB115_117.out _; (with_reducible repeat (first | refine blk_drewN ?_ _ | refine blk_drew ?_ | refine blk_alloc ?_ _)); refine blk_far ?_ NB115_117.out _; (with_reducible repeat (first | refine blk_drewN ?_ _ | refine blk_drew ?_ | refine blk_alloc ?_ _)); refine blk_far ?_ NB115_117.out _; (with_reducible repeat (first | refine blk_drewN ?_ _ | refine blk_drew ?_ | refine blk_alloc ?_ _)); refine blk_far ?_ NB115_117.out _; (with_reducible repeat (first | refine blk_drewN ?_ _ | refine blk_drew ?_ | refine blk_alloc ?_ _)); refine blk_far ?_ NB115_117.out _; (with_reducible repeat (first | refine blk_drewN ?_ _ | refine blk_drew ?_ | refine blk_alloc ?_ _)); exact BK115.out⟩
              have n1_ : Aside0 ((((((w7.setCell ⟨gb117, 0, none⟩ (.int .i64 ((rd_T38 l0_0 x3_1).f0))).setCell ⟨gb117, 1, none⟩ (.string ((rd_T38 l0_0 x3_1).f1))).setCell ⟨gb117, 2, none⟩ (.string ((rd_T38 l0_0 x3_1).f2))).setCell ⟨gb117, 3, none⟩ (.int .i64 ((rd_T38 l0_0 x3_1).f3))).setCell ⟨gb117, 4, none⟩ (.slice A116_4 ((rd_T38 l0_0 x3_1).f4).length c116_4)).heap[gb117]? = some (.cells #[.int .i64 ((rd_T38 l0_0 x3_1).f0), .string ((rd_T38 l0_0 x3_1).f1), .string ((rd_T38 l0_0 x3_1).f2), .int .i64 ((rd_T38 l0_0 x3_1).f3), .slice A116_4 ((rd_T38 l0_0 x3_1).f4).length c116_4] 38 (0, 0))) := ⟨by (with_reducible repeat (first | refine blk_drewN ?_ _ | refine blk_drew ?_ | refine blk_alloc ?_ _)); refine blk_put (cs := #[.int .i64 ((rd_T38 l0_0 x3_1).f0), .string ((rd_T38 l0_0 x3_1).f1), .string ((rd_T38 l0_0 x3_1).f2), .int .i64 ((rd_T38 l0_0 x3_1).f3), .slice none 0 0]) ?_ 4 _ rfl; (with_reducible repeat (first | refine blk_drewN ?_ _ | refine blk_drew ?_ | refine blk_alloc ?_ _)); refine blk_put (cs := #[.int .i64 ((rd_T38 l0_0 x3_1).f0), .string ((rd_T38 l0_0 x3_1).f1), .string ((rd_T38 l0_0 x3_1).f2), .int .i64 0, .slice none 0 0]) ?_ 3 _ rfl; (with_reducible repeat (first | refine blk_drewN ?_ _ | refine blk_drew ?_ | refine blk_alloc ?_ _)); refine blk_put (cs := #[.int .i64 ((rd_T38 l0_0 x3_1).f0), .string ((rd_T38 l0_0 x3_1).f1), .string (⟨#[]⟩ : ByteArray), .int .i64 0, .slice none 0 0]) ?_ 2 _ rfl; (with_reducible repeat (first | refine blk_drewN ?_ _ | refine blk_drew ?_ | refine blk_alloc ?_ _)); refine blk_put (cs := #[.int .i64 ((rd_T38 l0_0 x3_1).f0), .string (⟨#[]⟩ : ByteArray), .string (⟨#[]⟩ : ByteArray), .int .i64 0, .slice none 0 0]) ?_ 1 _ rfl; (with_reducible repeat (first | refine blk_drewN ?_ _ | refine blk_drew ?_ | refine blk_alloc ?_ _)); refine blk_put (cs := #[.int .i64 0, .string (⟨#[]⟩ : ByteArray), .string (⟨#[]⟩ : ByteArray), .int .i64 0, .slice none 0 0]) ?_ 0 _ rfl; (with_reducible repeat (first | refine blk_drewN ?_ _ | refine blk_drew ?_ | refine blk_alloc ?_ _)); exact BK117.out⟩
              have n2_ : Aside0 (Below w.heap.size w (((((w7.setCell ⟨gb117, 0, none⟩ (.int .i64 ((rd_T38 l0_0 x3_1).f0))).setCell ⟨gb117, 1, none⟩ (.string ((rd_T38 l0_0 x3_1).f1))).setCell ⟨gb117, 2, none⟩ (.string ((rd_T38 l0_0 x3_1).f2))).setCell ⟨gb117, 3, none⟩ (.int .i64 ((rd_T38 l0_0 x3_1).f3))).setCell ⟨gb117, 4, none⟩ (.slice A116_4 ((rd_T38 l0_0 x3_1).f4).length c116_4))) := ⟨by repeat (first | (with_reducible first | exact HB.out | apply below_alloc | apply pw_below_drewN | apply below_drew1 | refine below_set ?_ GE115.out | refine below_set ?_ GE117.out) | exact HB.out)⟩
              (try clear BK115)
              (try clear BK117)
              (try clear HB)
              generalize (((((w7.setCell ⟨gb117, 0, none⟩ (.int .i64 ((rd_T38 l0_0 x3_1).f0))).setCell ⟨gb117, 1, none⟩ (.string ((rd_T38 l0_0 x3_1).f1))).setCell ⟨gb117, 2, none⟩ (.string ((rd_T38 l0_0 x3_1).f2))).setCell ⟨gb117, 3, none⟩ (.int .i64 ((rd_T38 l0_0 x3_1).f3))).setCell ⟨gb117, 4, none⟩ (.slice A116_4 ((rd_T38 l0_0 x3_1).f4).length c116_4)) = w24 at n0_ n1_ n2_ ⊢
              have BK115 := n0_
              have BK117 := n1_
              have HB := n2_
              clear n0_ n1_ n2_
              have n0_ := Aside0.mk (blk_drew BK115.out)
              have n1_ := Aside0.mk (blk_drew BK117.out)
              have n2_ := Aside0.mk (below_drew1 HB.out)
              clear BK115
              clear BK117
              clear HB
              have BK115 := n0_
              have BK117 := n1_
              have HB := n2_
              clear n0_ n1_ n2_
              have p119 : 0 ≤ ((ji13) : Int) := of_decide_eq_true (by first | (with_reducible assumption) | assumption)
              have q119 : (ji13) < (l0_0.length : Int) := of_decide_eq_true (by first | (with_reducible assumption) | assumption)
              obtain ⟨ad119, A119_4, c119_4, e119, hx119_0, hx119_1, hx119_2, hx119_3, hx119_4, hl119_4, hi119_4⟩ := at_T38 HR0_0.out (ji13) p119 q119
              have hw119_4 := hx119_4
              have hw119_3 := hx119_3
              have hw119_2 := hx119_2
              have hw119_1 := hx119_1
              have hw119_0 := hx119_0
              obtain rfl : ad116 = ad119 := (by injection e119)
              replace hx119_0 := (HB.out.cell (World.block_lt_of_cell? w _ hx119_0)).trans hx119_0
              replace hx119_1 := (HB.out.cell (World.block_lt_of_cell? w _ hx119_1)).trans hx119_1
              replace hx119_2 := (HB.out.cell (World.block_lt_of_cell? w _ hx119_2)).trans hx119_2
              replace hx119_3 := (HB.out.cell (World.block_lt_of_cell? w _ hx119_3)).trans hx119_3
              replace hx119_4 := (HB.out.cell (World.block_lt_of_cell? w _ hx119_4)).trans hx119_4
              have HR119_4 := Aside0.mk hi119_4
              have HC119_4 := Aside0.mk hl119_4
              clear hi119_4 hl119_4
              replace p119 := eq_true p119
              replace q119 := eq_true q119
              refine start_ (n := 51) (S := fun w' => w'.cell? ⟨gb117, 0, none⟩ = some (.int .i64 ((rd_T38 l0_0 x3_1).f0)) ∧ w'.cell? ⟨gb117, 1, none⟩ = some (.string ((rd_T38 l0_0 x3_1).f1)) ∧ w'.cell? ⟨gb117, 2, none⟩ = some (.string ((rd_T38 l0_0 x3_1).f2)) ∧ w'.cell? ⟨gb117, 3, none⟩ = some (.int .i64 ((rd_T38 l0_0 x3_1).f3)) ∧ w'.cell? ⟨gb117, 4, none⟩ = some (.slice A116_4 ((rd_T38 l0_0 x3_1).f4).length c116_4) ∧ w'.cell? ⟨gb115, 0, none⟩ = some (.slice (some ad116) l0_0.length c0_0) ∧ w'.cell? ⟨gb115, 1, none⟩ = some (.slice A0_1 l0_1.length c0_1) ∧ w'.cell? (ad116.add (((ji13)).toNat * 5)) = some (.int .i64 ((rd_T38 l0_0 (ji13)).f0)) ∧ w'.cell? ⟨(ad116.add (((ji13)).toNat * 5)).block, (ad116.add (((ji13)).toNat * 5)).off + 1, none⟩ = some (.string ((rd_T38 l0_0 (ji13)).f1)) ∧ w'.cell? ⟨(ad116.add (((ji13)).toNat * 5)).block, (ad116.add (((ji13)).toNat * 5)).off + 2, none⟩ = some (.string ((rd_T38 l0_0 (ji13)).f2)) ∧ w'.cell? ⟨(ad116.add (((ji13)).toNat * 5)).block, (ad116.add (((ji13)).toNat * 5)).off + 3, none⟩ = some (.int .i64 ((rd_T38 l0_0 (ji13)).f3)) ∧ w'.cell? ⟨(ad116.add (((ji13)).toNat * 5)).block, (ad116.add (((ji13)).toNat * 5)).off + 4, none⟩ = some (.slice A119_4 ((rd_T38 l0_0 (ji13)).f4).length c119_4)) (ds := []) spec_BookOk.v0 (by kernel_rfl) rfl rfl ⟨(blk_cell BK117.out 0).trans rfl, (blk_cell BK117.out 1).trans rfl, (blk_cell BK117.out 2).trans rfl, (blk_cell BK117.out 3).trans rfl, (blk_cell BK117.out 4).trans rfl, (blk_cell BK115.out 0).trans rfl, (blk_cell BK115.out 1).trans rfl, ((HB.out.cell (World.block_lt_of_cell? w _ hw119_0)).trans hw119_0), ((HB.out.cell (World.block_lt_of_cell? w _ hw119_1)).trans hw119_1), ((HB.out.cell (World.block_lt_of_cell? w _ hw119_2)).trans hw119_2), ((HB.out.cell (World.block_lt_of_cell? w _ hw119_3)).trans hw119_3), ((HB.out.cell (World.block_lt_of_cell? w _ hw119_4)).trans hw119_4)⟩ (fun hHeld => ?_); refine with_tabW spec_BookOk.tab5 spec_BookOk.bits5 (fun HT_ HW_ => ?_)
              generalize w24.drew = w25 at BK115 BK117 HB HR119_4 hx119_0 hx119_1 hx119_2 hx119_3 hx119_4 hHeld ⊢
              refine Sk.pq 0 19 spec_BookOk.v1 HT_.out (h := ?_)
              refine Sk.tk12 1 20 spec_BookOk.v2 HT_.out HW_.out hHeld (h := ?_)
              refine one_ (i := 2) (N := some 21) spec_BookOk.v3 rfl rfl (one_of HT_.out (by kernel_rfl)) (by decide) (fun K hK => ?_)
              refine goes_ Try.func11 (by kernel_rfl) rfl #[.int .i64 ((rd_T38 l0_0 x3_1).f0), .int .i64 1, .int .i64 1000000] (by rfl) rfl rfl (by (try simp only [List.map_toArray, List.map_cons, List.map_nil]); first | done | rfl | (simp only [List.length_drop, List.length_take]; rfl)) ?_
              with_reducible refine (spec_l1In.calls ((rd_T38 l0_0 x3_1).f0) 1 1000000 true _ A10.out).mono ?_
              rintro e w' ⟨rfl, ⟨nd, rfl⟩⟩
              refine ⟨_, rfl, ?_⟩
              refine hK.out _ _ ⟨(blk_cell BK117.out 0).trans rfl, (blk_cell BK117.out 1).trans rfl, (blk_cell BK117.out 2).trans rfl, (blk_cell BK117.out 3).trans rfl, (blk_cell BK117.out 4).trans rfl, (blk_cell BK115.out 0).trans rfl, (blk_cell BK115.out 1).trans rfl, ((HB.out.cell (World.block_lt_of_cell? w _ hw119_0)).trans hw119_0), ((HB.out.cell (World.block_lt_of_cell? w _ hw119_1)).trans hw119_1), ((HB.out.cell (World.block_lt_of_cell? w _ hw119_2)).trans hw119_2), ((HB.out.cell (World.block_lt_of_cell? w _ hw119_3)).trans hw119_3), ((HB.out.cell (World.block_lt_of_cell? w _ hw119_4)).trans hw119_4)⟩ (fun hHeld => ?_)
              clear hK K
              refine Sk.nm 21 (h := ?_)
              refine Sk.pq 3 22 spec_BookOk.v4 HT_.out (h := ?_)
              refine Sk.pq 4 23 spec_BookOk.v5 HT_.out (h := ?_)
              refine Sk.pq 5 24 spec_BookOk.v6 HT_.out (h := ?_)
              refine Sk.pq 6 25 spec_BookOk.v7 HT_.out (h := ?_)
              refine Sk.pq 7 26 spec_BookOk.v8 HT_.out (h := ?_)
              refine Sk.pq 8 27 spec_BookOk.v9 HT_.out (h := ?_)
              refine Sk.pq 10 29 spec_BookOk.v10 HT_.out (h := ?_)
              refine Sk.pq 11 30 spec_BookOk.v11 HT_.out (h := ?_)
              refine Sk.pq 15 34 spec_BookOk.v12 HT_.out (h := ?_)
              refine Sk.tk12 9 28 spec_BookOk.v13 HT_.out HW_.out hHeld (h := ?_)
              refine Sk.pq 12 31 spec_BookOk.v14 HT_.out (h := ?_)
              refine Sk.pq 13 32 spec_BookOk.v15 HT_.out (h := ?_)
              refine Sk.tk12 14 33 spec_BookOk.v16 HT_.out HW_.out hHeld (h := ?_)
              refine Sk.tk12 16 35 spec_BookOk.v17 HT_.out HW_.out hHeld (h := ?_)
              refine Sk.pq 17 36 spec_BookOk.v18 HT_.out (h := ?_)
              refine Sk.pq 18 37 spec_BookOk.v19 HT_.out (h := ?_)
              refine Sk.pq 19 38 spec_BookOk.v20 HT_.out (h := ?_)
              refine Sk.pq 20 39 spec_BookOk.v21 HT_.out (h := ?_)
              refine Sk.pq 21 40 spec_BookOk.v22 HT_.out (h := ?_)
              refine Sk.tk12 22 41 spec_BookOk.v23 HT_.out HW_.out hHeld (h := ?_)
              refine one_ (i := 23) (N := some 42) spec_BookOk.v24 rfl rfl (one_of HT_.out (by kernel_rfl)) (by decide) (fun K hK => ?_)
              refine goes_ Try.func12 (by kernel_rfl) rfl #[.string ((rd_T38 l0_0 x3_1).f1)] (by rfl) rfl rfl (by (try simp only [List.map_toArray, List.map_cons, List.map_nil]); first | done | rfl | (simp only [List.length_drop, List.length_take]; rfl)) ?_
              with_reducible refine (spec_l1Name.calls k1 ((rd_T38 l0_0 x3_1).f1) true _ A19.out).mono ?_
              rintro e w' ⟨rfl, ⟨nd, rfl⟩⟩
              refine ⟨_, rfl, ?_⟩
              refine hK.out _ _ ⟨(blk_cell BK117.out 0).trans rfl, (blk_cell BK117.out 1).trans rfl, (blk_cell BK117.out 2).trans rfl, (blk_cell BK117.out 3).trans rfl, (blk_cell BK117.out 4).trans rfl, (blk_cell BK115.out 0).trans rfl, (blk_cell BK115.out 1).trans rfl, ((HB.out.cell (World.block_lt_of_cell? w _ hw119_0)).trans hw119_0), ((HB.out.cell (World.block_lt_of_cell? w _ hw119_1)).trans hw119_1), ((HB.out.cell (World.block_lt_of_cell? w _ hw119_2)).trans hw119_2), ((HB.out.cell (World.block_lt_of_cell? w _ hw119_3)).trans hw119_3), ((HB.out.cell (World.block_lt_of_cell? w _ hw119_4)).trans hw119_4)⟩ (fun hHeld => ?_)
              clear hK K
              refine Sk.nm 42 (h := ?_)
              refine Sk.pq 24 43 spec_BookOk.v25 HT_.out (h := ?_)
              refine Sk.pq 25 44 spec_BookOk.v26 HT_.out (h := ?_)
              refine Sk.pq 26 45 spec_BookOk.v27 HT_.out (h := ?_)
              refine Sk.pq 27 46 spec_BookOk.v28 HT_.out (h := ?_)
              refine Sk.tk12 28 47 spec_BookOk.v29 HT_.out HW_.out hHeld (h := ?_)
              refine Sk.pq 29 48 spec_BookOk.v30 HT_.out (h := ?_)
              refine Sk.pq 30 49 spec_BookOk.v31 HT_.out (h := ?_)
              refine Sk.pu 31 50 spec_BookOk.v32 HT_.out (h := ?_)
              refine Sk.pu 32 51 spec_BookOk.v33 HT_.out (h := ?_)
              refine Sk.pu 33 52 spec_BookOk.v34 HT_.out (h := ?_)
              refine Sk.pu 34 53 spec_BookOk.v35 HT_.out (h := ?_)
              refine Sk.pq 35 54 spec_BookOk.v36 HT_.out (h := ?_)
              refine Sk.pq 36 55 spec_BookOk.v37 HT_.out (h := ?_)
              refine Sk.pq 37 56 spec_BookOk.v38 HT_.out (h := ?_)
              refine Sk.pq 38 57 spec_BookOk.v39 HT_.out (h := ?_)
              refine Sk.tk12 39 58 spec_BookOk.v40 HT_.out HW_.out hHeld (h := ?_)
              refine one_ (i := 40) (N := some 59) spec_BookOk.v41 rfl rfl (one_of HT_.out (by kernel_rfl)) (by decide) (fun K hK => ?_)
              refine goes_ Try.func11 (by kernel_rfl) rfl #[.int .i64 ((rd_T38 l0_0 x3_1).f3), .int .i64 1, .int .i64 5] (by rfl) rfl rfl (by (try simp only [List.map_toArray, List.map_cons, List.map_nil]); first | done | rfl | (simp only [List.length_drop, List.length_take]; rfl)) ?_
              with_reducible refine (spec_l1In.calls ((rd_T38 l0_0 x3_1).f3) 1 5 true _ A22.out).mono ?_
              rintro e w' ⟨rfl, ⟨nd, rfl⟩⟩
              refine ⟨_, rfl, ?_⟩
              refine hK.out _ _ ⟨(blk_cell BK117.out 0).trans rfl, (blk_cell BK117.out 1).trans rfl, (blk_cell BK117.out 2).trans rfl, (blk_cell BK117.out 3).trans rfl, (blk_cell BK117.out 4).trans rfl, (blk_cell BK115.out 0).trans rfl, (blk_cell BK115.out 1).trans rfl, ((HB.out.cell (World.block_lt_of_cell? w _ hw119_0)).trans hw119_0), ((HB.out.cell (World.block_lt_of_cell? w _ hw119_1)).trans hw119_1), ((HB.out.cell (World.block_lt_of_cell? w _ hw119_2)).trans hw119_2), ((HB.out.cell (World.block_lt_of_cell? w _ hw119_3)).trans hw119_3), ((HB.out.cell (World.block_lt_of_cell? w _ hw119_4)).trans hw119_4)⟩ (fun hHeld => ?_)
              clear hK K
              refine Sk.nm 59 (h := ?_)
              refine Sk.pq 41 60 spec_BookOk.v42 HT_.out (h := ?_)
              refine Sk.pq 42 61 spec_BookOk.v43 HT_.out (h := ?_)
              refine Sk.pq 43 62 spec_BookOk.v44 HT_.out (h := ?_)
              refine Sk.pq 44 63 spec_BookOk.v45 HT_.out (h := ?_)
              refine Sk.pq 47 66 spec_BookOk.v52 HT_.out (h := ?_)
              refine Sk.tk12 45 64 spec_BookOk.v53 HT_.out HW_.out hHeld (h := ?_)
              refine Sk.pq 46 65 spec_BookOk.v48 HT_.out (h := ?_)
              refine Sk.tk12 48 67 spec_BookOk.v49 HT_.out HW_.out hHeld (h := ?_)
              refine Sk.pq 49 68 spec_BookOk.v50 HT_.out (h := ?_)
              refine Sk.pq 50 69 spec_BookOk.v51 HT_.out (h := ?_)
              refine done_ (done_of HT_.out (by kernel_rfl)) ?_
              try go_wp2
              go_meet
              case rel => exact ⟨_, (((((rd_T38 l0_0 x3_1).f4).length : Int) != ((rd_T38 l0_0 x3_1).f3))), (by first | rfl | (simp; done) | (simp [*]; done)), H', ⟨by have := HK1.out; first | omega | exact Nat.le_refl _⟩, ⟨by (with_reducible repeat (first | refine blk_drewN ?_ _ | refine blk_drew ?_ | refine blk_alloc ?_ _)); exact BK115.out⟩, ⟨by (with_reducible repeat (first | refine blk_drewN ?_ _ | refine blk_drew ?_ | refine blk_alloc ?_ _)); exact BK117.out⟩, ⟨by repeat (first | (with_reducible first | exact HB.out | apply below_alloc | apply pw_below_drewN | apply below_drew1 | refine below_set ?_ GE115.out | refine below_set ?_ GE117.out) | exact HB.out)⟩⟩
             ·replace c23 := Bool.eq_false_iff.mpr c23
              subst c23
              rw [if_neg (show ¬ (false = true) by decide)] at H
              have H' := Aside0.mk H
              clear H
              try go_wp2
              have n0_ : Aside0 ((((((w7.setCell ⟨gb117, 0, none⟩ (.int .i64 ((rd_T38 l0_0 x3_1).f0))).setCell ⟨gb117, 1, none⟩ (.string ((rd_T38 l0_0 x3_1).f1))).setCell ⟨gb117, 2, none⟩ (.string ((rd_T38 l0_0 x3_1).f2))).setCell ⟨gb117, 3, none⟩ (.int .i64 ((rd_T38 l0_0 x3_1).f3))).setCell ⟨gb117, 4, none⟩ (.slice A116_4 ((rd_T38 l0_0 x3_1).f4).length c116_4)).heap[gb115]? = some (.cells #[.slice (some ad116) l0_0.length c0_0, .slice A0_1 l0_1.length c0_1] 30 (0, 0))) := ⟨by (with_reducible repeat (first | refine blk_drewN ?_ _ | refine blk_drew ?_ | refine blk_alloc ?_ _)); refine blk_far ?_ NB115_117.out _; (with_reducible repeat (first | refine blk_drewN ?_ _ | refine blk_drew ?_ | refine blk_alloc ?_ _)); refine blk_far ?_ NB115_117.out _; (with_reducible repeat (first | refine blk_drewN ?_ _ | refine blk_drew ?_ | refine blk_alloc ?_ _)); refine blk_far ?_ NB115_117.out _; (with_reducible repeat (first | refine blk_drewN ?_ _ | refine blk_drew ?_ | refine blk_alloc ?_ _)); refine blk_far ?_ NB115_117.out _; (with_reducible repeat (first | refine blk_drewN ?_ _ | refine blk_drew ?_ | refine blk_alloc ?_ _)); refine blk_far ?_ NB115_117.out _; (with_reducible repeat (first | refine blk_drewN ?_ _ | refine blk_drew ?_ | refine blk_alloc ?_ _)); exact BK115.out⟩
              have n1_ : Aside0 ((((((w7.setCell ⟨gb117, 0, none⟩ (.int .i64 ((rd_T38 l0_0 x3_1).f0))).setCell ⟨gb117, 1, none⟩ (.string ((rd_T38 l0_0 x3_1).f1))).setCell ⟨gb117, 2, none⟩ (.string ((rd_T38 l0_0 x3_1).f2))).setCell ⟨gb117, 3, none⟩ (.int .i64 ((rd_T38 l0_0 x3_1).f3))).setCell ⟨gb117, 4, none⟩ (.slice A116_4 ((rd_T38 l0_0 x3_1).f4).length c116_4)).heap[gb117]? = some (.cells #[.int .i64 ((rd_T38 l0_0 x3_1).f0), .string ((rd_T38 l0_0 x3_1).f1), .string ((rd_T38 l0_0 x3_1).f2), .int .i64 ((rd_T38 l0_0 x3_1).f3), .slice A116_4 ((rd_T38 l0_0 x3_1).f4).length c116_4] 38 (0, 0))) := ⟨by (with_reducible repeat (first | refine blk_drewN ?_ _ | refine blk_drew ?_ | refine blk_alloc ?_ _)); refine blk_put (cs := #[.int .i64 ((rd_T38 l0_0 x3_1).f0), .string ((rd_T38 l0_0 x3_1).f1), .string ((rd_T38 l0_0 x3_1).f2), .int .i64 ((rd_T38 l0_0 x3_1).f3), .slice none 0 0]) ?_ 4 _ rfl; (with_reducible repeat (first | refine blk_drewN ?_ _ | refine blk_drew ?_ | refine blk_alloc ?_ _)); refine blk_put (cs := #[.int .i64 ((rd_T38 l0_0 x3_1).f0), .string ((rd_T38 l0_0 x3_1).f1), .string ((rd_T38 l0_0 x3_1).f2), .int .i64 0, .slice none 0 0]) ?_ 3 _ rfl; (with_reducible repeat (first | refine blk_drewN ?_ _ | refine blk_drew ?_ | refine blk_alloc ?_ _)); refine blk_put (cs := #[.int .i64 ((rd_T38 l0_0 x3_1).f0), .string ((rd_T38 l0_0 x3_1).f1), .string (⟨#[]⟩ : ByteArray), .int .i64 0, .slice none 0 0]) ?_ 2 _ rfl; (with_reducible repeat (first | refine blk_drewN ?_ _ | refine blk_drew ?_ | refine blk_alloc ?_ _)); refine blk_put (cs := #[.int .i64 ((rd_T38 l0_0 x3_1).f0), .string (⟨#[]⟩ : ByteArray), .string (⟨#[]⟩ : ByteArray), .int .i64 0, .slice none 0 0]) ?_ 1 _ rfl; (with_reducible repeat (first | refine blk_drewN ?_ _ | refine blk_drew ?_ | refine blk_alloc ?_ _)); refine blk_put (cs := #[.int .i64 0, .string (⟨#[]⟩ : ByteArray), .string (⟨#[]⟩ : ByteArray), .int .i64 0, .slice none 0 0]) ?_ 0 _ rfl; (with_reducible repeat (first | refine blk_drewN ?_ _ | refine blk_drew ?_ | refine blk_alloc ?_ _)); exact BK117.out⟩
              have n2_ : Aside0 (Below w.heap.size w (((((w7.setCell ⟨gb117, 0, none⟩ (.int .i64 ((rd_T38 l0_0 x3_1).f0))).setCell ⟨gb117, 1, none⟩ (.string ((rd_T38 l0_0 x3_1).f1))).setCell ⟨gb117, 2, none⟩ (.string ((rd_T38 l0_0 x3_1).f2))).setCell ⟨gb117, 3, none⟩ (.int .i64 ((rd_T38 l0_0 x3_1).f3))).setCell ⟨gb117, 4, none⟩ (.slice A116_4 ((rd_T38 l0_0 x3_1).f4).length c116_4))) := ⟨by repeat (first | (with_reducible first | exact HB.out | apply below_alloc | apply pw_below_drewN | apply below_drew1 | refine below_set ?_ GE115.out | refine below_set ?_ GE117.out) | exact HB.out)⟩
              (try clear BK115)
              (try clear BK117)
              (try clear HB)
              generalize (((((w7.setCell ⟨gb117, 0, none⟩ (.int .i64 ((rd_T38 l0_0 x3_1).f0))).setCell ⟨gb117, 1, none⟩ (.string ((rd_T38 l0_0 x3_1).f1))).setCell ⟨gb117, 2, none⟩ (.string ((rd_T38 l0_0 x3_1).f2))).setCell ⟨gb117, 3, none⟩ (.int .i64 ((rd_T38 l0_0 x3_1).f3))).setCell ⟨gb117, 4, none⟩ (.slice A116_4 ((rd_T38 l0_0 x3_1).f4).length c116_4)) = w26 at n0_ n1_ n2_ ⊢
              have BK115 := n0_
              have BK117 := n1_
              have HB := n2_
              clear n0_ n1_ n2_
              have n0_ := Aside0.mk (blk_drew BK115.out)
              have n1_ := Aside0.mk (blk_drew BK117.out)
              have n2_ := Aside0.mk (below_drew1 HB.out)
              clear BK115
              clear BK117
              clear HB
              have BK115 := n0_
              have BK117 := n1_
              have HB := n2_
              clear n0_ n1_ n2_
              have p119 : 0 ≤ ((ji13) : Int) := of_decide_eq_true (by first | (with_reducible assumption) | assumption)
              have q119 : (ji13) < (l0_0.length : Int) := of_decide_eq_true (by first | (with_reducible assumption) | assumption)
              obtain ⟨ad119, A119_4, c119_4, e119, hx119_0, hx119_1, hx119_2, hx119_3, hx119_4, hl119_4, hi119_4⟩ := at_T38 HR0_0.out (ji13) p119 q119
              have hw119_4 := hx119_4
              have hw119_3 := hx119_3
              have hw119_2 := hx119_2
              have hw119_1 := hx119_1
              have hw119_0 := hx119_0
              obtain rfl : ad116 = ad119 := (by injection e119)
              replace hx119_0 := (HB.out.cell (World.block_lt_of_cell? w _ hx119_0)).trans hx119_0
              replace hx119_1 := (HB.out.cell (World.block_lt_of_cell? w _ hx119_1)).trans hx119_1
              replace hx119_2 := (HB.out.cell (World.block_lt_of_cell? w _ hx119_2)).trans hx119_2
              replace hx119_3 := (HB.out.cell (World.block_lt_of_cell? w _ hx119_3)).trans hx119_3
              replace hx119_4 := (HB.out.cell (World.block_lt_of_cell? w _ hx119_4)).trans hx119_4
              have HR119_4 := Aside0.mk hi119_4
              have HC119_4 := Aside0.mk hl119_4
              clear hi119_4 hl119_4
              replace p119 := eq_true p119
              replace q119 := eq_true q119
              refine start_ (n := 51) (S := fun w' => w'.cell? ⟨gb117, 0, none⟩ = some (.int .i64 ((rd_T38 l0_0 x3_1).f0)) ∧ w'.cell? ⟨gb117, 1, none⟩ = some (.string ((rd_T38 l0_0 x3_1).f1)) ∧ w'.cell? ⟨gb117, 2, none⟩ = some (.string ((rd_T38 l0_0 x3_1).f2)) ∧ w'.cell? ⟨gb117, 3, none⟩ = some (.int .i64 ((rd_T38 l0_0 x3_1).f3)) ∧ w'.cell? ⟨gb117, 4, none⟩ = some (.slice A116_4 ((rd_T38 l0_0 x3_1).f4).length c116_4) ∧ w'.cell? ⟨gb115, 0, none⟩ = some (.slice (some ad116) l0_0.length c0_0) ∧ w'.cell? ⟨gb115, 1, none⟩ = some (.slice A0_1 l0_1.length c0_1) ∧ w'.cell? (ad116.add (((ji13)).toNat * 5)) = some (.int .i64 ((rd_T38 l0_0 (ji13)).f0)) ∧ w'.cell? ⟨(ad116.add (((ji13)).toNat * 5)).block, (ad116.add (((ji13)).toNat * 5)).off + 1, none⟩ = some (.string ((rd_T38 l0_0 (ji13)).f1)) ∧ w'.cell? ⟨(ad116.add (((ji13)).toNat * 5)).block, (ad116.add (((ji13)).toNat * 5)).off + 2, none⟩ = some (.string ((rd_T38 l0_0 (ji13)).f2)) ∧ w'.cell? ⟨(ad116.add (((ji13)).toNat * 5)).block, (ad116.add (((ji13)).toNat * 5)).off + 3, none⟩ = some (.int .i64 ((rd_T38 l0_0 (ji13)).f3)) ∧ w'.cell? ⟨(ad116.add (((ji13)).toNat * 5)).block, (ad116.add (((ji13)).toNat * 5)).off + 4, none⟩ = some (.slice A119_4 ((rd_T38 l0_0 (ji13)).f4).length c119_4)) (ds := []) spec_BookOk.v0 (by kernel_rfl) rfl rfl ⟨(blk_cell BK117.out 0).trans rfl, (blk_cell BK117.out 1).trans rfl, (blk_cell BK117.out 2).trans rfl, (blk_cell BK117.out 3).trans rfl, (blk_cell BK117.out 4).trans rfl, (blk_cell BK115.out 0).trans rfl, (blk_cell BK115.out 1).trans rfl, ((HB.out.cell (World.block_lt_of_cell? w _ hw119_0)).trans hw119_0), ((HB.out.cell (World.block_lt_of_cell? w _ hw119_1)).trans hw119_1), ((HB.out.cell (World.block_lt_of_cell? w _ hw119_2)).trans hw119_2), ((HB.out.cell (World.block_lt_of_cell? w _ hw119_3)).trans hw119_3), ((HB.out.cell (World.block_lt_of_cell? w _ hw119_4)).trans hw119_4)⟩ (fun hHeld => ?_); refine with_tabW spec_BookOk.tab5 spec_BookOk.bits5 (fun HT_ HW_ => ?_)
              generalize w26.drew = w27 at BK115 BK117 HB HR119_4 hx119_0 hx119_1 hx119_2 hx119_3 hx119_4 hHeld ⊢
              refine Sk.pq 0 19 spec_BookOk.v1 HT_.out (h := ?_)
              refine Sk.tk12 1 20 spec_BookOk.v2 HT_.out HW_.out hHeld (h := ?_)
              refine one_ (i := 2) (N := some 21) spec_BookOk.v3 rfl rfl (one_of HT_.out (by kernel_rfl)) (by decide) (fun K hK => ?_)
              refine goes_ Try.func11 (by kernel_rfl) rfl #[.int .i64 ((rd_T38 l0_0 x3_1).f0), .int .i64 1, .int .i64 1000000] (by rfl) rfl rfl (by (try simp only [List.map_toArray, List.map_cons, List.map_nil]); first | done | rfl | (simp only [List.length_drop, List.length_take]; rfl)) ?_
              with_reducible refine (spec_l1In.calls ((rd_T38 l0_0 x3_1).f0) 1 1000000 true _ A10.out).mono ?_
              rintro e w' ⟨rfl, ⟨nd, rfl⟩⟩
              refine ⟨_, rfl, ?_⟩
              refine hK.out _ _ ⟨(blk_cell BK117.out 0).trans rfl, (blk_cell BK117.out 1).trans rfl, (blk_cell BK117.out 2).trans rfl, (blk_cell BK117.out 3).trans rfl, (blk_cell BK117.out 4).trans rfl, (blk_cell BK115.out 0).trans rfl, (blk_cell BK115.out 1).trans rfl, ((HB.out.cell (World.block_lt_of_cell? w _ hw119_0)).trans hw119_0), ((HB.out.cell (World.block_lt_of_cell? w _ hw119_1)).trans hw119_1), ((HB.out.cell (World.block_lt_of_cell? w _ hw119_2)).trans hw119_2), ((HB.out.cell (World.block_lt_of_cell? w _ hw119_3)).trans hw119_3), ((HB.out.cell (World.block_lt_of_cell? w _ hw119_4)).trans hw119_4)⟩ (fun hHeld => ?_)
              clear hK K
              refine Sk.nm 21 (h := ?_)
              refine Sk.pq 3 22 spec_BookOk.v4 HT_.out (h := ?_)
              refine Sk.pq 4 23 spec_BookOk.v5 HT_.out (h := ?_)
              refine Sk.pq 5 24 spec_BookOk.v6 HT_.out (h := ?_)
              refine Sk.pq 6 25 spec_BookOk.v7 HT_.out (h := ?_)
              refine Sk.pq 7 26 spec_BookOk.v8 HT_.out (h := ?_)
              refine Sk.pq 8 27 spec_BookOk.v9 HT_.out (h := ?_)
              refine Sk.pq 10 29 spec_BookOk.v10 HT_.out (h := ?_)
              refine Sk.pq 11 30 spec_BookOk.v11 HT_.out (h := ?_)
              refine Sk.pq 15 34 spec_BookOk.v12 HT_.out (h := ?_)
              refine Sk.tk12 9 28 spec_BookOk.v13 HT_.out HW_.out hHeld (h := ?_)
              refine Sk.pq 12 31 spec_BookOk.v14 HT_.out (h := ?_)
              refine Sk.pq 13 32 spec_BookOk.v15 HT_.out (h := ?_)
              refine Sk.tk12 14 33 spec_BookOk.v16 HT_.out HW_.out hHeld (h := ?_)
              refine Sk.tk12 16 35 spec_BookOk.v17 HT_.out HW_.out hHeld (h := ?_)
              refine Sk.pq 17 36 spec_BookOk.v18 HT_.out (h := ?_)
              refine Sk.pq 18 37 spec_BookOk.v19 HT_.out (h := ?_)
              refine Sk.pq 19 38 spec_BookOk.v20 HT_.out (h := ?_)
              refine Sk.pq 20 39 spec_BookOk.v21 HT_.out (h := ?_)
              refine Sk.pq 21 40 spec_BookOk.v22 HT_.out (h := ?_)
              refine Sk.tk12 22 41 spec_BookOk.v23 HT_.out HW_.out hHeld (h := ?_)
              refine one_ (i := 23) (N := some 42) spec_BookOk.v24 rfl rfl (one_of HT_.out (by kernel_rfl)) (by decide) (fun K hK => ?_)
              refine goes_ Try.func12 (by kernel_rfl) rfl #[.string ((rd_T38 l0_0 x3_1).f1)] (by rfl) rfl rfl (by (try simp only [List.map_toArray, List.map_cons, List.map_nil]); first | done | rfl | (simp only [List.length_drop, List.length_take]; rfl)) ?_
              with_reducible refine (spec_l1Name.calls k1 ((rd_T38 l0_0 x3_1).f1) true _ A19.out).mono ?_
              rintro e w' ⟨rfl, ⟨nd, rfl⟩⟩
              refine ⟨_, rfl, ?_⟩
              refine hK.out _ _ ⟨(blk_cell BK117.out 0).trans rfl, (blk_cell BK117.out 1).trans rfl, (blk_cell BK117.out 2).trans rfl, (blk_cell BK117.out 3).trans rfl, (blk_cell BK117.out 4).trans rfl, (blk_cell BK115.out 0).trans rfl, (blk_cell BK115.out 1).trans rfl, ((HB.out.cell (World.block_lt_of_cell? w _ hw119_0)).trans hw119_0), ((HB.out.cell (World.block_lt_of_cell? w _ hw119_1)).trans hw119_1), ((HB.out.cell (World.block_lt_of_cell? w _ hw119_2)).trans hw119_2), ((HB.out.cell (World.block_lt_of_cell? w _ hw119_3)).trans hw119_3), ((HB.out.cell (World.block_lt_of_cell? w _ hw119_4)).trans hw119_4)⟩ (fun hHeld => ?_)
              clear hK K
              refine Sk.nm 42 (h := ?_)
              refine Sk.pq 24 43 spec_BookOk.v25 HT_.out (h := ?_)
              refine Sk.pq 25 44 spec_BookOk.v26 HT_.out (h := ?_)
              refine Sk.pq 26 45 spec_BookOk.v27 HT_.out (h := ?_)
              refine Sk.pq 27 46 spec_BookOk.v28 HT_.out (h := ?_)
              refine Sk.tk12 28 47 spec_BookOk.v29 HT_.out HW_.out hHeld (h := ?_)
              refine Sk.pq 29 48 spec_BookOk.v30 HT_.out (h := ?_)
              refine Sk.pq 30 49 spec_BookOk.v31 HT_.out (h := ?_)
              refine Sk.pu 31 50 spec_BookOk.v32 HT_.out (h := ?_)
              refine Sk.pu 32 51 spec_BookOk.v33 HT_.out (h := ?_)
              refine Sk.pu 33 52 spec_BookOk.v34 HT_.out (h := ?_)
              refine Sk.pu 34 53 spec_BookOk.v35 HT_.out (h := ?_)
              refine Sk.pq 35 54 spec_BookOk.v36 HT_.out (h := ?_)
              refine Sk.pq 36 55 spec_BookOk.v37 HT_.out (h := ?_)
              refine Sk.pq 37 56 spec_BookOk.v38 HT_.out (h := ?_)
              refine Sk.pq 38 57 spec_BookOk.v39 HT_.out (h := ?_)
              refine Sk.tk12 39 58 spec_BookOk.v40 HT_.out HW_.out hHeld (h := ?_)
              refine one_ (i := 40) (N := some 59) spec_BookOk.v41 rfl rfl (one_of HT_.out (by kernel_rfl)) (by decide) (fun K hK => ?_)
              refine goes_ Try.func11 (by kernel_rfl) rfl #[.int .i64 ((rd_T38 l0_0 x3_1).f3), .int .i64 1, .int .i64 5] (by rfl) rfl rfl (by (try simp only [List.map_toArray, List.map_cons, List.map_nil]); first | done | rfl | (simp only [List.length_drop, List.length_take]; rfl)) ?_
              with_reducible refine (spec_l1In.calls ((rd_T38 l0_0 x3_1).f3) 1 5 false _ A22.out).mono ?_
              rintro e w' ⟨rfl, ⟨nd, rfl⟩⟩
              refine ⟨_, rfl, ?_⟩
              refine hK.out _ _ ⟨(blk_cell BK117.out 0).trans rfl, (blk_cell BK117.out 1).trans rfl, (blk_cell BK117.out 2).trans rfl, (blk_cell BK117.out 3).trans rfl, (blk_cell BK117.out 4).trans rfl, (blk_cell BK115.out 0).trans rfl, (blk_cell BK115.out 1).trans rfl, ((HB.out.cell (World.block_lt_of_cell? w _ hw119_0)).trans hw119_0), ((HB.out.cell (World.block_lt_of_cell? w _ hw119_1)).trans hw119_1), ((HB.out.cell (World.block_lt_of_cell? w _ hw119_2)).trans hw119_2), ((HB.out.cell (World.block_lt_of_cell? w _ hw119_3)).trans hw119_3), ((HB.out.cell (World.block_lt_of_cell? w _ hw119_4)).trans hw119_4)⟩ (fun hHeld => ?_)
              clear hK K
              refine Sk.nm 59 (h := ?_)
              refine Sk.pq 41 60 spec_BookOk.v42 HT_.out (h := ?_)
              refine Sk.pq 42 61 spec_BookOk.v43 HT_.out (h := ?_)
              refine Sk.pq 43 62 spec_BookOk.v44 HT_.out (h := ?_)
              refine Sk.pu 44 63 spec_BookOk.v45 HT_.out (h := ?_)
              refine Sk.pu 45 64 spec_BookOk.v46 HT_.out (h := ?_)
              refine Sk.pu 46 65 spec_BookOk.v47 HT_.out (h := ?_)
              refine Sk.pu 47 66 spec_BookOk.v48 HT_.out (h := ?_)
              refine Sk.pu 48 67 spec_BookOk.v49 HT_.out (h := ?_)
              refine Sk.pu 49 68 spec_BookOk.v50 HT_.out (h := ?_)
              refine Sk.pq 50 69 spec_BookOk.v51 HT_.out (h := ?_)
              refine done_ (done_of HT_.out (by kernel_rfl)) ?_
              try go_wp2
              go_meet
              case rel => exact ⟨_, (true), (by first | rfl | (simp; done) | (simp [*]; done)), H', ⟨by have := HK1.out; first | omega | exact Nat.le_refl _⟩, ⟨by (with_reducible repeat (first | refine blk_drewN ?_ _ | refine blk_drew ?_ | refine blk_alloc ?_ _)); exact BK115.out⟩, ⟨by (with_reducible repeat (first | refine blk_drewN ?_ _ | refine blk_drew ?_ | refine blk_alloc ?_ _)); exact BK117.out⟩, ⟨by repeat (first | (with_reducible first | exact HB.out | apply below_alloc | apply pw_below_drewN | apply below_drew1 | refine below_set ?_ GE115.out | refine below_set ?_ GE117.out) | exact HB.out)⟩⟩
            ·rw [if_neg c21] at H
             have c21b0 : (((rd_T38 l0_0 x3_1).f2).toList == ([] : List UInt8)) = false := beq_eq_false_iff_ne.mpr c21
             have c21b1 : (((rd_T38 l0_0 x3_1).f2).toList != ([] : List UInt8)) = true := bne_iff_ne.mpr c21
             replace H := Option.bind_eq_some_iff.mp H
             obtain ⟨t122, A280, H⟩ := H
             (try dsimp only at H)
             have A28 := Aside0.mk A280
             clear A280
             by_cases c29 : t122 = true
             ·subst c29
              rw [if_pos rfl] at H
              replace H := Option.bind_eq_some_iff.mp H
              obtain ⟨t123, A300, H⟩ := H
              (try dsimp only at H)
              have A30 := Aside0.mk A300
              clear A300
              by_cases c31 : t123 = true
              ·subst c31
               rw [if_pos rfl] at H
               have H' := Aside0.mk H
               clear H
               try go_wp2
               have n0_ : Aside0 ((((((w7.setCell ⟨gb117, 0, none⟩ (.int .i64 ((rd_T38 l0_0 x3_1).f0))).setCell ⟨gb117, 1, none⟩ (.string ((rd_T38 l0_0 x3_1).f1))).setCell ⟨gb117, 2, none⟩ (.string ((rd_T38 l0_0 x3_1).f2))).setCell ⟨gb117, 3, none⟩ (.int .i64 ((rd_T38 l0_0 x3_1).f3))).setCell ⟨gb117, 4, none⟩ (.slice A116_4 ((rd_T38 l0_0 x3_1).f4).length c116_4)).heap[gb115]? = some (.cells #[.slice (some ad116) l0_0.length c0_0, .slice A0_1 l0_1.length c0_1] 30 (0, 0))) := ⟨by (with_reducible repeat (first | refine blk_drewN ?_ _ | refine blk_drew ?_ | refine blk_alloc ?_ _)); refine blk_far ?_ NB115_117.out _; (with_reducible repeat (first | refine blk_drewN ?_ _ | refine blk_drew ?_ | refine blk_alloc ?_ _)); refine blk_far ?_ NB115_117.out _; (with_reducible repeat (first | refine blk_drewN ?_ _ | refine blk_drew ?_ | refine blk_alloc ?_ _)); refine blk_far ?_ NB115_117.out _; (with_reducible repeat (first | refine blk_drewN ?_ _ | refine blk_drew ?_ | refine blk_alloc ?_ _)); refine blk_far ?_ NB115_117.out _; (with_reducible repeat (first | refine blk_drewN ?_ _ | refine blk_drew ?_ | refine blk_alloc ?_ _)); refine blk_far ?_ NB115_117.out _; (with_reducible repeat (first | refine blk_drewN ?_ _ | refine blk_drew ?_ | refine blk_alloc ?_ _)); exact BK115.out⟩
               have n1_ : Aside0 ((((((w7.setCell ⟨gb117, 0, none⟩ (.int .i64 ((rd_T38 l0_0 x3_1).f0))).setCell ⟨gb117, 1, none⟩ (.string ((rd_T38 l0_0 x3_1).f1))).setCell ⟨gb117, 2, none⟩ (.string ((rd_T38 l0_0 x3_1).f2))).setCell ⟨gb117, 3, none⟩ (.int .i64 ((rd_T38 l0_0 x3_1).f3))).setCell ⟨gb117, 4, none⟩ (.slice A116_4 ((rd_T38 l0_0 x3_1).f4).length c116_4)).heap[gb117]? = some (.cells #[.int .i64 ((rd_T38 l0_0 x3_1).f0), .string ((rd_T38 l0_0 x3_1).f1), .string ((rd_T38 l0_0 x3_1).f2), .int .i64 ((rd_T38 l0_0 x3_1).f3), .slice A116_4 ((rd_T38 l0_0 x3_1).f4).length c116_4] 38 (0, 0))) := ⟨by (with_reducible repeat (first | refine blk_drewN ?_ _ | refine blk_drew ?_ | refine blk_alloc ?_ _)); refine blk_put (cs := #[.int .i64 ((rd_T38 l0_0 x3_1).f0), .string ((rd_T38 l0_0 x3_1).f1), .string ((rd_T38 l0_0 x3_1).f2), .int .i64 ((rd_T38 l0_0 x3_1).f3), .slice none 0 0]) ?_ 4 _ rfl; (with_reducible repeat (first | refine blk_drewN ?_ _ | refine blk_drew ?_ | refine blk_alloc ?_ _)); refine blk_put (cs := #[.int .i64 ((rd_T38 l0_0 x3_1).f0), .string ((rd_T38 l0_0 x3_1).f1), .string ((rd_T38 l0_0 x3_1).f2), .int .i64 0, .slice none 0 0]) ?_ 3 _ rfl; (with_reducible repeat (first | refine blk_drewN ?_ _ | refine blk_drew ?_ | refine blk_alloc ?_ _)); refine blk_put (cs := #[.int .i64 ((rd_T38 l0_0 x3_1).f0), .string ((rd_T38 l0_0 x3_1).f1), .string (⟨#[]⟩ : ByteArray), .int .i64 0, .slice none 0 0]) ?_ 2 _ rfl; (with_reducible repeat (first | refine blk_drewN ?_ _ | refine blk_drew ?_ | refine blk_alloc ?_ _)); refine blk_put (cs := #[.int .i64 ((rd_T38 l0_0 x3_1).f0), .string (⟨#[]⟩ : ByteArray), .string (⟨#[]⟩ : ByteArray), .int .i64 0, .slice none 0 0]) ?_ 1 _ rfl; (with_reducible repeat (first | refine blk_drewN ?_ _ | refine blk_drew ?_ | refine blk_alloc ?_ _)); refine blk_put (cs := #[.int .i64 0, .string (⟨#[]⟩ : ByteArray), .string (⟨#[]⟩ : ByteArray), .int .i64 0, .slice none 0 0]) ?_ 0 _ rfl; (with_reducible repeat (first | refine blk_drewN ?_ _ | refine blk_drew ?_ | refine blk_alloc ?_ _)); exact BK117.out⟩
               have n2_ : Aside0 (Below w.heap.size w (((((w7.setCell ⟨gb117, 0, none⟩ (.int .i64 ((rd_T38 l0_0 x3_1).f0))).setCell ⟨gb117, 1, none⟩ (.string ((rd_T38 l0_0 x3_1).f1))).setCell ⟨gb117, 2, none⟩ (.string ((rd_T38 l0_0 x3_1).f2))).setCell ⟨gb117, 3, none⟩ (.int .i64 ((rd_T38 l0_0 x3_1).f3))).setCell ⟨gb117, 4, none⟩ (.slice A116_4 ((rd_T38 l0_0 x3_1).f4).length c116_4))) := ⟨by repeat (first | (with_reducible first | exact HB.out | apply below_alloc | apply pw_below_drewN | apply below_drew1 | refine below_set ?_ GE115.out | refine below_set ?_ GE117.out) | exact HB.out)⟩
               (try clear BK115)
               (try clear BK117)
               (try clear HB)
               generalize (((((w7.setCell ⟨gb117, 0, none⟩ (.int .i64 ((rd_T38 l0_0 x3_1).f0))).setCell ⟨gb117, 1, none⟩ (.string ((rd_T38 l0_0 x3_1).f1))).setCell ⟨gb117, 2, none⟩ (.string ((rd_T38 l0_0 x3_1).f2))).setCell ⟨gb117, 3, none⟩ (.int .i64 ((rd_T38 l0_0 x3_1).f3))).setCell ⟨gb117, 4, none⟩ (.slice A116_4 ((rd_T38 l0_0 x3_1).f4).length c116_4)) = w32 at n0_ n1_ n2_ ⊢
               have BK115 := n0_
               have BK117 := n1_
               have HB := n2_
               clear n0_ n1_ n2_
               have n0_ := Aside0.mk (blk_drew BK115.out)
               have n1_ := Aside0.mk (blk_drew BK117.out)
               have n2_ := Aside0.mk (below_drew1 HB.out)
               clear BK115
               clear BK117
               clear HB
               have BK115 := n0_
               have BK117 := n1_
               have HB := n2_
               clear n0_ n1_ n2_
               have p119 : 0 ≤ ((ji13) : Int) := of_decide_eq_true (by first | (with_reducible assumption) | assumption)
               have q119 : (ji13) < (l0_0.length : Int) := of_decide_eq_true (by first | (with_reducible assumption) | assumption)
               obtain ⟨ad119, A119_4, c119_4, e119, hx119_0, hx119_1, hx119_2, hx119_3, hx119_4, hl119_4, hi119_4⟩ := at_T38 HR0_0.out (ji13) p119 q119
               have hw119_4 := hx119_4
               have hw119_3 := hx119_3
               have hw119_2 := hx119_2
               have hw119_1 := hx119_1
               have hw119_0 := hx119_0
               obtain rfl : ad116 = ad119 := (by injection e119)
               replace hx119_0 := (HB.out.cell (World.block_lt_of_cell? w _ hx119_0)).trans hx119_0
               replace hx119_1 := (HB.out.cell (World.block_lt_of_cell? w _ hx119_1)).trans hx119_1
               replace hx119_2 := (HB.out.cell (World.block_lt_of_cell? w _ hx119_2)).trans hx119_2
               replace hx119_3 := (HB.out.cell (World.block_lt_of_cell? w _ hx119_3)).trans hx119_3
               replace hx119_4 := (HB.out.cell (World.block_lt_of_cell? w _ hx119_4)).trans hx119_4
               have HR119_4 := Aside0.mk hi119_4
               have HC119_4 := Aside0.mk hl119_4
               clear hi119_4 hl119_4
               replace p119 := eq_true p119
               replace q119 := eq_true q119
               refine start_ (n := 51) (S := fun w' => w'.cell? ⟨gb117, 0, none⟩ = some (.int .i64 ((rd_T38 l0_0 x3_1).f0)) ∧ w'.cell? ⟨gb117, 1, none⟩ = some (.string ((rd_T38 l0_0 x3_1).f1)) ∧ w'.cell? ⟨gb117, 2, none⟩ = some (.string ((rd_T38 l0_0 x3_1).f2)) ∧ w'.cell? ⟨gb117, 3, none⟩ = some (.int .i64 ((rd_T38 l0_0 x3_1).f3)) ∧ w'.cell? ⟨gb117, 4, none⟩ = some (.slice A116_4 ((rd_T38 l0_0 x3_1).f4).length c116_4) ∧ w'.cell? ⟨gb115, 0, none⟩ = some (.slice (some ad116) l0_0.length c0_0) ∧ w'.cell? ⟨gb115, 1, none⟩ = some (.slice A0_1 l0_1.length c0_1) ∧ w'.cell? (ad116.add (((ji13)).toNat * 5)) = some (.int .i64 ((rd_T38 l0_0 (ji13)).f0)) ∧ w'.cell? ⟨(ad116.add (((ji13)).toNat * 5)).block, (ad116.add (((ji13)).toNat * 5)).off + 1, none⟩ = some (.string ((rd_T38 l0_0 (ji13)).f1)) ∧ w'.cell? ⟨(ad116.add (((ji13)).toNat * 5)).block, (ad116.add (((ji13)).toNat * 5)).off + 2, none⟩ = some (.string ((rd_T38 l0_0 (ji13)).f2)) ∧ w'.cell? ⟨(ad116.add (((ji13)).toNat * 5)).block, (ad116.add (((ji13)).toNat * 5)).off + 3, none⟩ = some (.int .i64 ((rd_T38 l0_0 (ji13)).f3)) ∧ w'.cell? ⟨(ad116.add (((ji13)).toNat * 5)).block, (ad116.add (((ji13)).toNat * 5)).off + 4, none⟩ = some (.slice A119_4 ((rd_T38 l0_0 (ji13)).f4).length c119_4)) (ds := []) spec_BookOk.v0 (by kernel_rfl) rfl rfl ⟨(blk_cell BK117.out 0).trans rfl, (blk_cell BK117.out 1).trans rfl, (blk_cell BK117.out 2).trans rfl, (blk_cell BK117.out 3).trans rfl, (blk_cell BK117.out 4).trans rfl, (blk_cell BK115.out 0).trans rfl, (blk_cell BK115.out 1).trans rfl, ((HB.out.cell (World.block_lt_of_cell? w _ hw119_0)).trans hw119_0), ((HB.out.cell (World.block_lt_of_cell? w _ hw119_1)).trans hw119_1), ((HB.out.cell (World.block_lt_of_cell? w _ hw119_2)).trans hw119_2), ((HB.out.cell (World.block_lt_of_cell? w _ hw119_3)).trans hw119_3), ((HB.out.cell (World.block_lt_of_cell? w _ hw119_4)).trans hw119_4)⟩ (fun hHeld => ?_); refine with_tabW spec_BookOk.tab5 spec_BookOk.bits5 (fun HT_ HW_ => ?_)
               generalize w32.drew = w33 at BK115 BK117 HB HR119_4 hx119_0 hx119_1 hx119_2 hx119_3 hx119_4 hHeld ⊢
               refine Sk.pq 0 19 spec_BookOk.v1 HT_.out (h := ?_)
               refine Sk.tk12 1 20 spec_BookOk.v2 HT_.out HW_.out hHeld (h := ?_)
               refine one_ (i := 2) (N := some 21) spec_BookOk.v3 rfl rfl (one_of HT_.out (by kernel_rfl)) (by decide) (fun K hK => ?_)
               refine goes_ Try.func11 (by kernel_rfl) rfl #[.int .i64 ((rd_T38 l0_0 x3_1).f0), .int .i64 1, .int .i64 1000000] (by rfl) rfl rfl (by (try simp only [List.map_toArray, List.map_cons, List.map_nil]); first | done | rfl | (simp only [List.length_drop, List.length_take]; rfl)) ?_
               with_reducible refine (spec_l1In.calls ((rd_T38 l0_0 x3_1).f0) 1 1000000 true _ A10.out).mono ?_
               rintro e w' ⟨rfl, ⟨nd, rfl⟩⟩
               refine ⟨_, rfl, ?_⟩
               refine hK.out _ _ ⟨(blk_cell BK117.out 0).trans rfl, (blk_cell BK117.out 1).trans rfl, (blk_cell BK117.out 2).trans rfl, (blk_cell BK117.out 3).trans rfl, (blk_cell BK117.out 4).trans rfl, (blk_cell BK115.out 0).trans rfl, (blk_cell BK115.out 1).trans rfl, ((HB.out.cell (World.block_lt_of_cell? w _ hw119_0)).trans hw119_0), ((HB.out.cell (World.block_lt_of_cell? w _ hw119_1)).trans hw119_1), ((HB.out.cell (World.block_lt_of_cell? w _ hw119_2)).trans hw119_2), ((HB.out.cell (World.block_lt_of_cell? w _ hw119_3)).trans hw119_3), ((HB.out.cell (World.block_lt_of_cell? w _ hw119_4)).trans hw119_4)⟩ (fun hHeld => ?_)
               clear hK K
               refine Sk.nm 21 (h := ?_)
               refine Sk.pq 3 22 spec_BookOk.v4 HT_.out (h := ?_)
               refine Sk.pq 4 23 spec_BookOk.v5 HT_.out (h := ?_)
               refine Sk.pq 5 24 spec_BookOk.v6 HT_.out (h := ?_)
               refine Sk.pq 6 25 spec_BookOk.v7 HT_.out (h := ?_)
               refine Sk.pq 7 26 spec_BookOk.v8 HT_.out (h := ?_)
               refine Sk.pq 8 27 spec_BookOk.v9 HT_.out (h := ?_)
               refine Sk.pq 10 29 spec_BookOk.v10 HT_.out (h := ?_)
               refine Sk.pq 11 30 spec_BookOk.v11 HT_.out (h := ?_)
               refine Sk.pq 15 34 spec_BookOk.v12 HT_.out (h := ?_)
               refine Sk.tk12 9 28 spec_BookOk.v13 HT_.out HW_.out hHeld (h := ?_)
               refine Sk.pq 12 31 spec_BookOk.v14 HT_.out (h := ?_)
               refine Sk.pq 13 32 spec_BookOk.v15 HT_.out (h := ?_)
               refine Sk.tk12 14 33 spec_BookOk.v16 HT_.out HW_.out hHeld (h := ?_)
               refine Sk.tk12 16 35 spec_BookOk.v17 HT_.out HW_.out hHeld (h := ?_)
               refine Sk.pq 17 36 spec_BookOk.v18 HT_.out (h := ?_)
               refine Sk.pq 18 37 spec_BookOk.v19 HT_.out (h := ?_)
               refine Sk.pq 19 38 spec_BookOk.v20 HT_.out (h := ?_)
               refine Sk.pq 20 39 spec_BookOk.v21 HT_.out (h := ?_)
               refine Sk.pq 21 40 spec_BookOk.v22 HT_.out (h := ?_)
               refine Sk.tk12 22 41 spec_BookOk.v23 HT_.out HW_.out hHeld (h := ?_)
               refine one_ (i := 23) (N := some 42) spec_BookOk.v24 rfl rfl (one_of HT_.out (by kernel_rfl)) (by decide) (fun K hK => ?_)
               refine goes_ Try.func12 (by kernel_rfl) rfl #[.string ((rd_T38 l0_0 x3_1).f1)] (by rfl) rfl rfl (by (try simp only [List.map_toArray, List.map_cons, List.map_nil]); first | done | rfl | (simp only [List.length_drop, List.length_take]; rfl)) ?_
               with_reducible refine (spec_l1Name.calls k1 ((rd_T38 l0_0 x3_1).f1) true _ A19.out).mono ?_
               rintro e w' ⟨rfl, ⟨nd, rfl⟩⟩
               refine ⟨_, rfl, ?_⟩
               refine hK.out _ _ ⟨(blk_cell BK117.out 0).trans rfl, (blk_cell BK117.out 1).trans rfl, (blk_cell BK117.out 2).trans rfl, (blk_cell BK117.out 3).trans rfl, (blk_cell BK117.out 4).trans rfl, (blk_cell BK115.out 0).trans rfl, (blk_cell BK115.out 1).trans rfl, ((HB.out.cell (World.block_lt_of_cell? w _ hw119_0)).trans hw119_0), ((HB.out.cell (World.block_lt_of_cell? w _ hw119_1)).trans hw119_1), ((HB.out.cell (World.block_lt_of_cell? w _ hw119_2)).trans hw119_2), ((HB.out.cell (World.block_lt_of_cell? w _ hw119_3)).trans hw119_3), ((HB.out.cell (World.block_lt_of_cell? w _ hw119_4)).trans hw119_4)⟩ (fun hHeld => ?_)
               clear hK K
               refine Sk.nm 42 (h := ?_)
               refine Sk.pq 24 43 spec_BookOk.v25 HT_.out (h := ?_)
               refine Sk.pq 25 44 spec_BookOk.v26 HT_.out (h := ?_)
               refine Sk.pq 26 45 spec_BookOk.v27 HT_.out (h := ?_)
               refine Sk.pq 27 46 spec_BookOk.v28 HT_.out (h := ?_)
               refine Sk.tk12 28 47 spec_BookOk.v29 HT_.out HW_.out hHeld (h := ?_)
               refine Sk.pq 29 48 spec_BookOk.v30 HT_.out (h := ?_)
               refine Sk.pq 30 49 spec_BookOk.v31 HT_.out (h := ?_)
               refine Sk.pq 31 50 spec_BookOk.v32 HT_.out (h := ?_)
               refine Sk.tk12 32 51 spec_BookOk.v33 HT_.out HW_.out hHeld (h := ?_)
               refine one_ (i := 33) (N := some 52) spec_BookOk.v34 rfl rfl (one_of HT_.out (by kernel_rfl)) (by decide) (fun K hK => ?_)
               refine goes_ Try.func12 (by kernel_rfl) rfl #[.string ((rd_T38 l0_0 x3_1).f2)] (by rfl) rfl rfl (by (try simp only [List.map_toArray, List.map_cons, List.map_nil]); first | done | rfl | (simp only [List.length_drop, List.length_take]; rfl)) ?_
               with_reducible refine (spec_l1Name.calls k1 ((rd_T38 l0_0 x3_1).f2) true _ A28.out).mono ?_
               rintro e w' ⟨rfl, ⟨nd, rfl⟩⟩
               refine ⟨_, rfl, ?_⟩
               refine hK.out _ _ ⟨(blk_cell BK117.out 0).trans rfl, (blk_cell BK117.out 1).trans rfl, (blk_cell BK117.out 2).trans rfl, (blk_cell BK117.out 3).trans rfl, (blk_cell BK117.out 4).trans rfl, (blk_cell BK115.out 0).trans rfl, (blk_cell BK115.out 1).trans rfl, ((HB.out.cell (World.block_lt_of_cell? w _ hw119_0)).trans hw119_0), ((HB.out.cell (World.block_lt_of_cell? w _ hw119_1)).trans hw119_1), ((HB.out.cell (World.block_lt_of_cell? w _ hw119_2)).trans hw119_2), ((HB.out.cell (World.block_lt_of_cell? w _ hw119_3)).trans hw119_3), ((HB.out.cell (World.block_lt_of_cell? w _ hw119_4)).trans hw119_4)⟩ (fun hHeld => ?_)
               clear hK K
               refine Sk.nm 52 (h := ?_)
               refine Sk.pq 34 53 spec_BookOk.v35 HT_.out (h := ?_)
               refine Sk.pq 35 54 spec_BookOk.v36 HT_.out (h := ?_)
               refine Sk.pq 36 55 spec_BookOk.v37 HT_.out (h := ?_)
               refine Sk.pq 37 56 spec_BookOk.v38 HT_.out (h := ?_)
               refine Sk.pq 38 57 spec_BookOk.v39 HT_.out (h := ?_)
               refine Sk.tk12 39 58 spec_BookOk.v40 HT_.out HW_.out hHeld (h := ?_)
               refine one_ (i := 40) (N := some 59) spec_BookOk.v41 rfl rfl (one_of HT_.out (by kernel_rfl)) (by decide) (fun K hK => ?_)
               refine goes_ Try.func11 (by kernel_rfl) rfl #[.int .i64 ((rd_T38 l0_0 x3_1).f3), .int .i64 1, .int .i64 5] (by rfl) rfl rfl (by (try simp only [List.map_toArray, List.map_cons, List.map_nil]); first | done | rfl | (simp only [List.length_drop, List.length_take]; rfl)) ?_
               with_reducible refine (spec_l1In.calls ((rd_T38 l0_0 x3_1).f3) 1 5 true _ A30.out).mono ?_
               rintro e w' ⟨rfl, ⟨nd, rfl⟩⟩
               refine ⟨_, rfl, ?_⟩
               refine hK.out _ _ ⟨(blk_cell BK117.out 0).trans rfl, (blk_cell BK117.out 1).trans rfl, (blk_cell BK117.out 2).trans rfl, (blk_cell BK117.out 3).trans rfl, (blk_cell BK117.out 4).trans rfl, (blk_cell BK115.out 0).trans rfl, (blk_cell BK115.out 1).trans rfl, ((HB.out.cell (World.block_lt_of_cell? w _ hw119_0)).trans hw119_0), ((HB.out.cell (World.block_lt_of_cell? w _ hw119_1)).trans hw119_1), ((HB.out.cell (World.block_lt_of_cell? w _ hw119_2)).trans hw119_2), ((HB.out.cell (World.block_lt_of_cell? w _ hw119_3)).trans hw119_3), ((HB.out.cell (World.block_lt_of_cell? w _ hw119_4)).trans hw119_4)⟩ (fun hHeld => ?_)
               clear hK K
               refine Sk.nm 59 (h := ?_)
               refine Sk.pq 41 60 spec_BookOk.v42 HT_.out (h := ?_)
               refine Sk.pq 42 61 spec_BookOk.v43 HT_.out (h := ?_)
               refine Sk.pq 43 62 spec_BookOk.v44 HT_.out (h := ?_)
               refine Sk.pq 44 63 spec_BookOk.v45 HT_.out (h := ?_)
               refine Sk.pq 47 66 spec_BookOk.v52 HT_.out (h := ?_)
               refine Sk.tk12 45 64 spec_BookOk.v53 HT_.out HW_.out hHeld (h := ?_)
               refine Sk.pq 46 65 spec_BookOk.v48 HT_.out (h := ?_)
               refine Sk.tk12 48 67 spec_BookOk.v49 HT_.out HW_.out hHeld (h := ?_)
               refine Sk.pq 49 68 spec_BookOk.v50 HT_.out (h := ?_)
               refine Sk.pq 50 69 spec_BookOk.v51 HT_.out (h := ?_)
               refine done_ (done_of HT_.out (by kernel_rfl)) ?_
               try go_wp2
               go_meet
               case rel => exact ⟨_, (((((rd_T38 l0_0 x3_1).f4).length : Int) != ((rd_T38 l0_0 x3_1).f3))), (by first | rfl | (simp; done) | (simp [*]; done)), H', ⟨by have := HK1.out; first | omega | exact Nat.le_refl _⟩, ⟨by (with_reducible repeat (first | refine blk_drewN ?_ _ | refine blk_drew ?_ | refine blk_alloc ?_ _)); exact BK115.out⟩, ⟨by (with_reducible repeat (first | refine blk_drewN ?_ _ | refine blk_drew ?_ | refine blk_alloc ?_ _)); exact BK117.out⟩, ⟨by repeat (first | (with_reducible first | exact HB.out | apply below_alloc | apply pw_below_drewN | apply below_drew1 | refine below_set ?_ GE115.out | refine below_set ?_ GE117.out) | exact HB.out)⟩⟩
              ·replace c31 := Bool.eq_false_iff.mpr c31
               subst c31
               rw [if_neg (show ¬ (false = true) by decide)] at H
               have H' := Aside0.mk H
               clear H
               try go_wp2
               have n0_ : Aside0 ((((((w7.setCell ⟨gb117, 0, none⟩ (.int .i64 ((rd_T38 l0_0 x3_1).f0))).setCell ⟨gb117, 1, none⟩ (.string ((rd_T38 l0_0 x3_1).f1))).setCell ⟨gb117, 2, none⟩ (.string ((rd_T38 l0_0 x3_1).f2))).setCell ⟨gb117, 3, none⟩ (.int .i64 ((rd_T38 l0_0 x3_1).f3))).setCell ⟨gb117, 4, none⟩ (.slice A116_4 ((rd_T38 l0_0 x3_1).f4).length c116_4)).heap[gb115]? = some (.cells #[.slice (some ad116) l0_0.length c0_0, .slice A0_1 l0_1.length c0_1] 30 (0, 0))) := ⟨by (with_reducible repeat (first | refine blk_drewN ?_ _ | refine blk_drew ?_ | refine blk_alloc ?_ _)); refine blk_far ?_ NB115_117.out _; (with_reducible repeat (first | refine blk_drewN ?_ _ | refine blk_drew ?_ | refine blk_alloc ?_ _)); refine blk_far ?_ NB115_117.out _; (with_reducible repeat (first | refine blk_drewN ?_ _ | refine blk_drew ?_ | refine blk_alloc ?_ _)); refine blk_far ?_ NB115_117.out _; (with_reducible repeat (first | refine blk_drewN ?_ _ | refine blk_drew ?_ | refine blk_alloc ?_ _)); refine blk_far ?_ NB115_117.out _; (with_reducible repeat (first | refine blk_drewN ?_ _ | refine blk_drew ?_ | refine blk_alloc ?_ _)); refine blk_far ?_ NB115_117.out _; (with_reducible repeat (first | refine blk_drewN ?_ _ | refine blk_drew ?_ | refine blk_alloc ?_ _)); exact BK115.out⟩
               have n1_ : Aside0 ((((((w7.setCell ⟨gb117, 0, none⟩ (.int .i64 ((rd_T38 l0_0 x3_1).f0))).setCell ⟨gb117, 1, none⟩ (.string ((rd_T38 l0_0 x3_1).f1))).setCell ⟨gb117, 2, none⟩ (.string ((rd_T38 l0_0 x3_1).f2))).setCell ⟨gb117, 3, none⟩ (.int .i64 ((rd_T38 l0_0 x3_1).f3))).setCell ⟨gb117, 4, none⟩ (.slice A116_4 ((rd_T38 l0_0 x3_1).f4).length c116_4)).heap[gb117]? = some (.cells #[.int .i64 ((rd_T38 l0_0 x3_1).f0), .string ((rd_T38 l0_0 x3_1).f1), .string ((rd_T38 l0_0 x3_1).f2), .int .i64 ((rd_T38 l0_0 x3_1).f3), .slice A116_4 ((rd_T38 l0_0 x3_1).f4).length c116_4] 38 (0, 0))) := ⟨by (with_reducible repeat (first | refine blk_drewN ?_ _ | refine blk_drew ?_ | refine blk_alloc ?_ _)); refine blk_put (cs := #[.int .i64 ((rd_T38 l0_0 x3_1).f0), .string ((rd_T38 l0_0 x3_1).f1), .string ((rd_T38 l0_0 x3_1).f2), .int .i64 ((rd_T38 l0_0 x3_1).f3), .slice none 0 0]) ?_ 4 _ rfl; (with_reducible repeat (first | refine blk_drewN ?_ _ | refine blk_drew ?_ | refine blk_alloc ?_ _)); refine blk_put (cs := #[.int .i64 ((rd_T38 l0_0 x3_1).f0), .string ((rd_T38 l0_0 x3_1).f1), .string ((rd_T38 l0_0 x3_1).f2), .int .i64 0, .slice none 0 0]) ?_ 3 _ rfl; (with_reducible repeat (first | refine blk_drewN ?_ _ | refine blk_drew ?_ | refine blk_alloc ?_ _)); refine blk_put (cs := #[.int .i64 ((rd_T38 l0_0 x3_1).f0), .string ((rd_T38 l0_0 x3_1).f1), .string (⟨#[]⟩ : ByteArray), .int .i64 0, .slice none 0 0]) ?_ 2 _ rfl; (with_reducible repeat (first | refine blk_drewN ?_ _ | refine blk_drew ?_ | refine blk_alloc ?_ _)); refine blk_put (cs := #[.int .i64 ((rd_T38 l0_0 x3_1).f0), .string (⟨#[]⟩ : ByteArray), .string (⟨#[]⟩ : ByteArray), .int .i64 0, .slice none 0 0]) ?_ 1 _ rfl; (with_reducible repeat (first | refine blk_drewN ?_ _ | refine blk_drew ?_ | refine blk_alloc ?_ _)); refine blk_put (cs := #[.int .i64 0, .string (⟨#[]⟩ : ByteArray), .string (⟨#[]⟩ : ByteArray), .int .i64 0, .slice none 0 0]) ?_ 0 _ rfl; (with_reducible repeat (first | refine blk_drewN ?_ _ | refine blk_drew ?_ | refine blk_alloc ?_ _)); exact BK117.out⟩
               have n2_ : Aside0 (Below w.heap.size w (((((w7.setCell ⟨gb117, 0, none⟩ (.int .i64 ((rd_T38 l0_0 x3_1).f0))).setCell ⟨gb117, 1, none⟩ (.string ((rd_T38 l0_0 x3_1).f1))).setCell ⟨gb117, 2, none⟩ (.string ((rd_T38 l0_0 x3_1).f2))).setCell ⟨gb117, 3, none⟩ (.int .i64 ((rd_T38 l0_0 x3_1).f3))).setCell ⟨gb117, 4, none⟩ (.slice A116_4 ((rd_T38 l0_0 x3_1).f4).length c116_4))) := ⟨by repeat (first | (with_reducible first | exact HB.out | apply below_alloc | apply pw_below_drewN | apply below_drew1 | refine below_set ?_ GE115.out | refine below_set ?_ GE117.out) | exact HB.out)⟩
               (try clear BK115)
               (try clear BK117)
               (try clear HB)
               generalize (((((w7.setCell ⟨gb117, 0, none⟩ (.int .i64 ((rd_T38 l0_0 x3_1).f0))).setCell ⟨gb117, 1, none⟩ (.string ((rd_T38 l0_0 x3_1).f1))).setCell ⟨gb117, 2, none⟩ (.string ((rd_T38 l0_0 x3_1).f2))).setCell ⟨gb117, 3, none⟩ (.int .i64 ((rd_T38 l0_0 x3_1).f3))).setCell ⟨gb117, 4, none⟩ (.slice A116_4 ((rd_T38 l0_0 x3_1).f4).length c116_4)) = w34 at n0_ n1_ n2_ ⊢
               have BK115 := n0_
               have BK117 := n1_
               have HB := n2_
               clear n0_ n1_ n2_
               have n0_ := Aside0.mk (blk_drew BK115.out)
               have n1_ := Aside0.mk (blk_drew BK117.out)
               have n2_ := Aside0.mk (below_drew1 HB.out)
               clear BK115
               clear BK117
               clear HB
               have BK115 := n0_
               have BK117 := n1_
               have HB := n2_
               clear n0_ n1_ n2_
               have p119 : 0 ≤ ((ji13) : Int) := of_decide_eq_true (by first | (with_reducible assumption) | assumption)
               have q119 : (ji13) < (l0_0.length : Int) := of_decide_eq_true (by first | (with_reducible assumption) | assumption)
               obtain ⟨ad119, A119_4, c119_4, e119, hx119_0, hx119_1, hx119_2, hx119_3, hx119_4, hl119_4, hi119_4⟩ := at_T38 HR0_0.out (ji13) p119 q119
               have hw119_4 := hx119_4
               have hw119_3 := hx119_3
               have hw119_2 := hx119_2
               have hw119_1 := hx119_1
               have hw119_0 := hx119_0
               obtain rfl : ad116 = ad119 := (by injection e119)
               replace hx119_0 := (HB.out.cell (World.block_lt_of_cell? w _ hx119_0)).trans hx119_0
               replace hx119_1 := (HB.out.cell (World.block_lt_of_cell? w _ hx119_1)).trans hx119_1
               replace hx119_2 := (HB.out.cell (World.block_lt_of_cell? w _ hx119_2)).trans hx119_2
               replace hx119_3 := (HB.out.cell (World.block_lt_of_cell? w _ hx119_3)).trans hx119_3
               replace hx119_4 := (HB.out.cell (World.block_lt_of_cell? w _ hx119_4)).trans hx119_4
               have HR119_4 := Aside0.mk hi119_4
               have HC119_4 := Aside0.mk hl119_4
               clear hi119_4 hl119_4
               replace p119 := eq_true p119
               replace q119 := eq_true q119
               refine start_ (n := 51) (S := fun w' => w'.cell? ⟨gb117, 0, none⟩ = some (.int .i64 ((rd_T38 l0_0 x3_1).f0)) ∧ w'.cell? ⟨gb117, 1, none⟩ = some (.string ((rd_T38 l0_0 x3_1).f1)) ∧ w'.cell? ⟨gb117, 2, none⟩ = some (.string ((rd_T38 l0_0 x3_1).f2)) ∧ w'.cell? ⟨gb117, 3, none⟩ = some (.int .i64 ((rd_T38 l0_0 x3_1).f3)) ∧ w'.cell? ⟨gb117, 4, none⟩ = some (.slice A116_4 ((rd_T38 l0_0 x3_1).f4).length c116_4) ∧ w'.cell? ⟨gb115, 0, none⟩ = some (.slice (some ad116) l0_0.length c0_0) ∧ w'.cell? ⟨gb115, 1, none⟩ = some (.slice A0_1 l0_1.length c0_1) ∧ w'.cell? (ad116.add (((ji13)).toNat * 5)) = some (.int .i64 ((rd_T38 l0_0 (ji13)).f0)) ∧ w'.cell? ⟨(ad116.add (((ji13)).toNat * 5)).block, (ad116.add (((ji13)).toNat * 5)).off + 1, none⟩ = some (.string ((rd_T38 l0_0 (ji13)).f1)) ∧ w'.cell? ⟨(ad116.add (((ji13)).toNat * 5)).block, (ad116.add (((ji13)).toNat * 5)).off + 2, none⟩ = some (.string ((rd_T38 l0_0 (ji13)).f2)) ∧ w'.cell? ⟨(ad116.add (((ji13)).toNat * 5)).block, (ad116.add (((ji13)).toNat * 5)).off + 3, none⟩ = some (.int .i64 ((rd_T38 l0_0 (ji13)).f3)) ∧ w'.cell? ⟨(ad116.add (((ji13)).toNat * 5)).block, (ad116.add (((ji13)).toNat * 5)).off + 4, none⟩ = some (.slice A119_4 ((rd_T38 l0_0 (ji13)).f4).length c119_4)) (ds := []) spec_BookOk.v0 (by kernel_rfl) rfl rfl ⟨(blk_cell BK117.out 0).trans rfl, (blk_cell BK117.out 1).trans rfl, (blk_cell BK117.out 2).trans rfl, (blk_cell BK117.out 3).trans rfl, (blk_cell BK117.out 4).trans rfl, (blk_cell BK115.out 0).trans rfl, (blk_cell BK115.out 1).trans rfl, ((HB.out.cell (World.block_lt_of_cell? w _ hw119_0)).trans hw119_0), ((HB.out.cell (World.block_lt_of_cell? w _ hw119_1)).trans hw119_1), ((HB.out.cell (World.block_lt_of_cell? w _ hw119_2)).trans hw119_2), ((HB.out.cell (World.block_lt_of_cell? w _ hw119_3)).trans hw119_3), ((HB.out.cell (World.block_lt_of_cell? w _ hw119_4)).trans hw119_4)⟩ (fun hHeld => ?_); refine with_tabW spec_BookOk.tab5 spec_BookOk.bits5 (fun HT_ HW_ => ?_)
               generalize w34.drew = w35 at BK115 BK117 HB HR119_4 hx119_0 hx119_1 hx119_2 hx119_3 hx119_4 hHeld ⊢
               refine Sk.pq 0 19 spec_BookOk.v1 HT_.out (h := ?_)
               refine Sk.tk12 1 20 spec_BookOk.v2 HT_.out HW_.out hHeld (h := ?_)
               refine one_ (i := 2) (N := some 21) spec_BookOk.v3 rfl rfl (one_of HT_.out (by kernel_rfl)) (by decide) (fun K hK => ?_)
               refine goes_ Try.func11 (by kernel_rfl) rfl #[.int .i64 ((rd_T38 l0_0 x3_1).f0), .int .i64 1, .int .i64 1000000] (by rfl) rfl rfl (by (try simp only [List.map_toArray, List.map_cons, List.map_nil]); first | done | rfl | (simp only [List.length_drop, List.length_take]; rfl)) ?_
               with_reducible refine (spec_l1In.calls ((rd_T38 l0_0 x3_1).f0) 1 1000000 true _ A10.out).mono ?_
               rintro e w' ⟨rfl, ⟨nd, rfl⟩⟩
               refine ⟨_, rfl, ?_⟩
               refine hK.out _ _ ⟨(blk_cell BK117.out 0).trans rfl, (blk_cell BK117.out 1).trans rfl, (blk_cell BK117.out 2).trans rfl, (blk_cell BK117.out 3).trans rfl, (blk_cell BK117.out 4).trans rfl, (blk_cell BK115.out 0).trans rfl, (blk_cell BK115.out 1).trans rfl, ((HB.out.cell (World.block_lt_of_cell? w _ hw119_0)).trans hw119_0), ((HB.out.cell (World.block_lt_of_cell? w _ hw119_1)).trans hw119_1), ((HB.out.cell (World.block_lt_of_cell? w _ hw119_2)).trans hw119_2), ((HB.out.cell (World.block_lt_of_cell? w _ hw119_3)).trans hw119_3), ((HB.out.cell (World.block_lt_of_cell? w _ hw119_4)).trans hw119_4)⟩ (fun hHeld => ?_)
               clear hK K
               refine Sk.nm 21 (h := ?_)
               refine Sk.pq 3 22 spec_BookOk.v4 HT_.out (h := ?_)
               refine Sk.pq 4 23 spec_BookOk.v5 HT_.out (h := ?_)
               refine Sk.pq 5 24 spec_BookOk.v6 HT_.out (h := ?_)
               refine Sk.pq 6 25 spec_BookOk.v7 HT_.out (h := ?_)
               refine Sk.pq 7 26 spec_BookOk.v8 HT_.out (h := ?_)
               refine Sk.pq 8 27 spec_BookOk.v9 HT_.out (h := ?_)
               refine Sk.pq 10 29 spec_BookOk.v10 HT_.out (h := ?_)
               refine Sk.pq 11 30 spec_BookOk.v11 HT_.out (h := ?_)
               refine Sk.pq 15 34 spec_BookOk.v12 HT_.out (h := ?_)
               refine Sk.tk12 9 28 spec_BookOk.v13 HT_.out HW_.out hHeld (h := ?_)
               refine Sk.pq 12 31 spec_BookOk.v14 HT_.out (h := ?_)
               refine Sk.pq 13 32 spec_BookOk.v15 HT_.out (h := ?_)
               refine Sk.tk12 14 33 spec_BookOk.v16 HT_.out HW_.out hHeld (h := ?_)
               refine Sk.tk12 16 35 spec_BookOk.v17 HT_.out HW_.out hHeld (h := ?_)
               refine Sk.pq 17 36 spec_BookOk.v18 HT_.out (h := ?_)
               refine Sk.pq 18 37 spec_BookOk.v19 HT_.out (h := ?_)
               refine Sk.pq 19 38 spec_BookOk.v20 HT_.out (h := ?_)
               refine Sk.pq 20 39 spec_BookOk.v21 HT_.out (h := ?_)
               refine Sk.pq 21 40 spec_BookOk.v22 HT_.out (h := ?_)
               refine Sk.tk12 22 41 spec_BookOk.v23 HT_.out HW_.out hHeld (h := ?_)
               refine one_ (i := 23) (N := some 42) spec_BookOk.v24 rfl rfl (one_of HT_.out (by kernel_rfl)) (by decide) (fun K hK => ?_)
               refine goes_ Try.func12 (by kernel_rfl) rfl #[.string ((rd_T38 l0_0 x3_1).f1)] (by rfl) rfl rfl (by (try simp only [List.map_toArray, List.map_cons, List.map_nil]); first | done | rfl | (simp only [List.length_drop, List.length_take]; rfl)) ?_
               with_reducible refine (spec_l1Name.calls k1 ((rd_T38 l0_0 x3_1).f1) true _ A19.out).mono ?_
               rintro e w' ⟨rfl, ⟨nd, rfl⟩⟩
               refine ⟨_, rfl, ?_⟩
               refine hK.out _ _ ⟨(blk_cell BK117.out 0).trans rfl, (blk_cell BK117.out 1).trans rfl, (blk_cell BK117.out 2).trans rfl, (blk_cell BK117.out 3).trans rfl, (blk_cell BK117.out 4).trans rfl, (blk_cell BK115.out 0).trans rfl, (blk_cell BK115.out 1).trans rfl, ((HB.out.cell (World.block_lt_of_cell? w _ hw119_0)).trans hw119_0), ((HB.out.cell (World.block_lt_of_cell? w _ hw119_1)).trans hw119_1), ((HB.out.cell (World.block_lt_of_cell? w _ hw119_2)).trans hw119_2), ((HB.out.cell (World.block_lt_of_cell? w _ hw119_3)).trans hw119_3), ((HB.out.cell (World.block_lt_of_cell? w _ hw119_4)).trans hw119_4)⟩ (fun hHeld => ?_)
               clear hK K
               refine Sk.nm 42 (h := ?_)
               refine Sk.pq 24 43 spec_BookOk.v25 HT_.out (h := ?_)
               refine Sk.pq 25 44 spec_BookOk.v26 HT_.out (h := ?_)
               refine Sk.pq 26 45 spec_BookOk.v27 HT_.out (h := ?_)
               refine Sk.pq 27 46 spec_BookOk.v28 HT_.out (h := ?_)
               refine Sk.tk12 28 47 spec_BookOk.v29 HT_.out HW_.out hHeld (h := ?_)
               refine Sk.pq 29 48 spec_BookOk.v30 HT_.out (h := ?_)
               refine Sk.pq 30 49 spec_BookOk.v31 HT_.out (h := ?_)
               refine Sk.pq 31 50 spec_BookOk.v32 HT_.out (h := ?_)
               refine Sk.tk12 32 51 spec_BookOk.v33 HT_.out HW_.out hHeld (h := ?_)
               refine one_ (i := 33) (N := some 52) spec_BookOk.v34 rfl rfl (one_of HT_.out (by kernel_rfl)) (by decide) (fun K hK => ?_)
               refine goes_ Try.func12 (by kernel_rfl) rfl #[.string ((rd_T38 l0_0 x3_1).f2)] (by rfl) rfl rfl (by (try simp only [List.map_toArray, List.map_cons, List.map_nil]); first | done | rfl | (simp only [List.length_drop, List.length_take]; rfl)) ?_
               with_reducible refine (spec_l1Name.calls k1 ((rd_T38 l0_0 x3_1).f2) true _ A28.out).mono ?_
               rintro e w' ⟨rfl, ⟨nd, rfl⟩⟩
               refine ⟨_, rfl, ?_⟩
               refine hK.out _ _ ⟨(blk_cell BK117.out 0).trans rfl, (blk_cell BK117.out 1).trans rfl, (blk_cell BK117.out 2).trans rfl, (blk_cell BK117.out 3).trans rfl, (blk_cell BK117.out 4).trans rfl, (blk_cell BK115.out 0).trans rfl, (blk_cell BK115.out 1).trans rfl, ((HB.out.cell (World.block_lt_of_cell? w _ hw119_0)).trans hw119_0), ((HB.out.cell (World.block_lt_of_cell? w _ hw119_1)).trans hw119_1), ((HB.out.cell (World.block_lt_of_cell? w _ hw119_2)).trans hw119_2), ((HB.out.cell (World.block_lt_of_cell? w _ hw119_3)).trans hw119_3), ((HB.out.cell (World.block_lt_of_cell? w _ hw119_4)).trans hw119_4)⟩ (fun hHeld => ?_)
               clear hK K
               refine Sk.nm 52 (h := ?_)
               refine Sk.pq 34 53 spec_BookOk.v35 HT_.out (h := ?_)
               refine Sk.pq 35 54 spec_BookOk.v36 HT_.out (h := ?_)
               refine Sk.pq 36 55 spec_BookOk.v37 HT_.out (h := ?_)
               refine Sk.pq 37 56 spec_BookOk.v38 HT_.out (h := ?_)
               refine Sk.pq 38 57 spec_BookOk.v39 HT_.out (h := ?_)
               refine Sk.tk12 39 58 spec_BookOk.v40 HT_.out HW_.out hHeld (h := ?_)
               refine one_ (i := 40) (N := some 59) spec_BookOk.v41 rfl rfl (one_of HT_.out (by kernel_rfl)) (by decide) (fun K hK => ?_)
               refine goes_ Try.func11 (by kernel_rfl) rfl #[.int .i64 ((rd_T38 l0_0 x3_1).f3), .int .i64 1, .int .i64 5] (by rfl) rfl rfl (by (try simp only [List.map_toArray, List.map_cons, List.map_nil]); first | done | rfl | (simp only [List.length_drop, List.length_take]; rfl)) ?_
               with_reducible refine (spec_l1In.calls ((rd_T38 l0_0 x3_1).f3) 1 5 false _ A30.out).mono ?_
               rintro e w' ⟨rfl, ⟨nd, rfl⟩⟩
               refine ⟨_, rfl, ?_⟩
               refine hK.out _ _ ⟨(blk_cell BK117.out 0).trans rfl, (blk_cell BK117.out 1).trans rfl, (blk_cell BK117.out 2).trans rfl, (blk_cell BK117.out 3).trans rfl, (blk_cell BK117.out 4).trans rfl, (blk_cell BK115.out 0).trans rfl, (blk_cell BK115.out 1).trans rfl, ((HB.out.cell (World.block_lt_of_cell? w _ hw119_0)).trans hw119_0), ((HB.out.cell (World.block_lt_of_cell? w _ hw119_1)).trans hw119_1), ((HB.out.cell (World.block_lt_of_cell? w _ hw119_2)).trans hw119_2), ((HB.out.cell (World.block_lt_of_cell? w _ hw119_3)).trans hw119_3), ((HB.out.cell (World.block_lt_of_cell? w _ hw119_4)).trans hw119_4)⟩ (fun hHeld => ?_)
               clear hK K
               refine Sk.nm 59 (h := ?_)
               refine Sk.pq 41 60 spec_BookOk.v42 HT_.out (h := ?_)
               refine Sk.pq 42 61 spec_BookOk.v43 HT_.out (h := ?_)
               refine Sk.pq 43 62 spec_BookOk.v44 HT_.out (h := ?_)
               refine Sk.pu 44 63 spec_BookOk.v45 HT_.out (h := ?_)
               refine Sk.pu 45 64 spec_BookOk.v46 HT_.out (h := ?_)
               refine Sk.pu 46 65 spec_BookOk.v47 HT_.out (h := ?_)
               refine Sk.pu 47 66 spec_BookOk.v48 HT_.out (h := ?_)
               refine Sk.pu 48 67 spec_BookOk.v49 HT_.out (h := ?_)
               refine Sk.pu 49 68 spec_BookOk.v50 HT_.out (h := ?_)
               refine Sk.pq 50 69 spec_BookOk.v51 HT_.out (h := ?_)
               refine done_ (done_of HT_.out (by kernel_rfl)) ?_
               try go_wp2
               go_meet
               case rel => exact ⟨_, (true), (by first | rfl | (simp; done) | (simp [*]; done)), H', ⟨by have := HK1.out; first | omega | exact Nat.le_refl _⟩, ⟨by (with_reducible repeat (first | refine blk_drewN ?_ _ | refine blk_drew ?_ | refine blk_alloc ?_ _)); exact BK115.out⟩, ⟨by (with_reducible repeat (first | refine blk_drewN ?_ _ | refine blk_drew ?_ | refine blk_alloc ?_ _)); exact BK117.out⟩, ⟨by repeat (first | (with_reducible first | exact HB.out | apply below_alloc | apply pw_below_drewN | apply below_drew1 | refine below_set ?_ GE115.out | refine below_set ?_ GE117.out) | exact HB.out)⟩⟩
             ·replace c29 := Bool.eq_false_iff.mpr c29
              subst c29
              rw [if_neg (show ¬ (false = true) by decide)] at H
              have H' := Aside0.mk H
              clear H
              try go_wp2
              have n0_ : Aside0 ((((((w7.setCell ⟨gb117, 0, none⟩ (.int .i64 ((rd_T38 l0_0 x3_1).f0))).setCell ⟨gb117, 1, none⟩ (.string ((rd_T38 l0_0 x3_1).f1))).setCell ⟨gb117, 2, none⟩ (.string ((rd_T38 l0_0 x3_1).f2))).setCell ⟨gb117, 3, none⟩ (.int .i64 ((rd_T38 l0_0 x3_1).f3))).setCell ⟨gb117, 4, none⟩ (.slice A116_4 ((rd_T38 l0_0 x3_1).f4).length c116_4)).heap[gb115]? = some (.cells #[.slice (some ad116) l0_0.length c0_0, .slice A0_1 l0_1.length c0_1] 30 (0, 0))) := ⟨by (with_reducible repeat (first | refine blk_drewN ?_ _ | refine blk_drew ?_ | refine blk_alloc ?_ _)); refine blk_far ?_ NB115_117.out _; (with_reducible repeat (first | refine blk_drewN ?_ _ | refine blk_drew ?_ | refine blk_alloc ?_ _)); refine blk_far ?_ NB115_117.out _; (with_reducible repeat (first | refine blk_drewN ?_ _ | refine blk_drew ?_ | refine blk_alloc ?_ _)); refine blk_far ?_ NB115_117.out _; (with_reducible repeat (first | refine blk_drewN ?_ _ | refine blk_drew ?_ | refine blk_alloc ?_ _)); refine blk_far ?_ NB115_117.out _; (with_reducible repeat (first | refine blk_drewN ?_ _ | refine blk_drew ?_ | refine blk_alloc ?_ _)); refine blk_far ?_ NB115_117.out _; (with_reducible repeat (first | refine blk_drewN ?_ _ | refine blk_drew ?_ | refine blk_alloc ?_ _)); exact BK115.out⟩
              have n1_ : Aside0 ((((((w7.setCell ⟨gb117, 0, none⟩ (.int .i64 ((rd_T38 l0_0 x3_1).f0))).setCell ⟨gb117, 1, none⟩ (.string ((rd_T38 l0_0 x3_1).f1))).setCell ⟨gb117, 2, none⟩ (.string ((rd_T38 l0_0 x3_1).f2))).setCell ⟨gb117, 3, none⟩ (.int .i64 ((rd_T38 l0_0 x3_1).f3))).setCell ⟨gb117, 4, none⟩ (.slice A116_4 ((rd_T38 l0_0 x3_1).f4).length c116_4)).heap[gb117]? = some (.cells #[.int .i64 ((rd_T38 l0_0 x3_1).f0), .string ((rd_T38 l0_0 x3_1).f1), .string ((rd_T38 l0_0 x3_1).f2), .int .i64 ((rd_T38 l0_0 x3_1).f3), .slice A116_4 ((rd_T38 l0_0 x3_1).f4).length c116_4] 38 (0, 0))) := ⟨by (with_reducible repeat (first | refine blk_drewN ?_ _ | refine blk_drew ?_ | refine blk_alloc ?_ _)); refine blk_put (cs := #[.int .i64 ((rd_T38 l0_0 x3_1).f0), .string ((rd_T38 l0_0 x3_1).f1), .string ((rd_T38 l0_0 x3_1).f2), .int .i64 ((rd_T38 l0_0 x3_1).f3), .slice none 0 0]) ?_ 4 _ rfl; (with_reducible repeat (first | refine blk_drewN ?_ _ | refine blk_drew ?_ | refine blk_alloc ?_ _)); refine blk_put (cs := #[.int .i64 ((rd_T38 l0_0 x3_1).f0), .string ((rd_T38 l0_0 x3_1).f1), .string ((rd_T38 l0_0 x3_1).f2), .int .i64 0, .slice none 0 0]) ?_ 3 _ rfl; (with_reducible repeat (first | refine blk_drewN ?_ _ | refine blk_drew ?_ | refine blk_alloc ?_ _)); refine blk_put (cs := #[.int .i64 ((rd_T38 l0_0 x3_1).f0), .string ((rd_T38 l0_0 x3_1).f1), .string (⟨#[]⟩ : ByteArray), .int .i64 0, .slice none 0 0]) ?_ 2 _ rfl; (with_reducible repeat (first | refine blk_drewN ?_ _ | refine blk_drew ?_ | refine blk_alloc ?_ _)); refine blk_put (cs := #[.int .i64 ((rd_T38 l0_0 x3_1).f0), .string (⟨#[]⟩ : ByteArray), .string (⟨#[]⟩ : ByteArray), .int .i64 0, .slice none 0 0]) ?_ 1 _ rfl; (with_reducible repeat (first | refine blk_drewN ?_ _ | refine blk_drew ?_ | refine blk_alloc ?_ _)); refine blk_put (cs := #[.int .i64 0, .string (⟨#[]⟩ : ByteArray), .string (⟨#[]⟩ : ByteArray), .int .i64 0, .slice none 0 0]) ?_ 0 _ rfl; (with_reducible repeat (first | refine blk_drewN ?_ _ | refine blk_drew ?_ | refine blk_alloc ?_ _)); exact BK117.out⟩
              have n2_ : Aside0 (Below w.heap.size w (((((w7.setCell ⟨gb117, 0, none⟩ (.int .i64 ((rd_T38 l0_0 x3_1).f0))).setCell ⟨gb117, 1, none⟩ (.string ((rd_T38 l0_0 x3_1).f1))).setCell ⟨gb117, 2, none⟩ (.string ((rd_T38 l0_0 x3_1).f2))).setCell ⟨gb117, 3, none⟩ (.int .i64 ((rd_T38 l0_0 x3_1).f3))).setCell ⟨gb117, 4, none⟩ (.slice A116_4 ((rd_T38 l0_0 x3_1).f4).length c116_4))) := ⟨by repeat (first | (with_reducible first | exact HB.out | apply below_alloc | apply pw_below_drewN | apply below_drew1 | refine below_set ?_ GE115.out | refine below_set ?_ GE117.out) | exact HB.out)⟩
              (try clear BK115)
              (try clear BK117)
              (try clear HB)
              generalize (((((w7.setCell ⟨gb117, 0, none⟩ (.int .i64 ((rd_T38 l0_0 x3_1).f0))).setCell ⟨gb117, 1, none⟩ (.string ((rd_T38 l0_0 x3_1).f1))).setCell ⟨gb117, 2, none⟩ (.string ((rd_T38 l0_0 x3_1).f2))).setCell ⟨gb117, 3, none⟩ (.int .i64 ((rd_T38 l0_0 x3_1).f3))).setCell ⟨gb117, 4, none⟩ (.slice A116_4 ((rd_T38 l0_0 x3_1).f4).length c116_4)) = w36 at n0_ n1_ n2_ ⊢
              have BK115 := n0_
              have BK117 := n1_
              have HB := n2_
              clear n0_ n1_ n2_
              have n0_ := Aside0.mk (blk_drew BK115.out)
              have n1_ := Aside0.mk (blk_drew BK117.out)
              have n2_ := Aside0.mk (below_drew1 HB.out)
              clear BK115
              clear BK117
              clear HB
              have BK115 := n0_
              have BK117 := n1_
              have HB := n2_
              clear n0_ n1_ n2_
              have p119 : 0 ≤ ((ji13) : Int) := of_decide_eq_true (by first | (with_reducible assumption) | assumption)
              have q119 : (ji13) < (l0_0.length : Int) := of_decide_eq_true (by first | (with_reducible assumption) | assumption)
              obtain ⟨ad119, A119_4, c119_4, e119, hx119_0, hx119_1, hx119_2, hx119_3, hx119_4, hl119_4, hi119_4⟩ := at_T38 HR0_0.out (ji13) p119 q119
              have hw119_4 := hx119_4
              have hw119_3 := hx119_3
              have hw119_2 := hx119_2
              have hw119_1 := hx119_1
              have hw119_0 := hx119_0
              obtain rfl : ad116 = ad119 := (by injection e119)
              replace hx119_0 := (HB.out.cell (World.block_lt_of_cell? w _ hx119_0)).trans hx119_0
              replace hx119_1 := (HB.out.cell (World.block_lt_of_cell? w _ hx119_1)).trans hx119_1
              replace hx119_2 := (HB.out.cell (World.block_lt_of_cell? w _ hx119_2)).trans hx119_2
              replace hx119_3 := (HB.out.cell (World.block_lt_of_cell? w _ hx119_3)).trans hx119_3
              replace hx119_4 := (HB.out.cell (World.block_lt_of_cell? w _ hx119_4)).trans hx119_4
              have HR119_4 := Aside0.mk hi119_4
              have HC119_4 := Aside0.mk hl119_4
              clear hi119_4 hl119_4
              replace p119 := eq_true p119
              replace q119 := eq_true q119
              refine start_ (n := 51) (S := fun w' => w'.cell? ⟨gb117, 0, none⟩ = some (.int .i64 ((rd_T38 l0_0 x3_1).f0)) ∧ w'.cell? ⟨gb117, 1, none⟩ = some (.string ((rd_T38 l0_0 x3_1).f1)) ∧ w'.cell? ⟨gb117, 2, none⟩ = some (.string ((rd_T38 l0_0 x3_1).f2)) ∧ w'.cell? ⟨gb117, 3, none⟩ = some (.int .i64 ((rd_T38 l0_0 x3_1).f3)) ∧ w'.cell? ⟨gb117, 4, none⟩ = some (.slice A116_4 ((rd_T38 l0_0 x3_1).f4).length c116_4) ∧ w'.cell? ⟨gb115, 0, none⟩ = some (.slice (some ad116) l0_0.length c0_0) ∧ w'.cell? ⟨gb115, 1, none⟩ = some (.slice A0_1 l0_1.length c0_1) ∧ w'.cell? (ad116.add (((ji13)).toNat * 5)) = some (.int .i64 ((rd_T38 l0_0 (ji13)).f0)) ∧ w'.cell? ⟨(ad116.add (((ji13)).toNat * 5)).block, (ad116.add (((ji13)).toNat * 5)).off + 1, none⟩ = some (.string ((rd_T38 l0_0 (ji13)).f1)) ∧ w'.cell? ⟨(ad116.add (((ji13)).toNat * 5)).block, (ad116.add (((ji13)).toNat * 5)).off + 2, none⟩ = some (.string ((rd_T38 l0_0 (ji13)).f2)) ∧ w'.cell? ⟨(ad116.add (((ji13)).toNat * 5)).block, (ad116.add (((ji13)).toNat * 5)).off + 3, none⟩ = some (.int .i64 ((rd_T38 l0_0 (ji13)).f3)) ∧ w'.cell? ⟨(ad116.add (((ji13)).toNat * 5)).block, (ad116.add (((ji13)).toNat * 5)).off + 4, none⟩ = some (.slice A119_4 ((rd_T38 l0_0 (ji13)).f4).length c119_4)) (ds := []) spec_BookOk.v0 (by kernel_rfl) rfl rfl ⟨(blk_cell BK117.out 0).trans rfl, (blk_cell BK117.out 1).trans rfl, (blk_cell BK117.out 2).trans rfl, (blk_cell BK117.out 3).trans rfl, (blk_cell BK117.out 4).trans rfl, (blk_cell BK115.out 0).trans rfl, (blk_cell BK115.out 1).trans rfl, ((HB.out.cell (World.block_lt_of_cell? w _ hw119_0)).trans hw119_0), ((HB.out.cell (World.block_lt_of_cell? w _ hw119_1)).trans hw119_1), ((HB.out.cell (World.block_lt_of_cell? w _ hw119_2)).trans hw119_2), ((HB.out.cell (World.block_lt_of_cell? w _ hw119_3)).trans hw119_3), ((HB.out.cell (World.block_lt_of_cell? w _ hw119_4)).trans hw119_4)⟩ (fun hHeld => ?_); refine with_tabW spec_BookOk.tab5 spec_BookOk.bits5 (fun HT_ HW_ => ?_)
              generalize w36.drew = w37 at BK115 BK117 HB HR119_4 hx119_0 hx119_1 hx119_2 hx119_3 hx119_4 hHeld ⊢
              refine Sk.pq 0 19 spec_BookOk.v1 HT_.out (h := ?_)
              refine Sk.tk12 1 20 spec_BookOk.v2 HT_.out HW_.out hHeld (h := ?_)
              refine one_ (i := 2) (N := some 21) spec_BookOk.v3 rfl rfl (one_of HT_.out (by kernel_rfl)) (by decide) (fun K hK => ?_)
              refine goes_ Try.func11 (by kernel_rfl) rfl #[.int .i64 ((rd_T38 l0_0 x3_1).f0), .int .i64 1, .int .i64 1000000] (by rfl) rfl rfl (by (try simp only [List.map_toArray, List.map_cons, List.map_nil]); first | done | rfl | (simp only [List.length_drop, List.length_take]; rfl)) ?_
              with_reducible refine (spec_l1In.calls ((rd_T38 l0_0 x3_1).f0) 1 1000000 true _ A10.out).mono ?_
              rintro e w' ⟨rfl, ⟨nd, rfl⟩⟩
              refine ⟨_, rfl, ?_⟩
              refine hK.out _ _ ⟨(blk_cell BK117.out 0).trans rfl, (blk_cell BK117.out 1).trans rfl, (blk_cell BK117.out 2).trans rfl, (blk_cell BK117.out 3).trans rfl, (blk_cell BK117.out 4).trans rfl, (blk_cell BK115.out 0).trans rfl, (blk_cell BK115.out 1).trans rfl, ((HB.out.cell (World.block_lt_of_cell? w _ hw119_0)).trans hw119_0), ((HB.out.cell (World.block_lt_of_cell? w _ hw119_1)).trans hw119_1), ((HB.out.cell (World.block_lt_of_cell? w _ hw119_2)).trans hw119_2), ((HB.out.cell (World.block_lt_of_cell? w _ hw119_3)).trans hw119_3), ((HB.out.cell (World.block_lt_of_cell? w _ hw119_4)).trans hw119_4)⟩ (fun hHeld => ?_)
              clear hK K
              refine Sk.nm 21 (h := ?_)
              refine Sk.pq 3 22 spec_BookOk.v4 HT_.out (h := ?_)
              refine Sk.pq 4 23 spec_BookOk.v5 HT_.out (h := ?_)
              refine Sk.pq 5 24 spec_BookOk.v6 HT_.out (h := ?_)
              refine Sk.pq 6 25 spec_BookOk.v7 HT_.out (h := ?_)
              refine Sk.pq 7 26 spec_BookOk.v8 HT_.out (h := ?_)
              refine Sk.pq 8 27 spec_BookOk.v9 HT_.out (h := ?_)
              refine Sk.pq 10 29 spec_BookOk.v10 HT_.out (h := ?_)
              refine Sk.pq 11 30 spec_BookOk.v11 HT_.out (h := ?_)
              refine Sk.pq 15 34 spec_BookOk.v12 HT_.out (h := ?_)
              refine Sk.tk12 9 28 spec_BookOk.v13 HT_.out HW_.out hHeld (h := ?_)
              refine Sk.pq 12 31 spec_BookOk.v14 HT_.out (h := ?_)
              refine Sk.pq 13 32 spec_BookOk.v15 HT_.out (h := ?_)
              refine Sk.tk12 14 33 spec_BookOk.v16 HT_.out HW_.out hHeld (h := ?_)
              refine Sk.tk12 16 35 spec_BookOk.v17 HT_.out HW_.out hHeld (h := ?_)
              refine Sk.pq 17 36 spec_BookOk.v18 HT_.out (h := ?_)
              refine Sk.pq 18 37 spec_BookOk.v19 HT_.out (h := ?_)
              refine Sk.pq 19 38 spec_BookOk.v20 HT_.out (h := ?_)
              refine Sk.pq 20 39 spec_BookOk.v21 HT_.out (h := ?_)
              refine Sk.pq 21 40 spec_BookOk.v22 HT_.out (h := ?_)
              refine Sk.tk12 22 41 spec_BookOk.v23 HT_.out HW_.out hHeld (h := ?_)
              refine one_ (i := 23) (N := some 42) spec_BookOk.v24 rfl rfl (one_of HT_.out (by kernel_rfl)) (by decide) (fun K hK => ?_)
              refine goes_ Try.func12 (by kernel_rfl) rfl #[.string ((rd_T38 l0_0 x3_1).f1)] (by rfl) rfl rfl (by (try simp only [List.map_toArray, List.map_cons, List.map_nil]); first | done | rfl | (simp only [List.length_drop, List.length_take]; rfl)) ?_
              with_reducible refine (spec_l1Name.calls k1 ((rd_T38 l0_0 x3_1).f1) true _ A19.out).mono ?_
              rintro e w' ⟨rfl, ⟨nd, rfl⟩⟩
              refine ⟨_, rfl, ?_⟩
              refine hK.out _ _ ⟨(blk_cell BK117.out 0).trans rfl, (blk_cell BK117.out 1).trans rfl, (blk_cell BK117.out 2).trans rfl, (blk_cell BK117.out 3).trans rfl, (blk_cell BK117.out 4).trans rfl, (blk_cell BK115.out 0).trans rfl, (blk_cell BK115.out 1).trans rfl, ((HB.out.cell (World.block_lt_of_cell? w _ hw119_0)).trans hw119_0), ((HB.out.cell (World.block_lt_of_cell? w _ hw119_1)).trans hw119_1), ((HB.out.cell (World.block_lt_of_cell? w _ hw119_2)).trans hw119_2), ((HB.out.cell (World.block_lt_of_cell? w _ hw119_3)).trans hw119_3), ((HB.out.cell (World.block_lt_of_cell? w _ hw119_4)).trans hw119_4)⟩ (fun hHeld => ?_)
              clear hK K
              refine Sk.nm 42 (h := ?_)
              refine Sk.pq 24 43 spec_BookOk.v25 HT_.out (h := ?_)
              refine Sk.pq 25 44 spec_BookOk.v26 HT_.out (h := ?_)
              refine Sk.pq 26 45 spec_BookOk.v27 HT_.out (h := ?_)
              refine Sk.pq 27 46 spec_BookOk.v28 HT_.out (h := ?_)
              refine Sk.tk12 28 47 spec_BookOk.v29 HT_.out HW_.out hHeld (h := ?_)
              refine Sk.pq 29 48 spec_BookOk.v30 HT_.out (h := ?_)
              refine Sk.pq 30 49 spec_BookOk.v31 HT_.out (h := ?_)
              refine Sk.pq 31 50 spec_BookOk.v32 HT_.out (h := ?_)
              refine Sk.tk12 32 51 spec_BookOk.v33 HT_.out HW_.out hHeld (h := ?_)
              refine one_ (i := 33) (N := some 52) spec_BookOk.v34 rfl rfl (one_of HT_.out (by kernel_rfl)) (by decide) (fun K hK => ?_)
              refine goes_ Try.func12 (by kernel_rfl) rfl #[.string ((rd_T38 l0_0 x3_1).f2)] (by rfl) rfl rfl (by (try simp only [List.map_toArray, List.map_cons, List.map_nil]); first | done | rfl | (simp only [List.length_drop, List.length_take]; rfl)) ?_
              with_reducible refine (spec_l1Name.calls k1 ((rd_T38 l0_0 x3_1).f2) false _ A28.out).mono ?_
              rintro e w' ⟨rfl, ⟨nd, rfl⟩⟩
              refine ⟨_, rfl, ?_⟩
              refine hK.out _ _ ⟨(blk_cell BK117.out 0).trans rfl, (blk_cell BK117.out 1).trans rfl, (blk_cell BK117.out 2).trans rfl, (blk_cell BK117.out 3).trans rfl, (blk_cell BK117.out 4).trans rfl, (blk_cell BK115.out 0).trans rfl, (blk_cell BK115.out 1).trans rfl, ((HB.out.cell (World.block_lt_of_cell? w _ hw119_0)).trans hw119_0), ((HB.out.cell (World.block_lt_of_cell? w _ hw119_1)).trans hw119_1), ((HB.out.cell (World.block_lt_of_cell? w _ hw119_2)).trans hw119_2), ((HB.out.cell (World.block_lt_of_cell? w _ hw119_3)).trans hw119_3), ((HB.out.cell (World.block_lt_of_cell? w _ hw119_4)).trans hw119_4)⟩ (fun hHeld => ?_)
              clear hK K
              refine Sk.nm 52 (h := ?_)
              refine Sk.pq 34 53 spec_BookOk.v35 HT_.out (h := ?_)
              refine Sk.pq 35 54 spec_BookOk.v36 HT_.out (h := ?_)
              refine Sk.pq 36 55 spec_BookOk.v37 HT_.out (h := ?_)
              refine Sk.pq 37 56 spec_BookOk.v38 HT_.out (h := ?_)
              refine Sk.pu 38 57 spec_BookOk.v39 HT_.out (h := ?_)
              refine Sk.pu 39 58 spec_BookOk.v40 HT_.out (h := ?_)
              refine Sk.pu 40 59 spec_BookOk.v41 HT_.out (h := ?_)
              refine Sk.pu 41 60 spec_BookOk.v42 HT_.out (h := ?_)
              refine Sk.pq 42 61 spec_BookOk.v43 HT_.out (h := ?_)
              refine Sk.pq 43 62 spec_BookOk.v44 HT_.out (h := ?_)
              refine Sk.pu 44 63 spec_BookOk.v45 HT_.out (h := ?_)
              refine Sk.pu 45 64 spec_BookOk.v46 HT_.out (h := ?_)
              refine Sk.pu 46 65 spec_BookOk.v47 HT_.out (h := ?_)
              refine Sk.pu 47 66 spec_BookOk.v48 HT_.out (h := ?_)
              refine Sk.pu 48 67 spec_BookOk.v49 HT_.out (h := ?_)
              refine Sk.pu 49 68 spec_BookOk.v50 HT_.out (h := ?_)
              refine Sk.pq 50 69 spec_BookOk.v51 HT_.out (h := ?_)
              refine done_ (done_of HT_.out (by kernel_rfl)) ?_
              try go_wp2
              go_meet
              case rel => exact ⟨_, (true), (by first | rfl | (simp; done) | (simp [*]; done)), H', ⟨by have := HK1.out; first | omega | exact Nat.le_refl _⟩, ⟨by (with_reducible repeat (first | refine blk_drewN ?_ _ | refine blk_drew ?_ | refine blk_alloc ?_ _)); exact BK115.out⟩, ⟨by (with_reducible repeat (first | refine blk_drewN ?_ _ | refine blk_drew ?_ | refine blk_alloc ?_ _)); exact BK117.out⟩, ⟨by repeat (first | (with_reducible first | exact HB.out | apply below_alloc | apply pw_below_drewN | apply below_drew1 | refine below_set ?_ GE115.out | refine below_set ?_ GE117.out) | exact HB.out)⟩⟩
           ·replace c20 := Bool.eq_false_iff.mpr c20
            subst c20
            rw [if_neg (show ¬ (false = true) by decide)] at H
            have H' := Aside0.mk H
            clear H
            try go_wp2
            have n0_ : Aside0 ((((((w7.setCell ⟨gb117, 0, none⟩ (.int .i64 ((rd_T38 l0_0 x3_1).f0))).setCell ⟨gb117, 1, none⟩ (.string ((rd_T38 l0_0 x3_1).f1))).setCell ⟨gb117, 2, none⟩ (.string ((rd_T38 l0_0 x3_1).f2))).setCell ⟨gb117, 3, none⟩ (.int .i64 ((rd_T38 l0_0 x3_1).f3))).setCell ⟨gb117, 4, none⟩ (.slice A116_4 ((rd_T38 l0_0 x3_1).f4).length c116_4)).heap[gb115]? = some (.cells #[.slice (some ad116) l0_0.length c0_0, .slice A0_1 l0_1.length c0_1] 30 (0, 0))) := ⟨by (with_reducible repeat (first | refine blk_drewN ?_ _ | refine blk_drew ?_ | refine blk_alloc ?_ _)); refine blk_far ?_ NB115_117.out _; (with_reducible repeat (first | refine blk_drewN ?_ _ | refine blk_drew ?_ | refine blk_alloc ?_ _)); refine blk_far ?_ NB115_117.out _; (with_reducible repeat (first | refine blk_drewN ?_ _ | refine blk_drew ?_ | refine blk_alloc ?_ _)); refine blk_far ?_ NB115_117.out _; (with_reducible repeat (first | refine blk_drewN ?_ _ | refine blk_drew ?_ | refine blk_alloc ?_ _)); refine blk_far ?_ NB115_117.out _; (with_reducible repeat (first | refine blk_drewN ?_ _ | refine blk_drew ?_ | refine blk_alloc ?_ _)); refine blk_far ?_ NB115_117.out _; (with_reducible repeat (first | refine blk_drewN ?_ _ | refine blk_drew ?_ | refine blk_alloc ?_ _)); exact BK115.out⟩
            have n1_ : Aside0 ((((((w7.setCell ⟨gb117, 0, none⟩ (.int .i64 ((rd_T38 l0_0 x3_1).f0))).setCell ⟨gb117, 1, none⟩ (.string ((rd_T38 l0_0 x3_1).f1))).setCell ⟨gb117, 2, none⟩ (.string ((rd_T38 l0_0 x3_1).f2))).setCell ⟨gb117, 3, none⟩ (.int .i64 ((rd_T38 l0_0 x3_1).f3))).setCell ⟨gb117, 4, none⟩ (.slice A116_4 ((rd_T38 l0_0 x3_1).f4).length c116_4)).heap[gb117]? = some (.cells #[.int .i64 ((rd_T38 l0_0 x3_1).f0), .string ((rd_T38 l0_0 x3_1).f1), .string ((rd_T38 l0_0 x3_1).f2), .int .i64 ((rd_T38 l0_0 x3_1).f3), .slice A116_4 ((rd_T38 l0_0 x3_1).f4).length c116_4] 38 (0, 0))) := ⟨by (with_reducible repeat (first | refine blk_drewN ?_ _ | refine blk_drew ?_ | refine blk_alloc ?_ _)); refine blk_put (cs := #[.int .i64 ((rd_T38 l0_0 x3_1).f0), .string ((rd_T38 l0_0 x3_1).f1), .string ((rd_T38 l0_0 x3_1).f2), .int .i64 ((rd_T38 l0_0 x3_1).f3), .slice none 0 0]) ?_ 4 _ rfl; (with_reducible repeat (first | refine blk_drewN ?_ _ | refine blk_drew ?_ | refine blk_alloc ?_ _)); refine blk_put (cs := #[.int .i64 ((rd_T38 l0_0 x3_1).f0), .string ((rd_T38 l0_0 x3_1).f1), .string ((rd_T38 l0_0 x3_1).f2), .int .i64 0, .slice none 0 0]) ?_ 3 _ rfl; (with_reducible repeat (first | refine blk_drewN ?_ _ | refine blk_drew ?_ | refine blk_alloc ?_ _)); refine blk_put (cs := #[.int .i64 ((rd_T38 l0_0 x3_1).f0), .string ((rd_T38 l0_0 x3_1).f1), .string (⟨#[]⟩ : ByteArray), .int .i64 0, .slice none 0 0]) ?_ 2 _ rfl; (with_reducible repeat (first | refine blk_drewN ?_ _ | refine blk_drew ?_ | refine blk_alloc ?_ _)); refine blk_put (cs := #[.int .i64 ((rd_T38 l0_0 x3_1).f0), .string (⟨#[]⟩ : ByteArray), .string (⟨#[]⟩ : ByteArray), .int .i64 0, .slice none 0 0]) ?_ 1 _ rfl; (with_reducible repeat (first | refine blk_drewN ?_ _ | refine blk_drew ?_ | refine blk_alloc ?_ _)); refine blk_put (cs := #[.int .i64 0, .string (⟨#[]⟩ : ByteArray), .string (⟨#[]⟩ : ByteArray), .int .i64 0, .slice none 0 0]) ?_ 0 _ rfl; (with_reducible repeat (first | refine blk_drewN ?_ _ | refine blk_drew ?_ | refine blk_alloc ?_ _)); exact BK117.out⟩
            have n2_ : Aside0 (Below w.heap.size w (((((w7.setCell ⟨gb117, 0, none⟩ (.int .i64 ((rd_T38 l0_0 x3_1).f0))).setCell ⟨gb117, 1, none⟩ (.string ((rd_T38 l0_0 x3_1).f1))).setCell ⟨gb117, 2, none⟩ (.string ((rd_T38 l0_0 x3_1).f2))).setCell ⟨gb117, 3, none⟩ (.int .i64 ((rd_T38 l0_0 x3_1).f3))).setCell ⟨gb117, 4, none⟩ (.slice A116_4 ((rd_T38 l0_0 x3_1).f4).length c116_4))) := ⟨by repeat (first | (with_reducible first | exact HB.out | apply below_alloc | apply pw_below_drewN | apply below_drew1 | refine below_set ?_ GE115.out | refine below_set ?_ GE117.out) | exact HB.out)⟩
            (try clear BK115)
            (try clear BK117)
            (try clear HB)
            generalize (((((w7.setCell ⟨gb117, 0, none⟩ (.int .i64 ((rd_T38 l0_0 x3_1).f0))).setCell ⟨gb117, 1, none⟩ (.string ((rd_T38 l0_0 x3_1).f1))).setCell ⟨gb117, 2, none⟩ (.string ((rd_T38 l0_0 x3_1).f2))).setCell ⟨gb117, 3, none⟩ (.int .i64 ((rd_T38 l0_0 x3_1).f3))).setCell ⟨gb117, 4, none⟩ (.slice A116_4 ((rd_T38 l0_0 x3_1).f4).length c116_4)) = w38 at n0_ n1_ n2_ ⊢
            have BK115 := n0_
            have BK117 := n1_
            have HB := n2_
            clear n0_ n1_ n2_
            have n0_ := Aside0.mk (blk_drew BK115.out)
            have n1_ := Aside0.mk (blk_drew BK117.out)
            have n2_ := Aside0.mk (below_drew1 HB.out)
            clear BK115
            clear BK117
            clear HB
            have BK115 := n0_
            have BK117 := n1_
            have HB := n2_
            clear n0_ n1_ n2_
            have p119 : 0 ≤ ((ji13) : Int) := of_decide_eq_true (by first | (with_reducible assumption) | assumption)
            have q119 : (ji13) < (l0_0.length : Int) := of_decide_eq_true (by first | (with_reducible assumption) | assumption)
            obtain ⟨ad119, A119_4, c119_4, e119, hx119_0, hx119_1, hx119_2, hx119_3, hx119_4, hl119_4, hi119_4⟩ := at_T38 HR0_0.out (ji13) p119 q119
            have hw119_4 := hx119_4
            have hw119_3 := hx119_3
            have hw119_2 := hx119_2
            have hw119_1 := hx119_1
            have hw119_0 := hx119_0
            obtain rfl : ad116 = ad119 := (by injection e119)
            replace hx119_0 := (HB.out.cell (World.block_lt_of_cell? w _ hx119_0)).trans hx119_0
            replace hx119_1 := (HB.out.cell (World.block_lt_of_cell? w _ hx119_1)).trans hx119_1
            replace hx119_2 := (HB.out.cell (World.block_lt_of_cell? w _ hx119_2)).trans hx119_2
            replace hx119_3 := (HB.out.cell (World.block_lt_of_cell? w _ hx119_3)).trans hx119_3
            replace hx119_4 := (HB.out.cell (World.block_lt_of_cell? w _ hx119_4)).trans hx119_4
            have HR119_4 := Aside0.mk hi119_4
            have HC119_4 := Aside0.mk hl119_4
            clear hi119_4 hl119_4
            replace p119 := eq_true p119
            replace q119 := eq_true q119
            refine start_ (n := 51) (S := fun w' => w'.cell? ⟨gb117, 0, none⟩ = some (.int .i64 ((rd_T38 l0_0 x3_1).f0)) ∧ w'.cell? ⟨gb117, 1, none⟩ = some (.string ((rd_T38 l0_0 x3_1).f1)) ∧ w'.cell? ⟨gb117, 2, none⟩ = some (.string ((rd_T38 l0_0 x3_1).f2)) ∧ w'.cell? ⟨gb117, 3, none⟩ = some (.int .i64 ((rd_T38 l0_0 x3_1).f3)) ∧ w'.cell? ⟨gb117, 4, none⟩ = some (.slice A116_4 ((rd_T38 l0_0 x3_1).f4).length c116_4) ∧ w'.cell? ⟨gb115, 0, none⟩ = some (.slice (some ad116) l0_0.length c0_0) ∧ w'.cell? ⟨gb115, 1, none⟩ = some (.slice A0_1 l0_1.length c0_1) ∧ w'.cell? (ad116.add (((ji13)).toNat * 5)) = some (.int .i64 ((rd_T38 l0_0 (ji13)).f0)) ∧ w'.cell? ⟨(ad116.add (((ji13)).toNat * 5)).block, (ad116.add (((ji13)).toNat * 5)).off + 1, none⟩ = some (.string ((rd_T38 l0_0 (ji13)).f1)) ∧ w'.cell? ⟨(ad116.add (((ji13)).toNat * 5)).block, (ad116.add (((ji13)).toNat * 5)).off + 2, none⟩ = some (.string ((rd_T38 l0_0 (ji13)).f2)) ∧ w'.cell? ⟨(ad116.add (((ji13)).toNat * 5)).block, (ad116.add (((ji13)).toNat * 5)).off + 3, none⟩ = some (.int .i64 ((rd_T38 l0_0 (ji13)).f3)) ∧ w'.cell? ⟨(ad116.add (((ji13)).toNat * 5)).block, (ad116.add (((ji13)).toNat * 5)).off + 4, none⟩ = some (.slice A119_4 ((rd_T38 l0_0 (ji13)).f4).length c119_4)) (ds := []) spec_BookOk.v0 (by kernel_rfl) rfl rfl ⟨(blk_cell BK117.out 0).trans rfl, (blk_cell BK117.out 1).trans rfl, (blk_cell BK117.out 2).trans rfl, (blk_cell BK117.out 3).trans rfl, (blk_cell BK117.out 4).trans rfl, (blk_cell BK115.out 0).trans rfl, (blk_cell BK115.out 1).trans rfl, ((HB.out.cell (World.block_lt_of_cell? w _ hw119_0)).trans hw119_0), ((HB.out.cell (World.block_lt_of_cell? w _ hw119_1)).trans hw119_1), ((HB.out.cell (World.block_lt_of_cell? w _ hw119_2)).trans hw119_2), ((HB.out.cell (World.block_lt_of_cell? w _ hw119_3)).trans hw119_3), ((HB.out.cell (World.block_lt_of_cell? w _ hw119_4)).trans hw119_4)⟩ (fun hHeld => ?_); refine with_tabW spec_BookOk.tab5 spec_BookOk.bits5 (fun HT_ HW_ => ?_)
            generalize w38.drew = w39 at BK115 BK117 HB HR119_4 hx119_0 hx119_1 hx119_2 hx119_3 hx119_4 hHeld ⊢
            refine Sk.pq 0 19 spec_BookOk.v1 HT_.out (h := ?_)
            refine Sk.tk12 1 20 spec_BookOk.v2 HT_.out HW_.out hHeld (h := ?_)
            refine one_ (i := 2) (N := some 21) spec_BookOk.v3 rfl rfl (one_of HT_.out (by kernel_rfl)) (by decide) (fun K hK => ?_)
            refine goes_ Try.func11 (by kernel_rfl) rfl #[.int .i64 ((rd_T38 l0_0 x3_1).f0), .int .i64 1, .int .i64 1000000] (by rfl) rfl rfl (by (try simp only [List.map_toArray, List.map_cons, List.map_nil]); first | done | rfl | (simp only [List.length_drop, List.length_take]; rfl)) ?_
            with_reducible refine (spec_l1In.calls ((rd_T38 l0_0 x3_1).f0) 1 1000000 true _ A10.out).mono ?_
            rintro e w' ⟨rfl, ⟨nd, rfl⟩⟩
            refine ⟨_, rfl, ?_⟩
            refine hK.out _ _ ⟨(blk_cell BK117.out 0).trans rfl, (blk_cell BK117.out 1).trans rfl, (blk_cell BK117.out 2).trans rfl, (blk_cell BK117.out 3).trans rfl, (blk_cell BK117.out 4).trans rfl, (blk_cell BK115.out 0).trans rfl, (blk_cell BK115.out 1).trans rfl, ((HB.out.cell (World.block_lt_of_cell? w _ hw119_0)).trans hw119_0), ((HB.out.cell (World.block_lt_of_cell? w _ hw119_1)).trans hw119_1), ((HB.out.cell (World.block_lt_of_cell? w _ hw119_2)).trans hw119_2), ((HB.out.cell (World.block_lt_of_cell? w _ hw119_3)).trans hw119_3), ((HB.out.cell (World.block_lt_of_cell? w _ hw119_4)).trans hw119_4)⟩ (fun hHeld => ?_)
            clear hK K
            refine Sk.nm 21 (h := ?_)
            refine Sk.pq 3 22 spec_BookOk.v4 HT_.out (h := ?_)
            refine Sk.pq 4 23 spec_BookOk.v5 HT_.out (h := ?_)
            refine Sk.pq 5 24 spec_BookOk.v6 HT_.out (h := ?_)
            refine Sk.pq 6 25 spec_BookOk.v7 HT_.out (h := ?_)
            refine Sk.pq 7 26 spec_BookOk.v8 HT_.out (h := ?_)
            refine Sk.pq 8 27 spec_BookOk.v9 HT_.out (h := ?_)
            refine Sk.pq 10 29 spec_BookOk.v10 HT_.out (h := ?_)
            refine Sk.pq 11 30 spec_BookOk.v11 HT_.out (h := ?_)
            refine Sk.pq 15 34 spec_BookOk.v12 HT_.out (h := ?_)
            refine Sk.tk12 9 28 spec_BookOk.v13 HT_.out HW_.out hHeld (h := ?_)
            refine Sk.pq 12 31 spec_BookOk.v14 HT_.out (h := ?_)
            refine Sk.pq 13 32 spec_BookOk.v15 HT_.out (h := ?_)
            refine Sk.tk12 14 33 spec_BookOk.v16 HT_.out HW_.out hHeld (h := ?_)
            refine Sk.tk12 16 35 spec_BookOk.v17 HT_.out HW_.out hHeld (h := ?_)
            refine Sk.pq 17 36 spec_BookOk.v18 HT_.out (h := ?_)
            refine Sk.pq 18 37 spec_BookOk.v19 HT_.out (h := ?_)
            refine Sk.pq 19 38 spec_BookOk.v20 HT_.out (h := ?_)
            refine Sk.pq 20 39 spec_BookOk.v21 HT_.out (h := ?_)
            refine Sk.pq 21 40 spec_BookOk.v22 HT_.out (h := ?_)
            refine Sk.tk12 22 41 spec_BookOk.v23 HT_.out HW_.out hHeld (h := ?_)
            refine one_ (i := 23) (N := some 42) spec_BookOk.v24 rfl rfl (one_of HT_.out (by kernel_rfl)) (by decide) (fun K hK => ?_)
            refine goes_ Try.func12 (by kernel_rfl) rfl #[.string ((rd_T38 l0_0 x3_1).f1)] (by rfl) rfl rfl (by (try simp only [List.map_toArray, List.map_cons, List.map_nil]); first | done | rfl | (simp only [List.length_drop, List.length_take]; rfl)) ?_
            with_reducible refine (spec_l1Name.calls k1 ((rd_T38 l0_0 x3_1).f1) false _ A19.out).mono ?_
            rintro e w' ⟨rfl, ⟨nd, rfl⟩⟩
            refine ⟨_, rfl, ?_⟩
            refine hK.out _ _ ⟨(blk_cell BK117.out 0).trans rfl, (blk_cell BK117.out 1).trans rfl, (blk_cell BK117.out 2).trans rfl, (blk_cell BK117.out 3).trans rfl, (blk_cell BK117.out 4).trans rfl, (blk_cell BK115.out 0).trans rfl, (blk_cell BK115.out 1).trans rfl, ((HB.out.cell (World.block_lt_of_cell? w _ hw119_0)).trans hw119_0), ((HB.out.cell (World.block_lt_of_cell? w _ hw119_1)).trans hw119_1), ((HB.out.cell (World.block_lt_of_cell? w _ hw119_2)).trans hw119_2), ((HB.out.cell (World.block_lt_of_cell? w _ hw119_3)).trans hw119_3), ((HB.out.cell (World.block_lt_of_cell? w _ hw119_4)).trans hw119_4)⟩ (fun hHeld => ?_)
            clear hK K
            refine Sk.nm 42 (h := ?_)
            refine Sk.pq 24 43 spec_BookOk.v25 HT_.out (h := ?_)
            refine Sk.pq 25 44 spec_BookOk.v26 HT_.out (h := ?_)
            refine Sk.pq 26 45 spec_BookOk.v27 HT_.out (h := ?_)
            refine Sk.pu 27 46 spec_BookOk.v28 HT_.out (h := ?_)
            refine Sk.pu 28 47 spec_BookOk.v29 HT_.out (h := ?_)
            refine Sk.pu 29 48 spec_BookOk.v30 HT_.out (h := ?_)
            refine Sk.pu 30 49 spec_BookOk.v31 HT_.out (h := ?_)
            refine Sk.pu 31 50 spec_BookOk.v32 HT_.out (h := ?_)
            refine Sk.pu 32 51 spec_BookOk.v33 HT_.out (h := ?_)
            refine Sk.pu 33 52 spec_BookOk.v34 HT_.out (h := ?_)
            refine Sk.pu 34 53 spec_BookOk.v35 HT_.out (h := ?_)
            refine Sk.pu 35 54 spec_BookOk.v36 HT_.out (h := ?_)
            refine Sk.pq 36 55 spec_BookOk.v37 HT_.out (h := ?_)
            refine Sk.pq 37 56 spec_BookOk.v38 HT_.out (h := ?_)
            refine Sk.pu 38 57 spec_BookOk.v39 HT_.out (h := ?_)
            refine Sk.pu 39 58 spec_BookOk.v40 HT_.out (h := ?_)
            refine Sk.pu 40 59 spec_BookOk.v41 HT_.out (h := ?_)
            refine Sk.pu 41 60 spec_BookOk.v42 HT_.out (h := ?_)
            refine Sk.pq 42 61 spec_BookOk.v43 HT_.out (h := ?_)
            refine Sk.pq 43 62 spec_BookOk.v44 HT_.out (h := ?_)
            refine Sk.pu 44 63 spec_BookOk.v45 HT_.out (h := ?_)
            refine Sk.pu 45 64 spec_BookOk.v46 HT_.out (h := ?_)
            refine Sk.pu 46 65 spec_BookOk.v47 HT_.out (h := ?_)
            refine Sk.pu 47 66 spec_BookOk.v48 HT_.out (h := ?_)
            refine Sk.pu 48 67 spec_BookOk.v49 HT_.out (h := ?_)
            refine Sk.pu 49 68 spec_BookOk.v50 HT_.out (h := ?_)
            refine Sk.pq 50 69 spec_BookOk.v51 HT_.out (h := ?_)
            refine done_ (done_of HT_.out (by kernel_rfl)) ?_
            try go_wp2
            go_meet
            case rel => exact ⟨_, (true), (by first | rfl | (simp; done) | (simp [*]; done)), H', ⟨by have := HK1.out; first | omega | exact Nat.le_refl _⟩, ⟨by (with_reducible repeat (first | refine blk_drewN ?_ _ | refine blk_drew ?_ | refine blk_alloc ?_ _)); exact BK115.out⟩, ⟨by (with_reducible repeat (first | refine blk_drewN ?_ _ | refine blk_drew ?_ | refine blk_alloc ?_ _)); exact BK117.out⟩, ⟨by repeat (first | (with_reducible first | exact HB.out | apply below_alloc | apply pw_below_drewN | apply below_drew1 | refine below_set ?_ GE115.out | refine below_set ?_ GE117.out) | exact HB.out)⟩⟩
         ·rw [if_neg c15] at H
          exact absurd H (by simp)
        ·rw [if_neg c14] at H
         exact absurd H (by simp)
       ·rw [if_neg c12] at H
        have c12b0 : decide (0 < x3_1) = false := decide_eq_false c12
        clear c12
        (first | rw [c12b0] | (simp only [i64_w, i32_w]; rw [c12b0]) | skip)
        replace H := Option.bind_eq_some_iff.mp H
        obtain ⟨t124, A400, H⟩ := H
        (try dsimp only at H)
        have A40 := Aside0.mk A400
        clear A400
        by_cases c41 : t124 = true
        ·subst c41
         rw [if_pos rfl] at H
         by_cases c42 : ((rd_T38 l0_0 x3_1).f2).toList = ([] : List UInt8)
         ·rw [if_pos c42] at H
          have c42b0 : (((rd_T38 l0_0 x3_1).f2).toList == ([] : List UInt8)) = true := beq_iff_eq.mpr c42
          have c42b1 : (((rd_T38 l0_0 x3_1).f2).toList != ([] : List UInt8)) = false := bne_eq_false_iff_eq.mpr c42
          clear c42
          replace H := Option.bind_eq_some_iff.mp H
          obtain ⟨t125, A430, H⟩ := H
          (try dsimp only at H)
          have A43 := Aside0.mk A430
          clear A430
          by_cases c44 : t125 = true
          ·subst c44
           rw [if_pos rfl] at H
           have H' := Aside0.mk H
           clear H
           try go_wp2
           have n0_ : Aside0 ((((((w7.setCell ⟨gb117, 0, none⟩ (.int .i64 ((rd_T38 l0_0 x3_1).f0))).setCell ⟨gb117, 1, none⟩ (.string ((rd_T38 l0_0 x3_1).f1))).setCell ⟨gb117, 2, none⟩ (.string ((rd_T38 l0_0 x3_1).f2))).setCell ⟨gb117, 3, none⟩ (.int .i64 ((rd_T38 l0_0 x3_1).f3))).setCell ⟨gb117, 4, none⟩ (.slice A116_4 ((rd_T38 l0_0 x3_1).f4).length c116_4)).heap[gb115]? = some (.cells #[.slice (some ad116) l0_0.length c0_0, .slice A0_1 l0_1.length c0_1] 30 (0, 0))) := ⟨by (with_reducible repeat (first | refine blk_drewN ?_ _ | refine blk_drew ?_ | refine blk_alloc ?_ _)); refine blk_far ?_ NB115_117.out _; (with_reducible repeat (first | refine blk_drewN ?_ _ | refine blk_drew ?_ | refine blk_alloc ?_ _)); refine blk_far ?_ NB115_117.out _; (with_reducible repeat (first | refine blk_drewN ?_ _ | refine blk_drew ?_ | refine blk_alloc ?_ _)); refine blk_far ?_ NB115_117.out _; (with_reducible repeat (first | refine blk_drewN ?_ _ | refine blk_drew ?_ | refine blk_alloc ?_ _)); refine blk_far ?_ NB115_117.out _; (with_reducible repeat (first | refine blk_drewN ?_ _ | refine blk_drew ?_ | refine blk_alloc ?_ _)); refine blk_far ?_ NB115_117.out _; (with_reducible repeat (first | refine blk_drewN ?_ _ | refine blk_drew ?_ | refine blk_alloc ?_ _)); exact BK115.out⟩
           have n1_ : Aside0 ((((((w7.setCell ⟨gb117, 0, none⟩ (.int .i64 ((rd_T38 l0_0 x3_1).f0))).setCell ⟨gb117, 1, none⟩ (.string ((rd_T38 l0_0 x3_1).f1))).setCell ⟨gb117, 2, none⟩ (.string ((rd_T38 l0_0 x3_1).f2))).setCell ⟨gb117, 3, none⟩ (.int .i64 ((rd_T38 l0_0 x3_1).f3))).setCell ⟨gb117, 4, none⟩ (.slice A116_4 ((rd_T38 l0_0 x3_1).f4).length c116_4)).heap[gb117]? = some (.cells #[.int .i64 ((rd_T38 l0_0 x3_1).f0), .string ((rd_T38 l0_0 x3_1).f1), .string ((rd_T38 l0_0 x3_1).f2), .int .i64 ((rd_T38 l0_0 x3_1).f3), .slice A116_4 ((rd_T38 l0_0 x3_1).f4).length c116_4] 38 (0, 0))) := ⟨by (with_reducible repeat (first | refine blk_drewN ?_ _ | refine blk_drew ?_ | refine blk_alloc ?_ _)); refine blk_put (cs := #[.int .i64 ((rd_T38 l0_0 x3_1).f0), .string ((rd_T38 l0_0 x3_1).f1), .string ((rd_T38 l0_0 x3_1).f2), .int .i64 ((rd_T38 l0_0 x3_1).f3), .slice none 0 0]) ?_ 4 _ rfl; (with_reducible repeat (first | refine blk_drewN ?_ _ | refine blk_drew ?_ | refine blk_alloc ?_ _)); refine blk_put (cs := #[.int .i64 ((rd_T38 l0_0 x3_1).f0), .string ((rd_T38 l0_0 x3_1).f1), .string ((rd_T38 l0_0 x3_1).f2), .int .i64 0, .slice none 0 0]) ?_ 3 _ rfl; (with_reducible repeat (first | refine blk_drewN ?_ _ | refine blk_drew ?_ | refine blk_alloc ?_ _)); refine blk_put (cs := #[.int .i64 ((rd_T38 l0_0 x3_1).f0), .string ((rd_T38 l0_0 x3_1).f1), .string (⟨#[]⟩ : ByteArray), .int .i64 0, .slice none 0 0]) ?_ 2 _ rfl; (with_reducible repeat (first | refine blk_drewN ?_ _ | refine blk_drew ?_ | refine blk_alloc ?_ _)); refine blk_put (cs := #[.int .i64 ((rd_T38 l0_0 x3_1).f0), .string (⟨#[]⟩ : ByteArray), .string (⟨#[]⟩ : ByteArray), .int .i64 0, .slice none 0 0]) ?_ 1 _ rfl; (with_reducible repeat (first | refine blk_drewN ?_ _ | refine blk_drew ?_ | refine blk_alloc ?_ _)); refine blk_put (cs := #[.int .i64 0, .string (⟨#[]⟩ : ByteArray), .string (⟨#[]⟩ : ByteArray), .int .i64 0, .slice none 0 0]) ?_ 0 _ rfl; (with_reducible repeat (first | refine blk_drewN ?_ _ | refine blk_drew ?_ | refine blk_alloc ?_ _)); exact BK117.out⟩
           have n2_ : Aside0 (Below w.heap.size w (((((w7.setCell ⟨gb117, 0, none⟩ (.int .i64 ((rd_T38 l0_0 x3_1).f0))).setCell ⟨gb117, 1, none⟩ (.string ((rd_T38 l0_0 x3_1).f1))).setCell ⟨gb117, 2, none⟩ (.string ((rd_T38 l0_0 x3_1).f2))).setCell ⟨gb117, 3, none⟩ (.int .i64 ((rd_T38 l0_0 x3_1).f3))).setCell ⟨gb117, 4, none⟩ (.slice A116_4 ((rd_T38 l0_0 x3_1).f4).length c116_4))) := ⟨by repeat (first | (with_reducible first | exact HB.out | apply below_alloc | apply pw_below_drewN | apply below_drew1 | refine below_set ?_ GE115.out | refine below_set ?_ GE117.out) | exact HB.out)⟩
           (try clear BK115)
           (try clear BK117)
           (try clear HB)
           generalize (((((w7.setCell ⟨gb117, 0, none⟩ (.int .i64 ((rd_T38 l0_0 x3_1).f0))).setCell ⟨gb117, 1, none⟩ (.string ((rd_T38 l0_0 x3_1).f1))).setCell ⟨gb117, 2, none⟩ (.string ((rd_T38 l0_0 x3_1).f2))).setCell ⟨gb117, 3, none⟩ (.int .i64 ((rd_T38 l0_0 x3_1).f3))).setCell ⟨gb117, 4, none⟩ (.slice A116_4 ((rd_T38 l0_0 x3_1).f4).length c116_4)) = w45 at n0_ n1_ n2_ ⊢
           have BK115 := n0_
           have BK117 := n1_
           have HB := n2_
           clear n0_ n1_ n2_
           have n0_ := Aside0.mk (blk_drew BK115.out)
           have n1_ := Aside0.mk (blk_drew BK117.out)
           have n2_ := Aside0.mk (below_drew1 HB.out)
           clear BK115
           clear BK117
           clear HB
           have BK115 := n0_
           have BK117 := n1_
           have HB := n2_
           clear n0_ n1_ n2_
           refine start_ (n := 51) (S := fun w' => w'.cell? ⟨gb117, 0, none⟩ = some (.int .i64 ((rd_T38 l0_0 x3_1).f0)) ∧ w'.cell? ⟨gb117, 1, none⟩ = some (.string ((rd_T38 l0_0 x3_1).f1)) ∧ w'.cell? ⟨gb117, 2, none⟩ = some (.string ((rd_T38 l0_0 x3_1).f2)) ∧ w'.cell? ⟨gb117, 3, none⟩ = some (.int .i64 ((rd_T38 l0_0 x3_1).f3)) ∧ w'.cell? ⟨gb117, 4, none⟩ = some (.slice A116_4 ((rd_T38 l0_0 x3_1).f4).length c116_4)) (ds := []) spec_BookOk.v0 (by kernel_rfl) rfl rfl ⟨(blk_cell BK117.out 0).trans rfl, (blk_cell BK117.out 1).trans rfl, (blk_cell BK117.out 2).trans rfl, (blk_cell BK117.out 3).trans rfl, (blk_cell BK117.out 4).trans rfl⟩ (fun hHeld => ?_); refine with_tabW spec_BookOk.tab5 spec_BookOk.bits5 (fun HT_ HW_ => ?_)
           generalize w45.drew = w46 at BK115 BK117 HB hHeld ⊢
           refine Sk.pq 0 19 spec_BookOk.v1 HT_.out (h := ?_)
           refine Sk.tk5 1 20 spec_BookOk.v2 HT_.out HW_.out hHeld (h := ?_)
           refine one_ (i := 2) (N := some 21) spec_BookOk.v3 rfl rfl (one_of HT_.out (by kernel_rfl)) (by decide) (fun K hK => ?_)
           refine goes_ Try.func11 (by kernel_rfl) rfl #[.int .i64 ((rd_T38 l0_0 x3_1).f0), .int .i64 1, .int .i64 1000000] (by rfl) rfl rfl (by (try simp only [List.map_toArray, List.map_cons, List.map_nil]); first | done | rfl | (simp only [List.length_drop, List.length_take]; rfl)) ?_
           with_reducible refine (spec_l1In.calls ((rd_T38 l0_0 x3_1).f0) 1 1000000 true _ A10.out).mono ?_
           rintro e w' ⟨rfl, ⟨nd, rfl⟩⟩
           refine ⟨_, rfl, ?_⟩
           refine hK.out _ _ ⟨(blk_cell BK117.out 0).trans rfl, (blk_cell BK117.out 1).trans rfl, (blk_cell BK117.out 2).trans rfl, (blk_cell BK117.out 3).trans rfl, (blk_cell BK117.out 4).trans rfl⟩ (fun hHeld => ?_)
           clear hK K
           refine Sk.nm 21 (h := ?_)
           refine Sk.pq 3 22 spec_BookOk.v4 HT_.out (h := ?_)
           refine Sk.pq 4 23 spec_BookOk.v5 HT_.out (h := ?_)
           refine Sk.pq 5 24 spec_BookOk.v6 HT_.out (h := ?_)
           refine Sk.pq 6 25 spec_BookOk.v7 HT_.out (h := ?_)
           refine Sk.pq 7 26 spec_BookOk.v8 HT_.out (h := ?_)
           refine Sk.pu 8 27 spec_BookOk.v9 HT_.out (h := ?_)
           refine Sk.pu 9 28 spec_BookOk.v54 HT_.out (h := ?_)
           refine Sk.pu 10 29 spec_BookOk.v55 HT_.out (h := ?_)
           refine Sk.pu 11 30 spec_BookOk.v56 HT_.out (h := ?_)
           refine Sk.pu 12 31 spec_BookOk.v57 HT_.out (h := ?_)
           refine Sk.pu 13 32 spec_BookOk.v58 HT_.out (h := ?_)
           refine Sk.pu 14 33 spec_BookOk.v59 HT_.out (h := ?_)
           refine Sk.pu 15 34 spec_BookOk.v16 HT_.out (h := ?_)
           refine Sk.pu 16 35 spec_BookOk.v17 HT_.out (h := ?_)
           refine Sk.pu 17 36 spec_BookOk.v18 HT_.out (h := ?_)
           refine Sk.pq 18 37 spec_BookOk.v19 HT_.out (h := ?_)
           refine Sk.pq 19 38 spec_BookOk.v20 HT_.out (h := ?_)
           refine Sk.pq 20 39 spec_BookOk.v21 HT_.out (h := ?_)
           refine Sk.pq 21 40 spec_BookOk.v22 HT_.out (h := ?_)
           refine Sk.tk5 22 41 spec_BookOk.v23 HT_.out HW_.out hHeld (h := ?_)
           refine one_ (i := 23) (N := some 42) spec_BookOk.v24 rfl rfl (one_of HT_.out (by kernel_rfl)) (by decide) (fun K hK => ?_)
           refine goes_ Try.func12 (by kernel_rfl) rfl #[.string ((rd_T38 l0_0 x3_1).f1)] (by rfl) rfl rfl (by (try simp only [List.map_toArray, List.map_cons, List.map_nil]); first | done | rfl | (simp only [List.length_drop, List.length_take]; rfl)) ?_
           with_reducible refine (spec_l1Name.calls k1 ((rd_T38 l0_0 x3_1).f1) true _ A40.out).mono ?_
           rintro e w' ⟨rfl, ⟨nd, rfl⟩⟩
           refine ⟨_, rfl, ?_⟩
           refine hK.out _ _ ⟨(blk_cell BK117.out 0).trans rfl, (blk_cell BK117.out 1).trans rfl, (blk_cell BK117.out 2).trans rfl, (blk_cell BK117.out 3).trans rfl, (blk_cell BK117.out 4).trans rfl⟩ (fun hHeld => ?_)
           clear hK K
           refine Sk.nm 42 (h := ?_)
           refine Sk.pq 24 43 spec_BookOk.v25 HT_.out (h := ?_)
           refine Sk.pq 25 44 spec_BookOk.v26 HT_.out (h := ?_)
           refine Sk.pq 26 45 spec_BookOk.v27 HT_.out (h := ?_)
           refine Sk.pq 27 46 spec_BookOk.v28 HT_.out (h := ?_)
           refine Sk.tk5 28 47 spec_BookOk.v29 HT_.out HW_.out hHeld (h := ?_)
           refine Sk.pq 29 48 spec_BookOk.v30 HT_.out (h := ?_)
           refine Sk.pq 30 49 spec_BookOk.v31 HT_.out (h := ?_)
           refine Sk.pu 31 50 spec_BookOk.v32 HT_.out (h := ?_)
           refine Sk.pu 32 51 spec_BookOk.v33 HT_.out (h := ?_)
           refine Sk.pu 33 52 spec_BookOk.v34 HT_.out (h := ?_)
           refine Sk.pu 34 53 spec_BookOk.v35 HT_.out (h := ?_)
           refine Sk.pq 35 54 spec_BookOk.v36 HT_.out (h := ?_)
           refine Sk.pq 36 55 spec_BookOk.v37 HT_.out (h := ?_)
           refine Sk.pq 37 56 spec_BookOk.v38 HT_.out (h := ?_)
           refine Sk.pq 38 57 spec_BookOk.v39 HT_.out (h := ?_)
           refine Sk.tk5 39 58 spec_BookOk.v40 HT_.out HW_.out hHeld (h := ?_)
           refine one_ (i := 40) (N := some 59) spec_BookOk.v41 rfl rfl (one_of HT_.out (by kernel_rfl)) (by decide) (fun K hK => ?_)
           refine goes_ Try.func11 (by kernel_rfl) rfl #[.int .i64 ((rd_T38 l0_0 x3_1).f3), .int .i64 1, .int .i64 5] (by rfl) rfl rfl (by (try simp only [List.map_toArray, List.map_cons, List.map_nil]); first | done | rfl | (simp only [List.length_drop, List.length_take]; rfl)) ?_
           with_reducible refine (spec_l1In.calls ((rd_T38 l0_0 x3_1).f3) 1 5 true _ A43.out).mono ?_
           rintro e w' ⟨rfl, ⟨nd, rfl⟩⟩
           refine ⟨_, rfl, ?_⟩
           refine hK.out _ _ ⟨(blk_cell BK117.out 0).trans rfl, (blk_cell BK117.out 1).trans rfl, (blk_cell BK117.out 2).trans rfl, (blk_cell BK117.out 3).trans rfl, (blk_cell BK117.out 4).trans rfl⟩ (fun hHeld => ?_)
           clear hK K
           refine Sk.nm 59 (h := ?_)
           refine Sk.pq 41 60 spec_BookOk.v42 HT_.out (h := ?_)
           refine Sk.pq 42 61 spec_BookOk.v43 HT_.out (h := ?_)
           refine Sk.pq 43 62 spec_BookOk.v44 HT_.out (h := ?_)
           refine Sk.pq 44 63 spec_BookOk.v45 HT_.out (h := ?_)
           refine Sk.pq 47 66 spec_BookOk.v52 HT_.out (h := ?_)
           refine Sk.tk5 45 64 spec_BookOk.v53 HT_.out HW_.out hHeld (h := ?_)
           refine Sk.pq 46 65 spec_BookOk.v48 HT_.out (h := ?_)
           refine Sk.tk5 48 67 spec_BookOk.v49 HT_.out HW_.out hHeld (h := ?_)
           refine Sk.pq 49 68 spec_BookOk.v50 HT_.out (h := ?_)
           refine Sk.pq 50 69 spec_BookOk.v51 HT_.out (h := ?_)
           refine done_ (done_of HT_.out (by kernel_rfl)) ?_
           try go_wp2
           go_meet
           case rel => exact ⟨_, (((((rd_T38 l0_0 x3_1).f4).length : Int) != ((rd_T38 l0_0 x3_1).f3))), (by first | rfl | (simp; done) | (simp [*]; done)), H', ⟨by have := HK1.out; first | omega | exact Nat.le_refl _⟩, ⟨by (with_reducible repeat (first | refine blk_drewN ?_ _ | refine blk_drew ?_ | refine blk_alloc ?_ _)); exact BK115.out⟩, ⟨by (with_reducible repeat (first | refine blk_drewN ?_ _ | refine blk_drew ?_ | refine blk_alloc ?_ _)); exact BK117.out⟩, ⟨by repeat (first | (with_reducible first | exact HB.out | apply below_alloc | apply pw_below_drewN | apply below_drew1 | refine below_set ?_ GE115.out | refine below_set ?_ GE117.out) | exact HB.out)⟩⟩
          ·replace c44 := Bool.eq_false_iff.mpr c44
           subst c44
           rw [if_neg (show ¬ (false = true) by decide)] at H
           have H' := Aside0.mk H
           clear H
           try go_wp2
           have n0_ : Aside0 ((((((w7.setCell ⟨gb117, 0, none⟩ (.int .i64 ((rd_T38 l0_0 x3_1).f0))).setCell ⟨gb117, 1, none⟩ (.string ((rd_T38 l0_0 x3_1).f1))).setCell ⟨gb117, 2, none⟩ (.string ((rd_T38 l0_0 x3_1).f2))).setCell ⟨gb117, 3, none⟩ (.int .i64 ((rd_T38 l0_0 x3_1).f3))).setCell ⟨gb117, 4, none⟩ (.slice A116_4 ((rd_T38 l0_0 x3_1).f4).length c116_4)).heap[gb115]? = some (.cells #[.slice (some ad116) l0_0.length c0_0, .slice A0_1 l0_1.length c0_1] 30 (0, 0))) := ⟨by (with_reducible repeat (first | refine blk_drewN ?_ _ | refine blk_drew ?_ | refine blk_alloc ?_ _)); refine blk_far ?_ NB115_117.out _; (with_reducible repeat (first | refine blk_drewN ?_ _ | refine blk_drew ?_ | refine blk_alloc ?_ _)); refine blk_far ?_ NB115_117.out _; (with_reducible repeat (first | refine blk_drewN ?_ _ | refine blk_drew ?_ | refine blk_alloc ?_ _)); refine blk_far ?_ NB115_117.out _; (with_reducible repeat (first | refine blk_drewN ?_ _ | refine blk_drew ?_ | refine blk_alloc ?_ _)); refine blk_far ?_ NB115_117.out _; (with_reducible repeat (first | refine blk_drewN ?_ _ | refine blk_drew ?_ | refine blk_alloc ?_ _)); refine blk_far ?_ NB115_117.out _; (with_reducible repeat (first | refine blk_drewN ?_ _ | refine blk_drew ?_ | refine blk_alloc ?_ _)); exact BK115.out⟩
           have n1_ : Aside0 ((((((w7.setCell ⟨gb117, 0, none⟩ (.int .i64 ((rd_T38 l0_0 x3_1).f0))).setCell ⟨gb117, 1, none⟩ (.string ((rd_T38 l0_0 x3_1).f1))).setCell ⟨gb117, 2, none⟩ (.string ((rd_T38 l0_0 x3_1).f2))).setCell ⟨gb117, 3, none⟩ (.int .i64 ((rd_T38 l0_0 x3_1).f3))).setCell ⟨gb117, 4, none⟩ (.slice A116_4 ((rd_T38 l0_0 x3_1).f4).length c116_4)).heap[gb117]? = some (.cells #[.int .i64 ((rd_T38 l0_0 x3_1).f0), .string ((rd_T38 l0_0 x3_1).f1), .string ((rd_T38 l0_0 x3_1).f2), .int .i64 ((rd_T38 l0_0 x3_1).f3), .slice A116_4 ((rd_T38 l0_0 x3_1).f4).length c116_4] 38 (0, 0))) := ⟨by (with_reducible repeat (first | refine blk_drewN ?_ _ | refine blk_drew ?_ | refine blk_alloc ?_ _)); refine blk_put (cs := #[.int .i64 ((rd_T38 l0_0 x3_1).f0), .string ((rd_T38 l0_0 x3_1).f1), .string ((rd_T38 l0_0 x3_1).f2), .int .i64 ((rd_T38 l0_0 x3_1).f3), .slice none 0 0]) ?_ 4 _ rfl; (with_reducible repeat (first | refine blk_drewN ?_ _ | refine blk_drew ?_ | refine blk_alloc ?_ _)); refine blk_put (cs := #[.int .i64 ((rd_T38 l0_0 x3_1).f0), .string ((rd_T38 l0_0 x3_1).f1), .string ((rd_T38 l0_0 x3_1).f2), .int .i64 0, .slice none 0 0]) ?_ 3 _ rfl; (with_reducible repeat (first | refine blk_drewN ?_ _ | refine blk_drew ?_ | refine blk_alloc ?_ _)); refine blk_put (cs := #[.int .i64 ((rd_T38 l0_0 x3_1).f0), .string ((rd_T38 l0_0 x3_1).f1), .string (⟨#[]⟩ : ByteArray), .int .i64 0, .slice none 0 0]) ?_ 2 _ rfl; (with_reducible repeat (first | refine blk_drewN ?_ _ | refine blk_drew ?_ | refine blk_alloc ?_ _)); refine blk_put (cs := #[.int .i64 ((rd_T38 l0_0 x3_1).f0), .string (⟨#[]⟩ : ByteArray), .string (⟨#[]⟩ : ByteArray), .int .i64 0, .slice none 0 0]) ?_ 1 _ rfl; (with_reducible repeat (first | refine blk_drewN ?_ _ | refine blk_drew ?_ | refine blk_alloc ?_ _)); refine blk_put (cs := #[.int .i64 0, .string (⟨#[]⟩ : ByteArray), .string (⟨#[]⟩ : ByteArray), .int .i64 0, .slice none 0 0]) ?_ 0 _ rfl; (with_reducible repeat (first | refine blk_drewN ?_ _ | refine blk_drew ?_ | refine blk_alloc ?_ _)); exact BK117.out⟩
           have n2_ : Aside0 (Below w.heap.size w (((((w7.setCell ⟨gb117, 0, none⟩ (.int .i64 ((rd_T38 l0_0 x3_1).f0))).setCell ⟨gb117, 1, none⟩ (.string ((rd_T38 l0_0 x3_1).f1))).setCell ⟨gb117, 2, none⟩ (.string ((rd_T38 l0_0 x3_1).f2))).setCell ⟨gb117, 3, none⟩ (.int .i64 ((rd_T38 l0_0 x3_1).f3))).setCell ⟨gb117, 4, none⟩ (.slice A116_4 ((rd_T38 l0_0 x3_1).f4).length c116_4))) := ⟨by repeat (first | (with_reducible first | exact HB.out | apply below_alloc | apply pw_below_drewN | apply below_drew1 | refine below_set ?_ GE115.out | refine below_set ?_ GE117.out) | exact HB.out)⟩
           (try clear BK115)
           (try clear BK117)
           (try clear HB)
           generalize (((((w7.setCell ⟨gb117, 0, none⟩ (.int .i64 ((rd_T38 l0_0 x3_1).f0))).setCell ⟨gb117, 1, none⟩ (.string ((rd_T38 l0_0 x3_1).f1))).setCell ⟨gb117, 2, none⟩ (.string ((rd_T38 l0_0 x3_1).f2))).setCell ⟨gb117, 3, none⟩ (.int .i64 ((rd_T38 l0_0 x3_1).f3))).setCell ⟨gb117, 4, none⟩ (.slice A116_4 ((rd_T38 l0_0 x3_1).f4).length c116_4)) = w47 at n0_ n1_ n2_ ⊢
           have BK115 := n0_
           have BK117 := n1_
           have HB := n2_
           clear n0_ n1_ n2_
           have n0_ := Aside0.mk (blk_drew BK115.out)
           have n1_ := Aside0.mk (blk_drew BK117.out)
           have n2_ := Aside0.mk (below_drew1 HB.out)
           clear BK115
           clear BK117
           clear HB
           have BK115 := n0_
           have BK117 := n1_
           have HB := n2_
           clear n0_ n1_ n2_
           refine start_ (n := 51) (S := fun w' => w'.cell? ⟨gb117, 0, none⟩ = some (.int .i64 ((rd_T38 l0_0 x3_1).f0)) ∧ w'.cell? ⟨gb117, 1, none⟩ = some (.string ((rd_T38 l0_0 x3_1).f1)) ∧ w'.cell? ⟨gb117, 2, none⟩ = some (.string ((rd_T38 l0_0 x3_1).f2)) ∧ w'.cell? ⟨gb117, 3, none⟩ = some (.int .i64 ((rd_T38 l0_0 x3_1).f3)) ∧ w'.cell? ⟨gb117, 4, none⟩ = some (.slice A116_4 ((rd_T38 l0_0 x3_1).f4).length c116_4)) (ds := []) spec_BookOk.v0 (by kernel_rfl) rfl rfl ⟨(blk_cell BK117.out 0).trans rfl, (blk_cell BK117.out 1).trans rfl, (blk_cell BK117.out 2).trans rfl, (blk_cell BK117.out 3).trans rfl, (blk_cell BK117.out 4).trans rfl⟩ (fun hHeld => ?_); refine with_tabW spec_BookOk.tab5 spec_BookOk.bits5 (fun HT_ HW_ => ?_)
           generalize w47.drew = w48 at BK115 BK117 HB hHeld ⊢
           refine Sk.pq 0 19 spec_BookOk.v1 HT_.out (h := ?_)
           refine Sk.tk5 1 20 spec_BookOk.v2 HT_.out HW_.out hHeld (h := ?_)
           refine one_ (i := 2) (N := some 21) spec_BookOk.v3 rfl rfl (one_of HT_.out (by kernel_rfl)) (by decide) (fun K hK => ?_)
           refine goes_ Try.func11 (by kernel_rfl) rfl #[.int .i64 ((rd_T38 l0_0 x3_1).f0), .int .i64 1, .int .i64 1000000] (by rfl) rfl rfl (by (try simp only [List.map_toArray, List.map_cons, List.map_nil]); first | done | rfl | (simp only [List.length_drop, List.length_take]; rfl)) ?_
           with_reducible refine (spec_l1In.calls ((rd_T38 l0_0 x3_1).f0) 1 1000000 true _ A10.out).mono ?_
           rintro e w' ⟨rfl, ⟨nd, rfl⟩⟩
           refine ⟨_, rfl, ?_⟩
           refine hK.out _ _ ⟨(blk_cell BK117.out 0).trans rfl, (blk_cell BK117.out 1).trans rfl, (blk_cell BK117.out 2).trans rfl, (blk_cell BK117.out 3).trans rfl, (blk_cell BK117.out 4).trans rfl⟩ (fun hHeld => ?_)
           clear hK K
           refine Sk.nm 21 (h := ?_)
           refine Sk.pq 3 22 spec_BookOk.v4 HT_.out (h := ?_)
           refine Sk.pq 4 23 spec_BookOk.v5 HT_.out (h := ?_)
           refine Sk.pq 5 24 spec_BookOk.v6 HT_.out (h := ?_)
           refine Sk.pq 6 25 spec_BookOk.v7 HT_.out (h := ?_)
           refine Sk.pq 7 26 spec_BookOk.v8 HT_.out (h := ?_)
           refine Sk.pu 8 27 spec_BookOk.v9 HT_.out (h := ?_)
           refine Sk.pu 9 28 spec_BookOk.v54 HT_.out (h := ?_)
           refine Sk.pu 10 29 spec_BookOk.v55 HT_.out (h := ?_)
           refine Sk.pu 11 30 spec_BookOk.v56 HT_.out (h := ?_)
           refine Sk.pu 12 31 spec_BookOk.v57 HT_.out (h := ?_)
           refine Sk.pu 13 32 spec_BookOk.v58 HT_.out (h := ?_)
           refine Sk.pu 14 33 spec_BookOk.v59 HT_.out (h := ?_)
           refine Sk.pu 15 34 spec_BookOk.v16 HT_.out (h := ?_)
           refine Sk.pu 16 35 spec_BookOk.v17 HT_.out (h := ?_)
           refine Sk.pu 17 36 spec_BookOk.v18 HT_.out (h := ?_)
           refine Sk.pq 18 37 spec_BookOk.v19 HT_.out (h := ?_)
           refine Sk.pq 19 38 spec_BookOk.v20 HT_.out (h := ?_)
           refine Sk.pq 20 39 spec_BookOk.v21 HT_.out (h := ?_)
           refine Sk.pq 21 40 spec_BookOk.v22 HT_.out (h := ?_)
           refine Sk.tk5 22 41 spec_BookOk.v23 HT_.out HW_.out hHeld (h := ?_)
           refine one_ (i := 23) (N := some 42) spec_BookOk.v24 rfl rfl (one_of HT_.out (by kernel_rfl)) (by decide) (fun K hK => ?_)
           refine goes_ Try.func12 (by kernel_rfl) rfl #[.string ((rd_T38 l0_0 x3_1).f1)] (by rfl) rfl rfl (by (try simp only [List.map_toArray, List.map_cons, List.map_nil]); first | done | rfl | (simp only [List.length_drop, List.length_take]; rfl)) ?_
           with_reducible refine (spec_l1Name.calls k1 ((rd_T38 l0_0 x3_1).f1) true _ A40.out).mono ?_
           rintro e w' ⟨rfl, ⟨nd, rfl⟩⟩
           refine ⟨_, rfl, ?_⟩
           refine hK.out _ _ ⟨(blk_cell BK117.out 0).trans rfl, (blk_cell BK117.out 1).trans rfl, (blk_cell BK117.out 2).trans rfl, (blk_cell BK117.out 3).trans rfl, (blk_cell BK117.out 4).trans rfl⟩ (fun hHeld => ?_)
           clear hK K
           refine Sk.nm 42 (h := ?_)
           refine Sk.pq 24 43 spec_BookOk.v25 HT_.out (h := ?_)
           refine Sk.pq 25 44 spec_BookOk.v26 HT_.out (h := ?_)
           refine Sk.pq 26 45 spec_BookOk.v27 HT_.out (h := ?_)
           refine Sk.pq 27 46 spec_BookOk.v28 HT_.out (h := ?_)
           refine Sk.tk5 28 47 spec_BookOk.v29 HT_.out HW_.out hHeld (h := ?_)
           refine Sk.pq 29 48 spec_BookOk.v30 HT_.out (h := ?_)
           refine Sk.pq 30 49 spec_BookOk.v31 HT_.out (h := ?_)
           refine Sk.pu 31 50 spec_BookOk.v32 HT_.out (h := ?_)
           refine Sk.pu 32 51 spec_BookOk.v33 HT_.out (h := ?_)
           refine Sk.pu 33 52 spec_BookOk.v34 HT_.out (h := ?_)
           refine Sk.pu 34 53 spec_BookOk.v35 HT_.out (h := ?_)
           refine Sk.pq 35 54 spec_BookOk.v36 HT_.out (h := ?_)
           refine Sk.pq 36 55 spec_BookOk.v37 HT_.out (h := ?_)
           refine Sk.pq 37 56 spec_BookOk.v38 HT_.out (h := ?_)
           refine Sk.pq 38 57 spec_BookOk.v39 HT_.out (h := ?_)
           refine Sk.tk5 39 58 spec_BookOk.v40 HT_.out HW_.out hHeld (h := ?_)
           refine one_ (i := 40) (N := some 59) spec_BookOk.v41 rfl rfl (one_of HT_.out (by kernel_rfl)) (by decide) (fun K hK => ?_)
           refine goes_ Try.func11 (by kernel_rfl) rfl #[.int .i64 ((rd_T38 l0_0 x3_1).f3), .int .i64 1, .int .i64 5] (by rfl) rfl rfl (by (try simp only [List.map_toArray, List.map_cons, List.map_nil]); first | done | rfl | (simp only [List.length_drop, List.length_take]; rfl)) ?_
           with_reducible refine (spec_l1In.calls ((rd_T38 l0_0 x3_1).f3) 1 5 false _ A43.out).mono ?_
           rintro e w' ⟨rfl, ⟨nd, rfl⟩⟩
           refine ⟨_, rfl, ?_⟩
           refine hK.out _ _ ⟨(blk_cell BK117.out 0).trans rfl, (blk_cell BK117.out 1).trans rfl, (blk_cell BK117.out 2).trans rfl, (blk_cell BK117.out 3).trans rfl, (blk_cell BK117.out 4).trans rfl⟩ (fun hHeld => ?_)
           clear hK K
           refine Sk.nm 59 (h := ?_)
           refine Sk.pq 41 60 spec_BookOk.v42 HT_.out (h := ?_)
           refine Sk.pq 42 61 spec_BookOk.v43 HT_.out (h := ?_)
           refine Sk.pq 43 62 spec_BookOk.v44 HT_.out (h := ?_)
           refine Sk.pu 44 63 spec_BookOk.v45 HT_.out (h := ?_)
           refine Sk.pu 45 64 spec_BookOk.v46 HT_.out (h := ?_)
           refine Sk.pu 46 65 spec_BookOk.v47 HT_.out (h := ?_)
           refine Sk.pu 47 66 spec_BookOk.v48 HT_.out (h := ?_)
           refine Sk.pu 48 67 spec_BookOk.v49 HT_.out (h := ?_)
           refine Sk.pu 49 68 spec_BookOk.v50 HT_.out (h := ?_)
           refine Sk.pq 50 69 spec_BookOk.v51 HT_.out (h := ?_)
           refine done_ (done_of HT_.out (by kernel_rfl)) ?_
           try go_wp2
           go_meet
           case rel => exact ⟨_, (true), (by first | rfl | (simp; done) | (simp [*]; done)), H', ⟨by have := HK1.out; first | omega | exact Nat.le_refl _⟩, ⟨by (with_reducible repeat (first | refine blk_drewN ?_ _ | refine blk_drew ?_ | refine blk_alloc ?_ _)); exact BK115.out⟩, ⟨by (with_reducible repeat (first | refine blk_drewN ?_ _ | refine blk_drew ?_ | refine blk_alloc ?_ _)); exact BK117.out⟩, ⟨by repeat (first | (with_reducible first | exact HB.out | apply below_alloc | apply pw_below_drewN | apply below_drew1 | refine below_set ?_ GE115.out | refine below_set ?_ GE117.out) | exact HB.out)⟩⟩
         ·rw [if_neg c42] at H
          have c42b0 : (((rd_T38 l0_0 x3_1).f2).toList == ([] : List UInt8)) = false := beq_eq_false_iff_ne.mpr c42
          have c42b1 : (((rd_T38 l0_0 x3_1).f2).toList != ([] : List UInt8)) = true := bne_iff_ne.mpr c42
          replace H := Option.bind_eq_some_iff.mp H
          obtain ⟨t126, A490, H⟩ := H
          (try dsimp only at H)
          have A49 := Aside0.mk A490
          clear A490
          by_cases c50 : t126 = true
          ·subst c50
           rw [if_pos rfl] at H
           replace H := Option.bind_eq_some_iff.mp H
           obtain ⟨t127, A510, H⟩ := H
           (try dsimp only at H)
           have A51 := Aside0.mk A510
           clear A510
           by_cases c52 : t127 = true
           ·subst c52
            rw [if_pos rfl] at H
            have H' := Aside0.mk H
            clear H
            try go_wp2
            have n0_ : Aside0 ((((((w7.setCell ⟨gb117, 0, none⟩ (.int .i64 ((rd_T38 l0_0 x3_1).f0))).setCell ⟨gb117, 1, none⟩ (.string ((rd_T38 l0_0 x3_1).f1))).setCell ⟨gb117, 2, none⟩ (.string ((rd_T38 l0_0 x3_1).f2))).setCell ⟨gb117, 3, none⟩ (.int .i64 ((rd_T38 l0_0 x3_1).f3))).setCell ⟨gb117, 4, none⟩ (.slice A116_4 ((rd_T38 l0_0 x3_1).f4).length c116_4)).heap[gb115]? = some (.cells #[.slice (some ad116) l0_0.length c0_0, .slice A0_1 l0_1.length c0_1] 30 (0, 0))) := ⟨by (with_reducible repeat (first | refine blk_drewN ?_ _ | refine blk_drew ?_ | refine blk_alloc ?_ _)); refine blk_far ?_ NB115_117.out _; (with_reducible repeat (first | refine blk_drewN ?_ _ | refine blk_drew ?_ | refine blk_alloc ?_ _)); refine blk_far ?_ NB115_117.out _; (with_reducible repeat (first | refine blk_drewN ?_ _ | refine blk_drew ?_ | refine blk_alloc ?_ _)); refine blk_far ?_ NB115_117.out _; (with_reducible repeat (first | refine blk_drewN ?_ _ | refine blk_drew ?_ | refine blk_alloc ?_ _)); refine blk_far ?_ NB115_117.out _; (with_reducible repeat (first | refine blk_drewN ?_ _ | refine blk_drew ?_ | refine blk_alloc ?_ _)); refine blk_far ?_ NB115_117.out _; (with_reducible repeat (first | refine blk_drewN ?_ _ | refine blk_drew ?_ | refine blk_alloc ?_ _)); exact BK115.out⟩
            have n1_ : Aside0 ((((((w7.setCell ⟨gb117, 0, none⟩ (.int .i64 ((rd_T38 l0_0 x3_1).f0))).setCell ⟨gb117, 1, none⟩ (.string ((rd_T38 l0_0 x3_1).f1))).setCell ⟨gb117, 2, none⟩ (.string ((rd_T38 l0_0 x3_1).f2))).setCell ⟨gb117, 3, none⟩ (.int .i64 ((rd_T38 l0_0 x3_1).f3))).setCell ⟨gb117, 4, none⟩ (.slice A116_4 ((rd_T38 l0_0 x3_1).f4).length c116_4)).heap[gb117]? = some (.cells #[.int .i64 ((rd_T38 l0_0 x3_1).f0), .string ((rd_T38 l0_0 x3_1).f1), .string ((rd_T38 l0_0 x3_1).f2), .int .i64 ((rd_T38 l0_0 x3_1).f3), .slice A116_4 ((rd_T38 l0_0 x3_1).f4).length c116_4] 38 (0, 0))) := ⟨by (with_reducible repeat (first | refine blk_drewN ?_ _ | refine blk_drew ?_ | refine blk_alloc ?_ _)); refine blk_put (cs := #[.int .i64 ((rd_T38 l0_0 x3_1).f0), .string ((rd_T38 l0_0 x3_1).f1), .string ((rd_T38 l0_0 x3_1).f2), .int .i64 ((rd_T38 l0_0 x3_1).f3), .slice none 0 0]) ?_ 4 _ rfl; (with_reducible repeat (first | refine blk_drewN ?_ _ | refine blk_drew ?_ | refine blk_alloc ?_ _)); refine blk_put (cs := #[.int .i64 ((rd_T38 l0_0 x3_1).f0), .string ((rd_T38 l0_0 x3_1).f1), .string ((rd_T38 l0_0 x3_1).f2), .int .i64 0, .slice none 0 0]) ?_ 3 _ rfl; (with_reducible repeat (first | refine blk_drewN ?_ _ | refine blk_drew ?_ | refine blk_alloc ?_ _)); refine blk_put (cs := #[.int .i64 ((rd_T38 l0_0 x3_1).f0), .string ((rd_T38 l0_0 x3_1).f1), .string (⟨#[]⟩ : ByteArray), .int .i64 0, .slice none 0 0]) ?_ 2 _ rfl; (with_reducible repeat (first | refine blk_drewN ?_ _ | refine blk_drew ?_ | refine blk_alloc ?_ _)); refine blk_put (cs := #[.int .i64 ((rd_T38 l0_0 x3_1).f0), .string (⟨#[]⟩ : ByteArray), .string (⟨#[]⟩ : ByteArray), .int .i64 0, .slice none 0 0]) ?_ 1 _ rfl; (with_reducible repeat (first | refine blk_drewN ?_ _ | refine blk_drew ?_ | refine blk_alloc ?_ _)); refine blk_put (cs := #[.int .i64 0, .string (⟨#[]⟩ : ByteArray), .string (⟨#[]⟩ : ByteArray), .int .i64 0, .slice none 0 0]) ?_ 0 _ rfl; (with_reducible repeat (first | refine blk_drewN ?_ _ | refine blk_drew ?_ | refine blk_alloc ?_ _)); exact BK117.out⟩
            have n2_ : Aside0 (Below w.heap.size w (((((w7.setCell ⟨gb117, 0, none⟩ (.int .i64 ((rd_T38 l0_0 x3_1).f0))).setCell ⟨gb117, 1, none⟩ (.string ((rd_T38 l0_0 x3_1).f1))).setCell ⟨gb117, 2, none⟩ (.string ((rd_T38 l0_0 x3_1).f2))).setCell ⟨gb117, 3, none⟩ (.int .i64 ((rd_T38 l0_0 x3_1).f3))).setCell ⟨gb117, 4, none⟩ (.slice A116_4 ((rd_T38 l0_0 x3_1).f4).length c116_4))) := ⟨by repeat (first | (with_reducible first | exact HB.out | apply below_alloc | apply pw_below_drewN | apply below_drew1 | refine below_set ?_ GE115.out | refine below_set ?_ GE117.out) | exact HB.out)⟩
            (try clear BK115)
            (try clear BK117)
            (try clear HB)
            generalize (((((w7.setCell ⟨gb117, 0, none⟩ (.int .i64 ((rd_T38 l0_0 x3_1).f0))).setCell ⟨gb117, 1, none⟩ (.string ((rd_T38 l0_0 x3_1).f1))).setCell ⟨gb117, 2, none⟩ (.string ((rd_T38 l0_0 x3_1).f2))).setCell ⟨gb117, 3, none⟩ (.int .i64 ((rd_T38 l0_0 x3_1).f3))).setCell ⟨gb117, 4, none⟩ (.slice A116_4 ((rd_T38 l0_0 x3_1).f4).length c116_4)) = w53 at n0_ n1_ n2_ ⊢
            have BK115 := n0_
            have BK117 := n1_
            have HB := n2_
            clear n0_ n1_ n2_
            have n0_ := Aside0.mk (blk_drew BK115.out)
            have n1_ := Aside0.mk (blk_drew BK117.out)
            have n2_ := Aside0.mk (below_drew1 HB.out)
            clear BK115
            clear BK117
            clear HB
            have BK115 := n0_
            have BK117 := n1_
            have HB := n2_
            clear n0_ n1_ n2_
            refine start_ (n := 51) (S := fun w' => w'.cell? ⟨gb117, 0, none⟩ = some (.int .i64 ((rd_T38 l0_0 x3_1).f0)) ∧ w'.cell? ⟨gb117, 1, none⟩ = some (.string ((rd_T38 l0_0 x3_1).f1)) ∧ w'.cell? ⟨gb117, 2, none⟩ = some (.string ((rd_T38 l0_0 x3_1).f2)) ∧ w'.cell? ⟨gb117, 3, none⟩ = some (.int .i64 ((rd_T38 l0_0 x3_1).f3)) ∧ w'.cell? ⟨gb117, 4, none⟩ = some (.slice A116_4 ((rd_T38 l0_0 x3_1).f4).length c116_4)) (ds := []) spec_BookOk.v0 (by kernel_rfl) rfl rfl ⟨(blk_cell BK117.out 0).trans rfl, (blk_cell BK117.out 1).trans rfl, (blk_cell BK117.out 2).trans rfl, (blk_cell BK117.out 3).trans rfl, (blk_cell BK117.out 4).trans rfl⟩ (fun hHeld => ?_); refine with_tabW spec_BookOk.tab5 spec_BookOk.bits5 (fun HT_ HW_ => ?_)
            generalize w53.drew = w54 at BK115 BK117 HB hHeld ⊢
            refine Sk.pq 0 19 spec_BookOk.v1 HT_.out (h := ?_)
            refine Sk.tk5 1 20 spec_BookOk.v2 HT_.out HW_.out hHeld (h := ?_)
            refine one_ (i := 2) (N := some 21) spec_BookOk.v3 rfl rfl (one_of HT_.out (by kernel_rfl)) (by decide) (fun K hK => ?_)
            refine goes_ Try.func11 (by kernel_rfl) rfl #[.int .i64 ((rd_T38 l0_0 x3_1).f0), .int .i64 1, .int .i64 1000000] (by rfl) rfl rfl (by (try simp only [List.map_toArray, List.map_cons, List.map_nil]); first | done | rfl | (simp only [List.length_drop, List.length_take]; rfl)) ?_
            with_reducible refine (spec_l1In.calls ((rd_T38 l0_0 x3_1).f0) 1 1000000 true _ A10.out).mono ?_
            rintro e w' ⟨rfl, ⟨nd, rfl⟩⟩
            refine ⟨_, rfl, ?_⟩
            refine hK.out _ _ ⟨(blk_cell BK117.out 0).trans rfl, (blk_cell BK117.out 1).trans rfl, (blk_cell BK117.out 2).trans rfl, (blk_cell BK117.out 3).trans rfl, (blk_cell BK117.out 4).trans rfl⟩ (fun hHeld => ?_)
            clear hK K
            refine Sk.nm 21 (h := ?_)
            refine Sk.pq 3 22 spec_BookOk.v4 HT_.out (h := ?_)
            refine Sk.pq 4 23 spec_BookOk.v5 HT_.out (h := ?_)
            refine Sk.pq 5 24 spec_BookOk.v6 HT_.out (h := ?_)
            refine Sk.pq 6 25 spec_BookOk.v7 HT_.out (h := ?_)
            refine Sk.pq 7 26 spec_BookOk.v8 HT_.out (h := ?_)
            refine Sk.pu 8 27 spec_BookOk.v9 HT_.out (h := ?_)
            refine Sk.pu 9 28 spec_BookOk.v54 HT_.out (h := ?_)
            refine Sk.pu 10 29 spec_BookOk.v55 HT_.out (h := ?_)
            refine Sk.pu 11 30 spec_BookOk.v56 HT_.out (h := ?_)
            refine Sk.pu 12 31 spec_BookOk.v57 HT_.out (h := ?_)
            refine Sk.pu 13 32 spec_BookOk.v58 HT_.out (h := ?_)
            refine Sk.pu 14 33 spec_BookOk.v59 HT_.out (h := ?_)
            refine Sk.pu 15 34 spec_BookOk.v16 HT_.out (h := ?_)
            refine Sk.pu 16 35 spec_BookOk.v17 HT_.out (h := ?_)
            refine Sk.pu 17 36 spec_BookOk.v18 HT_.out (h := ?_)
            refine Sk.pq 18 37 spec_BookOk.v19 HT_.out (h := ?_)
            refine Sk.pq 19 38 spec_BookOk.v20 HT_.out (h := ?_)
            refine Sk.pq 20 39 spec_BookOk.v21 HT_.out (h := ?_)
            refine Sk.pq 21 40 spec_BookOk.v22 HT_.out (h := ?_)
            refine Sk.tk5 22 41 spec_BookOk.v23 HT_.out HW_.out hHeld (h := ?_)
            refine one_ (i := 23) (N := some 42) spec_BookOk.v24 rfl rfl (one_of HT_.out (by kernel_rfl)) (by decide) (fun K hK => ?_)
            refine goes_ Try.func12 (by kernel_rfl) rfl #[.string ((rd_T38 l0_0 x3_1).f1)] (by rfl) rfl rfl (by (try simp only [List.map_toArray, List.map_cons, List.map_nil]); first | done | rfl | (simp only [List.length_drop, List.length_take]; rfl)) ?_
            with_reducible refine (spec_l1Name.calls k1 ((rd_T38 l0_0 x3_1).f1) true _ A40.out).mono ?_
            rintro e w' ⟨rfl, ⟨nd, rfl⟩⟩
            refine ⟨_, rfl, ?_⟩
            refine hK.out _ _ ⟨(blk_cell BK117.out 0).trans rfl, (blk_cell BK117.out 1).trans rfl, (blk_cell BK117.out 2).trans rfl, (blk_cell BK117.out 3).trans rfl, (blk_cell BK117.out 4).trans rfl⟩ (fun hHeld => ?_)
            clear hK K
            refine Sk.nm 42 (h := ?_)
            refine Sk.pq 24 43 spec_BookOk.v25 HT_.out (h := ?_)
            refine Sk.pq 25 44 spec_BookOk.v26 HT_.out (h := ?_)
            refine Sk.pq 26 45 spec_BookOk.v27 HT_.out (h := ?_)
            refine Sk.pq 27 46 spec_BookOk.v28 HT_.out (h := ?_)
            refine Sk.tk5 28 47 spec_BookOk.v29 HT_.out HW_.out hHeld (h := ?_)
            refine Sk.pq 29 48 spec_BookOk.v30 HT_.out (h := ?_)
            refine Sk.pq 30 49 spec_BookOk.v31 HT_.out (h := ?_)
            refine Sk.pq 31 50 spec_BookOk.v32 HT_.out (h := ?_)
            refine Sk.tk5 32 51 spec_BookOk.v33 HT_.out HW_.out hHeld (h := ?_)
            refine one_ (i := 33) (N := some 52) spec_BookOk.v34 rfl rfl (one_of HT_.out (by kernel_rfl)) (by decide) (fun K hK => ?_)
            refine goes_ Try.func12 (by kernel_rfl) rfl #[.string ((rd_T38 l0_0 x3_1).f2)] (by rfl) rfl rfl (by (try simp only [List.map_toArray, List.map_cons, List.map_nil]); first | done | rfl | (simp only [List.length_drop, List.length_take]; rfl)) ?_
            with_reducible refine (spec_l1Name.calls k1 ((rd_T38 l0_0 x3_1).f2) true _ A49.out).mono ?_
            rintro e w' ⟨rfl, ⟨nd, rfl⟩⟩
            refine ⟨_, rfl, ?_⟩
            refine hK.out _ _ ⟨(blk_cell BK117.out 0).trans rfl, (blk_cell BK117.out 1).trans rfl, (blk_cell BK117.out 2).trans rfl, (blk_cell BK117.out 3).trans rfl, (blk_cell BK117.out 4).trans rfl⟩ (fun hHeld => ?_)
            clear hK K
            refine Sk.nm 52 (h := ?_)
            refine Sk.pq 34 53 spec_BookOk.v35 HT_.out (h := ?_)
            refine Sk.pq 35 54 spec_BookOk.v36 HT_.out (h := ?_)
            refine Sk.pq 36 55 spec_BookOk.v37 HT_.out (h := ?_)
            refine Sk.pq 37 56 spec_BookOk.v38 HT_.out (h := ?_)
            refine Sk.pq 38 57 spec_BookOk.v39 HT_.out (h := ?_)
            refine Sk.tk5 39 58 spec_BookOk.v40 HT_.out HW_.out hHeld (h := ?_)
            refine one_ (i := 40) (N := some 59) spec_BookOk.v41 rfl rfl (one_of HT_.out (by kernel_rfl)) (by decide) (fun K hK => ?_)
            refine goes_ Try.func11 (by kernel_rfl) rfl #[.int .i64 ((rd_T38 l0_0 x3_1).f3), .int .i64 1, .int .i64 5] (by rfl) rfl rfl (by (try simp only [List.map_toArray, List.map_cons, List.map_nil]); first | done | rfl | (simp only [List.length_drop, List.length_take]; rfl)) ?_
            with_reducible refine (spec_l1In.calls ((rd_T38 l0_0 x3_1).f3) 1 5 true _ A51.out).mono ?_
            rintro e w' ⟨rfl, ⟨nd, rfl⟩⟩
            refine ⟨_, rfl, ?_⟩
            refine hK.out _ _ ⟨(blk_cell BK117.out 0).trans rfl, (blk_cell BK117.out 1).trans rfl, (blk_cell BK117.out 2).trans rfl, (blk_cell BK117.out 3).trans rfl, (blk_cell BK117.out 4).trans rfl⟩ (fun hHeld => ?_)
            clear hK K
            refine Sk.nm 59 (h := ?_)
            refine Sk.pq 41 60 spec_BookOk.v42 HT_.out (h := ?_)
            refine Sk.pq 42 61 spec_BookOk.v43 HT_.out (h := ?_)
            refine Sk.pq 43 62 spec_BookOk.v44 HT_.out (h := ?_)
            refine Sk.pq 44 63 spec_BookOk.v45 HT_.out (h := ?_)
            refine Sk.pq 47 66 spec_BookOk.v52 HT_.out (h := ?_)
            refine Sk.tk5 45 64 spec_BookOk.v53 HT_.out HW_.out hHeld (h := ?_)
            refine Sk.pq 46 65 spec_BookOk.v48 HT_.out (h := ?_)
            refine Sk.tk5 48 67 spec_BookOk.v49 HT_.out HW_.out hHeld (h := ?_)
            refine Sk.pq 49 68 spec_BookOk.v50 HT_.out (h := ?_)
            refine Sk.pq 50 69 spec_BookOk.v51 HT_.out (h := ?_)
            refine done_ (done_of HT_.out (by kernel_rfl)) ?_
            try go_wp2
            go_meet
            case rel => exact ⟨_, (((((rd_T38 l0_0 x3_1).f4).length : Int) != ((rd_T38 l0_0 x3_1).f3))), (by first | rfl | (simp; done) | (simp [*]; done)), H', ⟨by have := HK1.out; first | omega | exact Nat.le_refl _⟩, ⟨by (with_reducible repeat (first | refine blk_drewN ?_ _ | refine blk_drew ?_ | refine blk_alloc ?_ _)); exact BK115.out⟩, ⟨by (with_reducible repeat (first | refine blk_drewN ?_ _ | refine blk_drew ?_ | refine blk_alloc ?_ _)); exact BK117.out⟩, ⟨by repeat (first | (with_reducible first | exact HB.out | apply below_alloc | apply pw_below_drewN | apply below_drew1 | refine below_set ?_ GE115.out | refine below_set ?_ GE117.out) | exact HB.out)⟩⟩
           ·replace c52 := Bool.eq_false_iff.mpr c52
            subst c52
            rw [if_neg (show ¬ (false = true) by decide)] at H
            have H' := Aside0.mk H
            clear H
            try go_wp2
            have n0_ : Aside0 ((((((w7.setCell ⟨gb117, 0, none⟩ (.int .i64 ((rd_T38 l0_0 x3_1).f0))).setCell ⟨gb117, 1, none⟩ (.string ((rd_T38 l0_0 x3_1).f1))).setCell ⟨gb117, 2, none⟩ (.string ((rd_T38 l0_0 x3_1).f2))).setCell ⟨gb117, 3, none⟩ (.int .i64 ((rd_T38 l0_0 x3_1).f3))).setCell ⟨gb117, 4, none⟩ (.slice A116_4 ((rd_T38 l0_0 x3_1).f4).length c116_4)).heap[gb115]? = some (.cells #[.slice (some ad116) l0_0.length c0_0, .slice A0_1 l0_1.length c0_1] 30 (0, 0))) := ⟨by (with_reducible repeat (first | refine blk_drewN ?_ _ | refine blk_drew ?_ | refine blk_alloc ?_ _)); refine blk_far ?_ NB115_117.out _; (with_reducible repeat (first | refine blk_drewN ?_ _ | refine blk_drew ?_ | refine blk_alloc ?_ _)); refine blk_far ?_ NB115_117.out _; (with_reducible repeat (first | refine blk_drewN ?_ _ | refine blk_drew ?_ | refine blk_alloc ?_ _)); refine blk_far ?_ NB115_117.out _; (with_reducible repeat (first | refine blk_drewN ?_ _ | refine blk_drew ?_ | refine blk_alloc ?_ _)); refine blk_far ?_ NB115_117.out _; (with_reducible repeat (first | refine blk_drewN ?_ _ | refine blk_drew ?_ | refine blk_alloc ?_ _)); refine blk_far ?_ NB115_117.out _; (with_reducible repeat (first | refine blk_drewN ?_ _ | refine blk_drew ?_ | refine blk_alloc ?_ _)); exact BK115.out⟩
            have n1_ : Aside0 ((((((w7.setCell ⟨gb117, 0, none⟩ (.int .i64 ((rd_T38 l0_0 x3_1).f0))).setCell ⟨gb117, 1, none⟩ (.string ((rd_T38 l0_0 x3_1).f1))).setCell ⟨gb117, 2, none⟩ (.string ((rd_T38 l0_0 x3_1).f2))).setCell ⟨gb117, 3, none⟩ (.int .i64 ((rd_T38 l0_0 x3_1).f3))).setCell ⟨gb117, 4, none⟩ (.slice A116_4 ((rd_T38 l0_0 x3_1).f4).length c116_4)).heap[gb117]? = some (.cells #[.int .i64 ((rd_T38 l0_0 x3_1).f0), .string ((rd_T38 l0_0 x3_1).f1), .string ((rd_T38 l0_0 x3_1).f2), .int .i64 ((rd_T38 l0_0 x3_1).f3), .slice A116_4 ((rd_T38 l0_0 x3_1).f4).length c116_4] 38 (0, 0))) := ⟨by (with_reducible repeat (first | refine blk_drewN ?_ _ | refine blk_drew ?_ | refine blk_alloc ?_ _)); refine blk_put (cs := #[.int .i64 ((rd_T38 l0_0 x3_1).f0), .string ((rd_T38 l0_0 x3_1).f1), .string ((rd_T38 l0_0 x3_1).f2), .int .i64 ((rd_T38 l0_0 x3_1).f3), .slice none 0 0]) ?_ 4 _ rfl; (with_reducible repeat (first | refine blk_drewN ?_ _ | refine blk_drew ?_ | refine blk_alloc ?_ _)); refine blk_put (cs := #[.int .i64 ((rd_T38 l0_0 x3_1).f0), .string ((rd_T38 l0_0 x3_1).f1), .string ((rd_T38 l0_0 x3_1).f2), .int .i64 0, .slice none 0 0]) ?_ 3 _ rfl; (with_reducible repeat (first | refine blk_drewN ?_ _ | refine blk_drew ?_ | refine blk_alloc ?_ _)); refine blk_put (cs := #[.int .i64 ((rd_T38 l0_0 x3_1).f0), .string ((rd_T38 l0_0 x3_1).f1), .string (⟨#[]⟩ : ByteArray), .int .i64 0, .slice none 0 0]) ?_ 2 _ rfl; (with_reducible repeat (first | refine blk_drewN ?_ _ | refine blk_drew ?_ | refine blk_alloc ?_ _)); refine blk_put (cs := #[.int .i64 ((rd_T38 l0_0 x3_1).f0), .string (⟨#[]⟩ : ByteArray), .string (⟨#[]⟩ : ByteArray), .int .i64 0, .slice none 0 0]) ?_ 1 _ rfl; (with_reducible repeat (first | refine blk_drewN ?_ _ | refine blk_drew ?_ | refine blk_alloc ?_ _)); refine blk_put (cs := #[.int .i64 0, .string (⟨#[]⟩ : ByteArray), .string (⟨#[]⟩ : ByteArray), .int .i64 0, .slice none 0 0]) ?_ 0 _ rfl; (with_reducible repeat (first | refine blk_drewN ?_ _ | refine blk_drew ?_ | refine blk_alloc ?_ _)); exact BK117.out⟩
            have n2_ : Aside0 (Below w.heap.size w (((((w7.setCell ⟨gb117, 0, none⟩ (.int .i64 ((rd_T38 l0_0 x3_1).f0))).setCell ⟨gb117, 1, none⟩ (.string ((rd_T38 l0_0 x3_1).f1))).setCell ⟨gb117, 2, none⟩ (.string ((rd_T38 l0_0 x3_1).f2))).setCell ⟨gb117, 3, none⟩ (.int .i64 ((rd_T38 l0_0 x3_1).f3))).setCell ⟨gb117, 4, none⟩ (.slice A116_4 ((rd_T38 l0_0 x3_1).f4).length c116_4))) := ⟨by repeat (first | (with_reducible first | exact HB.out | apply below_alloc | apply pw_below_drewN | apply below_drew1 | refine below_set ?_ GE115.out | refine below_set ?_ GE117.out) | exact HB.out)⟩
            (try clear BK115)
            (try clear BK117)
            (try clear HB)
            generalize (((((w7.setCell ⟨gb117, 0, none⟩ (.int .i64 ((rd_T38 l0_0 x3_1).f0))).setCell ⟨gb117, 1, none⟩ (.string ((rd_T38 l0_0 x3_1).f1))).setCell ⟨gb117, 2, none⟩ (.string ((rd_T38 l0_0 x3_1).f2))).setCell ⟨gb117, 3, none⟩ (.int .i64 ((rd_T38 l0_0 x3_1).f3))).setCell ⟨gb117, 4, none⟩ (.slice A116_4 ((rd_T38 l0_0 x3_1).f4).length c116_4)) = w55 at n0_ n1_ n2_ ⊢
            have BK115 := n0_
            have BK117 := n1_
            have HB := n2_
            clear n0_ n1_ n2_
            have n0_ := Aside0.mk (blk_drew BK115.out)
            have n1_ := Aside0.mk (blk_drew BK117.out)
            have n2_ := Aside0.mk (below_drew1 HB.out)
            clear BK115
            clear BK117
            clear HB
            have BK115 := n0_
            have BK117 := n1_
            have HB := n2_
            clear n0_ n1_ n2_
            refine start_ (n := 51) (S := fun w' => w'.cell? ⟨gb117, 0, none⟩ = some (.int .i64 ((rd_T38 l0_0 x3_1).f0)) ∧ w'.cell? ⟨gb117, 1, none⟩ = some (.string ((rd_T38 l0_0 x3_1).f1)) ∧ w'.cell? ⟨gb117, 2, none⟩ = some (.string ((rd_T38 l0_0 x3_1).f2)) ∧ w'.cell? ⟨gb117, 3, none⟩ = some (.int .i64 ((rd_T38 l0_0 x3_1).f3)) ∧ w'.cell? ⟨gb117, 4, none⟩ = some (.slice A116_4 ((rd_T38 l0_0 x3_1).f4).length c116_4)) (ds := []) spec_BookOk.v0 (by kernel_rfl) rfl rfl ⟨(blk_cell BK117.out 0).trans rfl, (blk_cell BK117.out 1).trans rfl, (blk_cell BK117.out 2).trans rfl, (blk_cell BK117.out 3).trans rfl, (blk_cell BK117.out 4).trans rfl⟩ (fun hHeld => ?_); refine with_tabW spec_BookOk.tab5 spec_BookOk.bits5 (fun HT_ HW_ => ?_)
            generalize w55.drew = w56 at BK115 BK117 HB hHeld ⊢
            refine Sk.pq 0 19 spec_BookOk.v1 HT_.out (h := ?_)
            refine Sk.tk5 1 20 spec_BookOk.v2 HT_.out HW_.out hHeld (h := ?_)
            refine one_ (i := 2) (N := some 21) spec_BookOk.v3 rfl rfl (one_of HT_.out (by kernel_rfl)) (by decide) (fun K hK => ?_)
            refine goes_ Try.func11 (by kernel_rfl) rfl #[.int .i64 ((rd_T38 l0_0 x3_1).f0), .int .i64 1, .int .i64 1000000] (by rfl) rfl rfl (by (try simp only [List.map_toArray, List.map_cons, List.map_nil]); first | done | rfl | (simp only [List.length_drop, List.length_take]; rfl)) ?_
            with_reducible refine (spec_l1In.calls ((rd_T38 l0_0 x3_1).f0) 1 1000000 true _ A10.out).mono ?_
            rintro e w' ⟨rfl, ⟨nd, rfl⟩⟩
            refine ⟨_, rfl, ?_⟩
            refine hK.out _ _ ⟨(blk_cell BK117.out 0).trans rfl, (blk_cell BK117.out 1).trans rfl, (blk_cell BK117.out 2).trans rfl, (blk_cell BK117.out 3).trans rfl, (blk_cell BK117.out 4).trans rfl⟩ (fun hHeld => ?_)
            clear hK K
            refine Sk.nm 21 (h := ?_)
            refine Sk.pq 3 22 spec_BookOk.v4 HT_.out (h := ?_)
            refine Sk.pq 4 23 spec_BookOk.v5 HT_.out (h := ?_)
            refine Sk.pq 5 24 spec_BookOk.v6 HT_.out (h := ?_)
            refine Sk.pq 6 25 spec_BookOk.v7 HT_.out (h := ?_)
            refine Sk.pq 7 26 spec_BookOk.v8 HT_.out (h := ?_)
            refine Sk.pu 8 27 spec_BookOk.v9 HT_.out (h := ?_)
            refine Sk.pu 9 28 spec_BookOk.v54 HT_.out (h := ?_)
            refine Sk.pu 10 29 spec_BookOk.v55 HT_.out (h := ?_)
            refine Sk.pu 11 30 spec_BookOk.v56 HT_.out (h := ?_)
            refine Sk.pu 12 31 spec_BookOk.v57 HT_.out (h := ?_)
            refine Sk.pu 13 32 spec_BookOk.v58 HT_.out (h := ?_)
            refine Sk.pu 14 33 spec_BookOk.v59 HT_.out (h := ?_)
            refine Sk.pu 15 34 spec_BookOk.v16 HT_.out (h := ?_)
            refine Sk.pu 16 35 spec_BookOk.v17 HT_.out (h := ?_)
            refine Sk.pu 17 36 spec_BookOk.v18 HT_.out (h := ?_)
            refine Sk.pq 18 37 spec_BookOk.v19 HT_.out (h := ?_)
            refine Sk.pq 19 38 spec_BookOk.v20 HT_.out (h := ?_)
            refine Sk.pq 20 39 spec_BookOk.v21 HT_.out (h := ?_)
            refine Sk.pq 21 40 spec_BookOk.v22 HT_.out (h := ?_)
            refine Sk.tk5 22 41 spec_BookOk.v23 HT_.out HW_.out hHeld (h := ?_)
            refine one_ (i := 23) (N := some 42) spec_BookOk.v24 rfl rfl (one_of HT_.out (by kernel_rfl)) (by decide) (fun K hK => ?_)
            refine goes_ Try.func12 (by kernel_rfl) rfl #[.string ((rd_T38 l0_0 x3_1).f1)] (by rfl) rfl rfl (by (try simp only [List.map_toArray, List.map_cons, List.map_nil]); first | done | rfl | (simp only [List.length_drop, List.length_take]; rfl)) ?_
            with_reducible refine (spec_l1Name.calls k1 ((rd_T38 l0_0 x3_1).f1) true _ A40.out).mono ?_
            rintro e w' ⟨rfl, ⟨nd, rfl⟩⟩
            refine ⟨_, rfl, ?_⟩
            refine hK.out _ _ ⟨(blk_cell BK117.out 0).trans rfl, (blk_cell BK117.out 1).trans rfl, (blk_cell BK117.out 2).trans rfl, (blk_cell BK117.out 3).trans rfl, (blk_cell BK117.out 4).trans rfl⟩ (fun hHeld => ?_)
            clear hK K
            refine Sk.nm 42 (h := ?_)
            refine Sk.pq 24 43 spec_BookOk.v25 HT_.out (h := ?_)
            refine Sk.pq 25 44 spec_BookOk.v26 HT_.out (h := ?_)
            refine Sk.pq 26 45 spec_BookOk.v27 HT_.out (h := ?_)
            refine Sk.pq 27 46 spec_BookOk.v28 HT_.out (h := ?_)
            refine Sk.tk5 28 47 spec_BookOk.v29 HT_.out HW_.out hHeld (h := ?_)
            refine Sk.pq 29 48 spec_BookOk.v30 HT_.out (h := ?_)
            refine Sk.pq 30 49 spec_BookOk.v31 HT_.out (h := ?_)
            refine Sk.pq 31 50 spec_BookOk.v32 HT_.out (h := ?_)
            refine Sk.tk5 32 51 spec_BookOk.v33 HT_.out HW_.out hHeld (h := ?_)
            refine one_ (i := 33) (N := some 52) spec_BookOk.v34 rfl rfl (one_of HT_.out (by kernel_rfl)) (by decide) (fun K hK => ?_)
            refine goes_ Try.func12 (by kernel_rfl) rfl #[.string ((rd_T38 l0_0 x3_1).f2)] (by rfl) rfl rfl (by (try simp only [List.map_toArray, List.map_cons, List.map_nil]); first | done | rfl | (simp only [List.length_drop, List.length_take]; rfl)) ?_
            with_reducible refine (spec_l1Name.calls k1 ((rd_T38 l0_0 x3_1).f2) true _ A49.out).mono ?_
            rintro e w' ⟨rfl, ⟨nd, rfl⟩⟩
            refine ⟨_, rfl, ?_⟩
            refine hK.out _ _ ⟨(blk_cell BK117.out 0).trans rfl, (blk_cell BK117.out 1).trans rfl, (blk_cell BK117.out 2).trans rfl, (blk_cell BK117.out 3).trans rfl, (blk_cell BK117.out 4).trans rfl⟩ (fun hHeld => ?_)
            clear hK K
            refine Sk.nm 52 (h := ?_)
            refine Sk.pq 34 53 spec_BookOk.v35 HT_.out (h := ?_)
            refine Sk.pq 35 54 spec_BookOk.v36 HT_.out (h := ?_)
            refine Sk.pq 36 55 spec_BookOk.v37 HT_.out (h := ?_)
            refine Sk.pq 37 56 spec_BookOk.v38 HT_.out (h := ?_)
            refine Sk.pq 38 57 spec_BookOk.v39 HT_.out (h := ?_)
            refine Sk.tk5 39 58 spec_BookOk.v40 HT_.out HW_.out hHeld (h := ?_)
            refine one_ (i := 40) (N := some 59) spec_BookOk.v41 rfl rfl (one_of HT_.out (by kernel_rfl)) (by decide) (fun K hK => ?_)
            refine goes_ Try.func11 (by kernel_rfl) rfl #[.int .i64 ((rd_T38 l0_0 x3_1).f3), .int .i64 1, .int .i64 5] (by rfl) rfl rfl (by (try simp only [List.map_toArray, List.map_cons, List.map_nil]); first | done | rfl | (simp only [List.length_drop, List.length_take]; rfl)) ?_
            with_reducible refine (spec_l1In.calls ((rd_T38 l0_0 x3_1).f3) 1 5 false _ A51.out).mono ?_
            rintro e w' ⟨rfl, ⟨nd, rfl⟩⟩
            refine ⟨_, rfl, ?_⟩
            refine hK.out _ _ ⟨(blk_cell BK117.out 0).trans rfl, (blk_cell BK117.out 1).trans rfl, (blk_cell BK117.out 2).trans rfl, (blk_cell BK117.out 3).trans rfl, (blk_cell BK117.out 4).trans rfl⟩ (fun hHeld => ?_)
            clear hK K
            refine Sk.nm 59 (h := ?_)
            refine Sk.pq 41 60 spec_BookOk.v42 HT_.out (h := ?_)
            refine Sk.pq 42 61 spec_BookOk.v43 HT_.out (h := ?_)
            refine Sk.pq 43 62 spec_BookOk.v44 HT_.out (h := ?_)
            refine Sk.pu 44 63 spec_BookOk.v45 HT_.out (h := ?_)
            refine Sk.pu 45 64 spec_BookOk.v46 HT_.out (h := ?_)
            refine Sk.pu 46 65 spec_BookOk.v47 HT_.out (h := ?_)
            refine Sk.pu 47 66 spec_BookOk.v48 HT_.out (h := ?_)
            refine Sk.pu 48 67 spec_BookOk.v49 HT_.out (h := ?_)
            refine Sk.pu 49 68 spec_BookOk.v50 HT_.out (h := ?_)
            refine Sk.pq 50 69 spec_BookOk.v51 HT_.out (h := ?_)
            refine done_ (done_of HT_.out (by kernel_rfl)) ?_
            try go_wp2
            go_meet
            case rel => exact ⟨_, (true), (by first | rfl | (simp; done) | (simp [*]; done)), H', ⟨by have := HK1.out; first | omega | exact Nat.le_refl _⟩, ⟨by (with_reducible repeat (first | refine blk_drewN ?_ _ | refine blk_drew ?_ | refine blk_alloc ?_ _)); exact BK115.out⟩, ⟨by (with_reducible repeat (first | refine blk_drewN ?_ _ | refine blk_drew ?_ | refine blk_alloc ?_ _)); exact BK117.out⟩, ⟨by repeat (first | (with_reducible first | exact HB.out | apply below_alloc | apply pw_below_drewN | apply below_drew1 | refine below_set ?_ GE115.out | refine below_set ?_ GE117.out) | exact HB.out)⟩⟩
          ·replace c50 := Bool.eq_false_iff.mpr c50
           subst c50
           rw [if_neg (show ¬ (false = true) by decide)] at H
           have H' := Aside0.mk H
           clear H
           try go_wp2
           have n0_ : Aside0 ((((((w7.setCell ⟨gb117, 0, none⟩ (.int .i64 ((rd_T38 l0_0 x3_1).f0))).setCell ⟨gb117, 1, none⟩ (.string ((rd_T38 l0_0 x3_1).f1))).setCell ⟨gb117, 2, none⟩ (.string ((rd_T38 l0_0 x3_1).f2))).setCell ⟨gb117, 3, none⟩ (.int .i64 ((rd_T38 l0_0 x3_1).f3))).setCell ⟨gb117, 4, none⟩ (.slice A116_4 ((rd_T38 l0_0 x3_1).f4).length c116_4)).heap[gb115]? = some (.cells #[.slice (some ad116) l0_0.length c0_0, .slice A0_1 l0_1.length c0_1] 30 (0, 0))) := ⟨by (with_reducible repeat (first | refine blk_drewN ?_ _ | refine blk_drew ?_ | refine blk_alloc ?_ _)); refine blk_far ?_ NB115_117.out _; (with_reducible repeat (first | refine blk_drewN ?_ _ | refine blk_drew ?_ | refine blk_alloc ?_ _)); refine blk_far ?_ NB115_117.out _; (with_reducible repeat (first | refine blk_drewN ?_ _ | refine blk_drew ?_ | refine blk_alloc ?_ _)); refine blk_far ?_ NB115_117.out _; (with_reducible repeat (first | refine blk_drewN ?_ _ | refine blk_drew ?_ | refine blk_alloc ?_ _)); refine blk_far ?_ NB115_117.out _; (with_reducible repeat (first | refine blk_drewN ?_ _ | refine blk_drew ?_ | refine blk_alloc ?_ _)); refine blk_far ?_ NB115_117.out _; (with_reducible repeat (first | refine blk_drewN ?_ _ | refine blk_drew ?_ | refine blk_alloc ?_ _)); exact BK115.out⟩
           have n1_ : Aside0 ((((((w7.setCell ⟨gb117, 0, none⟩ (.int .i64 ((rd_T38 l0_0 x3_1).f0))).setCell ⟨gb117, 1, none⟩ (.string ((rd_T38 l0_0 x3_1).f1))).setCell ⟨gb117, 2, none⟩ (.string ((rd_T38 l0_0 x3_1).f2))).setCell ⟨gb117, 3, none⟩ (.int .i64 ((rd_T38 l0_0 x3_1).f3))).setCell ⟨gb117, 4, none⟩ (.slice A116_4 ((rd_T38 l0_0 x3_1).f4).length c116_4)).heap[gb117]? = some (.cells #[.int .i64 ((rd_T38 l0_0 x3_1).f0), .string ((rd_T38 l0_0 x3_1).f1), .string ((rd_T38 l0_0 x3_1).f2), .int .i64 ((rd_T38 l0_0 x3_1).f3), .slice A116_4 ((rd_T38 l0_0 x3_1).f4).length c116_4] 38 (0, 0))) := ⟨by (with_reducible repeat (first | refine blk_drewN ?_ _ | refine blk_drew ?_ | refine blk_alloc ?_ _)); refine blk_put (cs := #[.int .i64 ((rd_T38 l0_0 x3_1).f0), .string ((rd_T38 l0_0 x3_1).f1), .string ((rd_T38 l0_0 x3_1).f2), .int .i64 ((rd_T38 l0_0 x3_1).f3), .slice none 0 0]) ?_ 4 _ rfl; (with_reducible repeat (first | refine blk_drewN ?_ _ | refine blk_drew ?_ | refine blk_alloc ?_ _)); refine blk_put (cs := #[.int .i64 ((rd_T38 l0_0 x3_1).f0), .string ((rd_T38 l0_0 x3_1).f1), .string ((rd_T38 l0_0 x3_1).f2), .int .i64 0, .slice none 0 0]) ?_ 3 _ rfl; (with_reducible repeat (first | refine blk_drewN ?_ _ | refine blk_drew ?_ | refine blk_alloc ?_ _)); refine blk_put (cs := #[.int .i64 ((rd_T38 l0_0 x3_1).f0), .string ((rd_T38 l0_0 x3_1).f1), .string (⟨#[]⟩ : ByteArray), .int .i64 0, .slice none 0 0]) ?_ 2 _ rfl; (with_reducible repeat (first | refine blk_drewN ?_ _ | refine blk_drew ?_ | refine blk_alloc ?_ _)); refine blk_put (cs := #[.int .i64 ((rd_T38 l0_0 x3_1).f0), .string (⟨#[]⟩ : ByteArray), .string (⟨#[]⟩ : ByteArray), .int .i64 0, .slice none 0 0]) ?_ 1 _ rfl; (with_reducible repeat (first | refine blk_drewN ?_ _ | refine blk_drew ?_ | refine blk_alloc ?_ _)); refine blk_put (cs := #[.int .i64 0, .string (⟨#[]⟩ : ByteArray), .string (⟨#[]⟩ : ByteArray), .int .i64 0, .slice none 0 0]) ?_ 0 _ rfl; (with_reducible repeat (first | refine blk_drewN ?_ _ | refine blk_drew ?_ | refine blk_alloc ?_ _)); exact BK117.out⟩
           have n2_ : Aside0 (Below w.heap.size w (((((w7.setCell ⟨gb117, 0, none⟩ (.int .i64 ((rd_T38 l0_0 x3_1).f0))).setCell ⟨gb117, 1, none⟩ (.string ((rd_T38 l0_0 x3_1).f1))).setCell ⟨gb117, 2, none⟩ (.string ((rd_T38 l0_0 x3_1).f2))).setCell ⟨gb117, 3, none⟩ (.int .i64 ((rd_T38 l0_0 x3_1).f3))).setCell ⟨gb117, 4, none⟩ (.slice A116_4 ((rd_T38 l0_0 x3_1).f4).length c116_4))) := ⟨by repeat (first | (with_reducible first | exact HB.out | apply below_alloc | apply pw_below_drewN | apply below_drew1 | refine below_set ?_ GE115.out | refine below_set ?_ GE117.out) | exact HB.out)⟩
           (try clear BK115)
           (try clear BK117)
           (try clear HB)
           generalize (((((w7.setCell ⟨gb117, 0, none⟩ (.int .i64 ((rd_T38 l0_0 x3_1).f0))).setCell ⟨gb117, 1, none⟩ (.string ((rd_T38 l0_0 x3_1).f1))).setCell ⟨gb117, 2, none⟩ (.string ((rd_T38 l0_0 x3_1).f2))).setCell ⟨gb117, 3, none⟩ (.int .i64 ((rd_T38 l0_0 x3_1).f3))).setCell ⟨gb117, 4, none⟩ (.slice A116_4 ((rd_T38 l0_0 x3_1).f4).length c116_4)) = w57 at n0_ n1_ n2_ ⊢
           have BK115 := n0_
           have BK117 := n1_
           have HB := n2_
           clear n0_ n1_ n2_
           have n0_ := Aside0.mk (blk_drew BK115.out)
           have n1_ := Aside0.mk (blk_drew BK117.out)
           have n2_ := Aside0.mk (below_drew1 HB.out)
           clear BK115
           clear BK117
           clear HB
           have BK115 := n0_
           have BK117 := n1_
           have HB := n2_
           clear n0_ n1_ n2_
           refine start_ (n := 51) (S := fun w' => w'.cell? ⟨gb117, 0, none⟩ = some (.int .i64 ((rd_T38 l0_0 x3_1).f0)) ∧ w'.cell? ⟨gb117, 1, none⟩ = some (.string ((rd_T38 l0_0 x3_1).f1)) ∧ w'.cell? ⟨gb117, 2, none⟩ = some (.string ((rd_T38 l0_0 x3_1).f2)) ∧ w'.cell? ⟨gb117, 3, none⟩ = some (.int .i64 ((rd_T38 l0_0 x3_1).f3)) ∧ w'.cell? ⟨gb117, 4, none⟩ = some (.slice A116_4 ((rd_T38 l0_0 x3_1).f4).length c116_4)) (ds := []) spec_BookOk.v0 (by kernel_rfl) rfl rfl ⟨(blk_cell BK117.out 0).trans rfl, (blk_cell BK117.out 1).trans rfl, (blk_cell BK117.out 2).trans rfl, (blk_cell BK117.out 3).trans rfl, (blk_cell BK117.out 4).trans rfl⟩ (fun hHeld => ?_); refine with_tabW spec_BookOk.tab5 spec_BookOk.bits5 (fun HT_ HW_ => ?_)
           generalize w57.drew = w58 at BK115 BK117 HB hHeld ⊢
           refine Sk.pq 0 19 spec_BookOk.v1 HT_.out (h := ?_)
           refine Sk.tk5 1 20 spec_BookOk.v2 HT_.out HW_.out hHeld (h := ?_)
           refine one_ (i := 2) (N := some 21) spec_BookOk.v3 rfl rfl (one_of HT_.out (by kernel_rfl)) (by decide) (fun K hK => ?_)
           refine goes_ Try.func11 (by kernel_rfl) rfl #[.int .i64 ((rd_T38 l0_0 x3_1).f0), .int .i64 1, .int .i64 1000000] (by rfl) rfl rfl (by (try simp only [List.map_toArray, List.map_cons, List.map_nil]); first | done | rfl | (simp only [List.length_drop, List.length_take]; rfl)) ?_
           with_reducible refine (spec_l1In.calls ((rd_T38 l0_0 x3_1).f0) 1 1000000 true _ A10.out).mono ?_
           rintro e w' ⟨rfl, ⟨nd, rfl⟩⟩
           refine ⟨_, rfl, ?_⟩
           refine hK.out _ _ ⟨(blk_cell BK117.out 0).trans rfl, (blk_cell BK117.out 1).trans rfl, (blk_cell BK117.out 2).trans rfl, (blk_cell BK117.out 3).trans rfl, (blk_cell BK117.out 4).trans rfl⟩ (fun hHeld => ?_)
           clear hK K
           refine Sk.nm 21 (h := ?_)
           refine Sk.pq 3 22 spec_BookOk.v4 HT_.out (h := ?_)
           refine Sk.pq 4 23 spec_BookOk.v5 HT_.out (h := ?_)
           refine Sk.pq 5 24 spec_BookOk.v6 HT_.out (h := ?_)
           refine Sk.pq 6 25 spec_BookOk.v7 HT_.out (h := ?_)
           refine Sk.pq 7 26 spec_BookOk.v8 HT_.out (h := ?_)
           refine Sk.pu 8 27 spec_BookOk.v9 HT_.out (h := ?_)
           refine Sk.pu 9 28 spec_BookOk.v54 HT_.out (h := ?_)
           refine Sk.pu 10 29 spec_BookOk.v55 HT_.out (h := ?_)
           refine Sk.pu 11 30 spec_BookOk.v56 HT_.out (h := ?_)
           refine Sk.pu 12 31 spec_BookOk.v57 HT_.out (h := ?_)
           refine Sk.pu 13 32 spec_BookOk.v58 HT_.out (h := ?_)
           refine Sk.pu 14 33 spec_BookOk.v59 HT_.out (h := ?_)
           refine Sk.pu 15 34 spec_BookOk.v16 HT_.out (h := ?_)
           refine Sk.pu 16 35 spec_BookOk.v17 HT_.out (h := ?_)
           refine Sk.pu 17 36 spec_BookOk.v18 HT_.out (h := ?_)
           refine Sk.pq 18 37 spec_BookOk.v19 HT_.out (h := ?_)
           refine Sk.pq 19 38 spec_BookOk.v20 HT_.out (h := ?_)
           refine Sk.pq 20 39 spec_BookOk.v21 HT_.out (h := ?_)
           refine Sk.pq 21 40 spec_BookOk.v22 HT_.out (h := ?_)
           refine Sk.tk5 22 41 spec_BookOk.v23 HT_.out HW_.out hHeld (h := ?_)
           refine one_ (i := 23) (N := some 42) spec_BookOk.v24 rfl rfl (one_of HT_.out (by kernel_rfl)) (by decide) (fun K hK => ?_)
           refine goes_ Try.func12 (by kernel_rfl) rfl #[.string ((rd_T38 l0_0 x3_1).f1)] (by rfl) rfl rfl (by (try simp only [List.map_toArray, List.map_cons, List.map_nil]); first | done | rfl | (simp only [List.length_drop, List.length_take]; rfl)) ?_
           with_reducible refine (spec_l1Name.calls k1 ((rd_T38 l0_0 x3_1).f1) true _ A40.out).mono ?_
           rintro e w' ⟨rfl, ⟨nd, rfl⟩⟩
           refine ⟨_, rfl, ?_⟩
           refine hK.out _ _ ⟨(blk_cell BK117.out 0).trans rfl, (blk_cell BK117.out 1).trans rfl, (blk_cell BK117.out 2).trans rfl, (blk_cell BK117.out 3).trans rfl, (blk_cell BK117.out 4).trans rfl⟩ (fun hHeld => ?_)
           clear hK K
           refine Sk.nm 42 (h := ?_)
           refine Sk.pq 24 43 spec_BookOk.v25 HT_.out (h := ?_)
           refine Sk.pq 25 44 spec_BookOk.v26 HT_.out (h := ?_)
           refine Sk.pq 26 45 spec_BookOk.v27 HT_.out (h := ?_)
           refine Sk.pq 27 46 spec_BookOk.v28 HT_.out (h := ?_)
           refine Sk.tk5 28 47 spec_BookOk.v29 HT_.out HW_.out hHeld (h := ?_)
           refine Sk.pq 29 48 spec_BookOk.v30 HT_.out (h := ?_)
           refine Sk.pq 30 49 spec_BookOk.v31 HT_.out (h := ?_)
           refine Sk.pq 31 50 spec_BookOk.v32 HT_.out (h := ?_)
           refine Sk.tk5 32 51 spec_BookOk.v33 HT_.out HW_.out hHeld (h := ?_)
           refine one_ (i := 33) (N := some 52) spec_BookOk.v34 rfl rfl (one_of HT_.out (by kernel_rfl)) (by decide) (fun K hK => ?_)
           refine goes_ Try.func12 (by kernel_rfl) rfl #[.string ((rd_T38 l0_0 x3_1).f2)] (by rfl) rfl rfl (by (try simp only [List.map_toArray, List.map_cons, List.map_nil]); first | done | rfl | (simp only [List.length_drop, List.length_take]; rfl)) ?_
           with_reducible refine (spec_l1Name.calls k1 ((rd_T38 l0_0 x3_1).f2) false _ A49.out).mono ?_
           rintro e w' ⟨rfl, ⟨nd, rfl⟩⟩
           refine ⟨_, rfl, ?_⟩
           refine hK.out _ _ ⟨(blk_cell BK117.out 0).trans rfl, (blk_cell BK117.out 1).trans rfl, (blk_cell BK117.out 2).trans rfl, (blk_cell BK117.out 3).trans rfl, (blk_cell BK117.out 4).trans rfl⟩ (fun hHeld => ?_)
           clear hK K
           refine Sk.nm 52 (h := ?_)
           refine Sk.pq 34 53 spec_BookOk.v35 HT_.out (h := ?_)
           refine Sk.pq 35 54 spec_BookOk.v36 HT_.out (h := ?_)
           refine Sk.pq 36 55 spec_BookOk.v37 HT_.out (h := ?_)
           refine Sk.pq 37 56 spec_BookOk.v38 HT_.out (h := ?_)
           refine Sk.pu 38 57 spec_BookOk.v39 HT_.out (h := ?_)
           refine Sk.pu 39 58 spec_BookOk.v40 HT_.out (h := ?_)
           refine Sk.pu 40 59 spec_BookOk.v41 HT_.out (h := ?_)
           refine Sk.pu 41 60 spec_BookOk.v42 HT_.out (h := ?_)
           refine Sk.pq 42 61 spec_BookOk.v43 HT_.out (h := ?_)
           refine Sk.pq 43 62 spec_BookOk.v44 HT_.out (h := ?_)
           refine Sk.pu 44 63 spec_BookOk.v45 HT_.out (h := ?_)
           refine Sk.pu 45 64 spec_BookOk.v46 HT_.out (h := ?_)
           refine Sk.pu 46 65 spec_BookOk.v47 HT_.out (h := ?_)
           refine Sk.pu 47 66 spec_BookOk.v48 HT_.out (h := ?_)
           refine Sk.pu 48 67 spec_BookOk.v49 HT_.out (h := ?_)
           refine Sk.pu 49 68 spec_BookOk.v50 HT_.out (h := ?_)
           refine Sk.pq 50 69 spec_BookOk.v51 HT_.out (h := ?_)
           refine done_ (done_of HT_.out (by kernel_rfl)) ?_
           try go_wp2
           go_meet
           case rel => exact ⟨_, (true), (by first | rfl | (simp; done) | (simp [*]; done)), H', ⟨by have := HK1.out; first | omega | exact Nat.le_refl _⟩, ⟨by (with_reducible repeat (first | refine blk_drewN ?_ _ | refine blk_drew ?_ | refine blk_alloc ?_ _)); exact BK115.out⟩, ⟨by (with_reducible repeat (first | refine blk_drewN ?_ _ | refine blk_drew ?_ | refine blk_alloc ?_ _)); exact BK117.out⟩, ⟨by repeat (first | (with_reducible first | exact HB.out | apply below_alloc | apply pw_below_drewN | apply below_drew1 | refine below_set ?_ GE115.out | refine below_set ?_ GE117.out) | exact HB.out)⟩⟩
        ·replace c41 := Bool.eq_false_iff.mpr c41
         subst c41
         rw [if_neg (show ¬ (false = true) by decide)] at H
         have H' := Aside0.mk H
         clear H
         try go_wp2
         have n0_ : Aside0 ((((((w7.setCell ⟨gb117, 0, none⟩ (.int .i64 ((rd_T38 l0_0 x3_1).f0))).setCell ⟨gb117, 1, none⟩ (.string ((rd_T38 l0_0 x3_1).f1))).setCell ⟨gb117, 2, none⟩ (.string ((rd_T38 l0_0 x3_1).f2))).setCell ⟨gb117, 3, none⟩ (.int .i64 ((rd_T38 l0_0 x3_1).f3))).setCell ⟨gb117, 4, none⟩ (.slice A116_4 ((rd_T38 l0_0 x3_1).f4).length c116_4)).heap[gb115]? = some (.cells #[.slice (some ad116) l0_0.length c0_0, .slice A0_1 l0_1.length c0_1] 30 (0, 0))) := ⟨by (with_reducible repeat (first | refine blk_drewN ?_ _ | refine blk_drew ?_ | refine blk_alloc ?_ _)); refine blk_far ?_ NB115_117.out _; (with_reducible repeat (first | refine blk_drewN ?_ _ | refine blk_drew ?_ | refine blk_alloc ?_ _)); refine blk_far ?_ NB115_117.out _; (with_reducible repeat (first | refine blk_drewN ?_ _ | refine blk_drew ?_ | refine blk_alloc ?_ _)); refine blk_far ?_ NB115_117.out _; (with_reducible repeat (first | refine blk_drewN ?_ _ | refine blk_drew ?_ | refine blk_alloc ?_ _)); refine blk_far ?_ NB115_117.out _; (with_reducible repeat (first | refine blk_drewN ?_ _ | refine blk_drew ?_ | refine blk_alloc ?_ _)); refine blk_far ?_ NB115_117.out _; (with_reducible repeat (first | refine blk_drewN ?_ _ | refine blk_drew ?_ | refine blk_alloc ?_ _)); exact BK115.out⟩
         have n1_ : Aside0 ((((((w7.setCell ⟨gb117, 0, none⟩ (.int .i64 ((rd_T38 l0_0 x3_1).f0))).setCell ⟨gb117, 1, none⟩ (.string ((rd_T38 l0_0 x3_1).f1))).setCell ⟨gb117, 2, none⟩ (.string ((rd_T38 l0_0 x3_1).f2))).setCell ⟨gb117, 3, none⟩ (.int .i64 ((rd_T38 l0_0 x3_1).f3))).setCell ⟨gb117, 4, none⟩ (.slice A116_4 ((rd_T38 l0_0 x3_1).f4).length c116_4)).heap[gb117]? = some (.cells #[.int .i64 ((rd_T38 l0_0 x3_1).f0), .string ((rd_T38 l0_0 x3_1).f1), .string ((rd_T38 l0_0 x3_1).f2), .int .i64 ((rd_T38 l0_0 x3_1).f3), .slice A116_4 ((rd_T38 l0_0 x3_1).f4).length c116_4] 38 (0, 0))) := ⟨by (with_reducible repeat (first | refine blk_drewN ?_ _ | refine blk_drew ?_ | refine blk_alloc ?_ _)); refine blk_put (cs := #[.int .i64 ((rd_T38 l0_0 x3_1).f0), .string ((rd_T38 l0_0 x3_1).f1), .string ((rd_T38 l0_0 x3_1).f2), .int .i64 ((rd_T38 l0_0 x3_1).f3), .slice none 0 0]) ?_ 4 _ rfl; (with_reducible repeat (first | refine blk_drewN ?_ _ | refine blk_drew ?_ | refine blk_alloc ?_ _)); refine blk_put (cs := #[.int .i64 ((rd_T38 l0_0 x3_1).f0), .string ((rd_T38 l0_0 x3_1).f1), .string ((rd_T38 l0_0 x3_1).f2), .int .i64 0, .slice none 0 0]) ?_ 3 _ rfl; (with_reducible repeat (first | refine blk_drewN ?_ _ | refine blk_drew ?_ | refine blk_alloc ?_ _)); refine blk_put (cs := #[.int .i64 ((rd_T38 l0_0 x3_1).f0), .string ((rd_T38 l0_0 x3_1).f1), .string (⟨#[]⟩ : ByteArray), .int .i64 0, .slice none 0 0]) ?_ 2 _ rfl; (with_reducible repeat (first | refine blk_drewN ?_ _ | refine blk_drew ?_ | refine blk_alloc ?_ _)); refine blk_put (cs := #[.int .i64 ((rd_T38 l0_0 x3_1).f0), .string (⟨#[]⟩ : ByteArray), .string (⟨#[]⟩ : ByteArray), .int .i64 0, .slice none 0 0]) ?_ 1 _ rfl; (with_reducible repeat (first | refine blk_drewN ?_ _ | refine blk_drew ?_ | refine blk_alloc ?_ _)); refine blk_put (cs := #[.int .i64 0, .string (⟨#[]⟩ : ByteArray), .string (⟨#[]⟩ : ByteArray), .int .i64 0, .slice none 0 0]) ?_ 0 _ rfl; (with_reducible repeat (first | refine blk_drewN ?_ _ | refine blk_drew ?_ | refine blk_alloc ?_ _)); exact BK117.out⟩
         have n2_ : Aside0 (Below w.heap.size w (((((w7.setCell ⟨gb117, 0, none⟩ (.int .i64 ((rd_T38 l0_0 x3_1).f0))).setCell ⟨gb117, 1, none⟩ (.string ((rd_T38 l0_0 x3_1).f1))).setCell ⟨gb117, 2, none⟩ (.string ((rd_T38 l0_0 x3_1).f2))).setCell ⟨gb117, 3, none⟩ (.int .i64 ((rd_T38 l0_0 x3_1).f3))).setCell ⟨gb117, 4, none⟩ (.slice A116_4 ((rd_T38 l0_0 x3_1).f4).length c116_4))) := ⟨by repeat (first | (with_reducible first | exact HB.out | apply below_alloc | apply pw_below_drewN | apply below_drew1 | refine below_set ?_ GE115.out | refine below_set ?_ GE117.out) | exact HB.out)⟩
         (try clear BK115)
         (try clear BK117)
         (try clear HB)
         generalize (((((w7.setCell ⟨gb117, 0, none⟩ (.int .i64 ((rd_T38 l0_0 x3_1).f0))).setCell ⟨gb117, 1, none⟩ (.string ((rd_T38 l0_0 x3_1).f1))).setCell ⟨gb117, 2, none⟩ (.string ((rd_T38 l0_0 x3_1).f2))).setCell ⟨gb117, 3, none⟩ (.int .i64 ((rd_T38 l0_0 x3_1).f3))).setCell ⟨gb117, 4, none⟩ (.slice A116_4 ((rd_T38 l0_0 x3_1).f4).length c116_4)) = w59 at n0_ n1_ n2_ ⊢
         have BK115 := n0_
         have BK117 := n1_
         have HB := n2_
         clear n0_ n1_ n2_
         have n0_ := Aside0.mk (blk_drew BK115.out)
         have n1_ := Aside0.mk (blk_drew BK117.out)
         have n2_ := Aside0.mk (below_drew1 HB.out)
         clear BK115
         clear BK117
         clear HB
         have BK115 := n0_
         have BK117 := n1_
         have HB := n2_
         clear n0_ n1_ n2_
         refine start_ (n := 51) (S := fun w' => w'.cell? ⟨gb117, 0, none⟩ = some (.int .i64 ((rd_T38 l0_0 x3_1).f0)) ∧ w'.cell? ⟨gb117, 1, none⟩ = some (.string ((rd_T38 l0_0 x3_1).f1)) ∧ w'.cell? ⟨gb117, 2, none⟩ = some (.string ((rd_T38 l0_0 x3_1).f2)) ∧ w'.cell? ⟨gb117, 3, none⟩ = some (.int .i64 ((rd_T38 l0_0 x3_1).f3)) ∧ w'.cell? ⟨gb117, 4, none⟩ = some (.slice A116_4 ((rd_T38 l0_0 x3_1).f4).length c116_4)) (ds := []) spec_BookOk.v0 (by kernel_rfl) rfl rfl ⟨(blk_cell BK117.out 0).trans rfl, (blk_cell BK117.out 1).trans rfl, (blk_cell BK117.out 2).trans rfl, (blk_cell BK117.out 3).trans rfl, (blk_cell BK117.out 4).trans rfl⟩ (fun hHeld => ?_); refine with_tabW spec_BookOk.tab5 spec_BookOk.bits5 (fun HT_ HW_ => ?_)
         generalize w59.drew = w60 at BK115 BK117 HB hHeld ⊢
         refine Sk.pq 0 19 spec_BookOk.v1 HT_.out (h := ?_)
         refine Sk.tk5 1 20 spec_BookOk.v2 HT_.out HW_.out hHeld (h := ?_)
         refine one_ (i := 2) (N := some 21) spec_BookOk.v3 rfl rfl (one_of HT_.out (by kernel_rfl)) (by decide) (fun K hK => ?_)
         refine goes_ Try.func11 (by kernel_rfl) rfl #[.int .i64 ((rd_T38 l0_0 x3_1).f0), .int .i64 1, .int .i64 1000000] (by rfl) rfl rfl (by (try simp only [List.map_toArray, List.map_cons, List.map_nil]); first | done | rfl | (simp only [List.length_drop, List.length_take]; rfl)) ?_
         with_reducible refine (spec_l1In.calls ((rd_T38 l0_0 x3_1).f0) 1 1000000 true _ A10.out).mono ?_
         rintro e w' ⟨rfl, ⟨nd, rfl⟩⟩
         refine ⟨_, rfl, ?_⟩
         refine hK.out _ _ ⟨(blk_cell BK117.out 0).trans rfl, (blk_cell BK117.out 1).trans rfl, (blk_cell BK117.out 2).trans rfl, (blk_cell BK117.out 3).trans rfl, (blk_cell BK117.out 4).trans rfl⟩ (fun hHeld => ?_)
         clear hK K
         refine Sk.nm 21 (h := ?_)
         refine Sk.pq 3 22 spec_BookOk.v4 HT_.out (h := ?_)
         refine Sk.pq 4 23 spec_BookOk.v5 HT_.out (h := ?_)
         refine Sk.pq 5 24 spec_BookOk.v6 HT_.out (h := ?_)
         refine Sk.pq 6 25 spec_BookOk.v7 HT_.out (h := ?_)
         refine Sk.pq 7 26 spec_BookOk.v8 HT_.out (h := ?_)
         refine Sk.pu 8 27 spec_BookOk.v9 HT_.out (h := ?_)
         refine Sk.pu 9 28 spec_BookOk.v54 HT_.out (h := ?_)
         refine Sk.pu 10 29 spec_BookOk.v55 HT_.out (h := ?_)
         refine Sk.pu 11 30 spec_BookOk.v56 HT_.out (h := ?_)
         refine Sk.pu 12 31 spec_BookOk.v57 HT_.out (h := ?_)
         refine Sk.pu 13 32 spec_BookOk.v58 HT_.out (h := ?_)
         refine Sk.pu 14 33 spec_BookOk.v59 HT_.out (h := ?_)
         refine Sk.pu 15 34 spec_BookOk.v16 HT_.out (h := ?_)
         refine Sk.pu 16 35 spec_BookOk.v17 HT_.out (h := ?_)
         refine Sk.pu 17 36 spec_BookOk.v18 HT_.out (h := ?_)
         refine Sk.pq 18 37 spec_BookOk.v19 HT_.out (h := ?_)
         refine Sk.pq 19 38 spec_BookOk.v20 HT_.out (h := ?_)
         refine Sk.pq 20 39 spec_BookOk.v21 HT_.out (h := ?_)
         refine Sk.pq 21 40 spec_BookOk.v22 HT_.out (h := ?_)
         refine Sk.tk5 22 41 spec_BookOk.v23 HT_.out HW_.out hHeld (h := ?_)
         refine one_ (i := 23) (N := some 42) spec_BookOk.v24 rfl rfl (one_of HT_.out (by kernel_rfl)) (by decide) (fun K hK => ?_)
         refine goes_ Try.func12 (by kernel_rfl) rfl #[.string ((rd_T38 l0_0 x3_1).f1)] (by rfl) rfl rfl (by (try simp only [List.map_toArray, List.map_cons, List.map_nil]); first | done | rfl | (simp only [List.length_drop, List.length_take]; rfl)) ?_
         with_reducible refine (spec_l1Name.calls k1 ((rd_T38 l0_0 x3_1).f1) false _ A40.out).mono ?_
         rintro e w' ⟨rfl, ⟨nd, rfl⟩⟩
         refine ⟨_, rfl, ?_⟩
         refine hK.out _ _ ⟨(blk_cell BK117.out 0).trans rfl, (blk_cell BK117.out 1).trans rfl, (blk_cell BK117.out 2).trans rfl, (blk_cell BK117.out 3).trans rfl, (blk_cell BK117.out 4).trans rfl⟩ (fun hHeld => ?_)
         clear hK K
         refine Sk.nm 42 (h := ?_)
         refine Sk.pq 24 43 spec_BookOk.v25 HT_.out (h := ?_)
         refine Sk.pq 25 44 spec_BookOk.v26 HT_.out (h := ?_)
         refine Sk.pq 26 45 spec_BookOk.v27 HT_.out (h := ?_)
         refine Sk.pu 27 46 spec_BookOk.v28 HT_.out (h := ?_)
         refine Sk.pu 28 47 spec_BookOk.v29 HT_.out (h := ?_)
         refine Sk.pu 29 48 spec_BookOk.v30 HT_.out (h := ?_)
         refine Sk.pu 30 49 spec_BookOk.v31 HT_.out (h := ?_)
         refine Sk.pu 31 50 spec_BookOk.v32 HT_.out (h := ?_)
         refine Sk.pu 32 51 spec_BookOk.v33 HT_.out (h := ?_)
         refine Sk.pu 33 52 spec_BookOk.v34 HT_.out (h := ?_)
         refine Sk.pu 34 53 spec_BookOk.v35 HT_.out (h := ?_)
         refine Sk.pu 35 54 spec_BookOk.v36 HT_.out (h := ?_)
         refine Sk.pq 36 55 spec_BookOk.v37 HT_.out (h := ?_)
         refine Sk.pq 37 56 spec_BookOk.v38 HT_.out (h := ?_)
         refine Sk.pu 38 57 spec_BookOk.v39 HT_.out (h := ?_)
         refine Sk.pu 39 58 spec_BookOk.v40 HT_.out (h := ?_)
         refine Sk.pu 40 59 spec_BookOk.v41 HT_.out (h := ?_)
         refine Sk.pu 41 60 spec_BookOk.v42 HT_.out (h := ?_)
         refine Sk.pq 42 61 spec_BookOk.v43 HT_.out (h := ?_)
         refine Sk.pq 43 62 spec_BookOk.v44 HT_.out (h := ?_)
         refine Sk.pu 44 63 spec_BookOk.v45 HT_.out (h := ?_)
         refine Sk.pu 45 64 spec_BookOk.v46 HT_.out (h := ?_)
         refine Sk.pu 46 65 spec_BookOk.v47 HT_.out (h := ?_)
         refine Sk.pu 47 66 spec_BookOk.v48 HT_.out (h := ?_)
         refine Sk.pu 48 67 spec_BookOk.v49 HT_.out (h := ?_)
         refine Sk.pu 49 68 spec_BookOk.v50 HT_.out (h := ?_)
         refine Sk.pq 50 69 spec_BookOk.v51 HT_.out (h := ?_)
         refine done_ (done_of HT_.out (by kernel_rfl)) ?_
         try go_wp2
         go_meet
         case rel => exact ⟨_, (true), (by first | rfl | (simp; done) | (simp [*]; done)), H', ⟨by have := HK1.out; first | omega | exact Nat.le_refl _⟩, ⟨by (with_reducible repeat (first | refine blk_drewN ?_ _ | refine blk_drew ?_ | refine blk_alloc ?_ _)); exact BK115.out⟩, ⟨by (with_reducible repeat (first | refine blk_drewN ?_ _ | refine blk_drew ?_ | refine blk_alloc ?_ _)); exact BK117.out⟩, ⟨by repeat (first | (with_reducible first | exact HB.out | apply below_alloc | apply pw_below_drewN | apply below_drew1 | refine below_set ?_ GE115.out | refine below_set ?_ GE117.out) | exact HB.out)⟩⟩
      ·replace c11 := Bool.eq_false_iff.mpr c11
       subst c11
       rw [if_neg (show ¬ (false = true) by decide)] at H
       have H' := Aside0.mk H
       clear H
       try go_wp2
       have n0_ : Aside0 ((((((w7.setCell ⟨gb117, 0, none⟩ (.int .i64 ((rd_T38 l0_0 x3_1).f0))).setCell ⟨gb117, 1, none⟩ (.string ((rd_T38 l0_0 x3_1).f1))).setCell ⟨gb117, 2, none⟩ (.string ((rd_T38 l0_0 x3_1).f2))).setCell ⟨gb117, 3, none⟩ (.int .i64 ((rd_T38 l0_0 x3_1).f3))).setCell ⟨gb117, 4, none⟩ (.slice A116_4 ((rd_T38 l0_0 x3_1).f4).length c116_4)).heap[gb115]? = some (.cells #[.slice (some ad116) l0_0.length c0_0, .slice A0_1 l0_1.length c0_1] 30 (0, 0))) := ⟨by (with_reducible repeat (first | refine blk_drewN ?_ _ | refine blk_drew ?_ | refine blk_alloc ?_ _)); refine blk_far ?_ NB115_117.out _; (with_reducible repeat (first | refine blk_drewN ?_ _ | refine blk_drew ?_ | refine blk_alloc ?_ _)); refine blk_far ?_ NB115_117.out _; (with_reducible repeat (first | refine blk_drewN ?_ _ | refine blk_drew ?_ | refine blk_alloc ?_ _)); refine blk_far ?_ NB115_117.out _; (with_reducible repeat (first | refine blk_drewN ?_ _ | refine blk_drew ?_ | refine blk_alloc ?_ _)); refine blk_far ?_ NB115_117.out _; (with_reducible repeat (first | refine blk_drewN ?_ _ | refine blk_drew ?_ | refine blk_alloc ?_ _)); refine blk_far ?_ NB115_117.out _; (with_reducible repeat (first | refine blk_drewN ?_ _ | refine blk_drew ?_ | refine blk_alloc ?_ _)); exact BK115.out⟩
       have n1_ : Aside0 ((((((w7.setCell ⟨gb117, 0, none⟩ (.int .i64 ((rd_T38 l0_0 x3_1).f0))).setCell ⟨gb117, 1, none⟩ (.string ((rd_T38 l0_0 x3_1).f1))).setCell ⟨gb117, 2, none⟩ (.string ((rd_T38 l0_0 x3_1).f2))).setCell ⟨gb117, 3, none⟩ (.int .i64 ((rd_T38 l0_0 x3_1).f3))).setCell ⟨gb117, 4, none⟩ (.slice A116_4 ((rd_T38 l0_0 x3_1).f4).length c116_4)).heap[gb117]? = some (.cells #[.int .i64 ((rd_T38 l0_0 x3_1).f0), .string ((rd_T38 l0_0 x3_1).f1), .string ((rd_T38 l0_0 x3_1).f2), .int .i64 ((rd_T38 l0_0 x3_1).f3), .slice A116_4 ((rd_T38 l0_0 x3_1).f4).length c116_4] 38 (0, 0))) := ⟨by (with_reducible repeat (first | refine blk_drewN ?_ _ | refine blk_drew ?_ | refine blk_alloc ?_ _)); refine blk_put (cs := #[.int .i64 ((rd_T38 l0_0 x3_1).f0), .string ((rd_T38 l0_0 x3_1).f1), .string ((rd_T38 l0_0 x3_1).f2), .int .i64 ((rd_T38 l0_0 x3_1).f3), .slice none 0 0]) ?_ 4 _ rfl; (with_reducible repeat (first | refine blk_drewN ?_ _ | refine blk_drew ?_ | refine blk_alloc ?_ _)); refine blk_put (cs := #[.int .i64 ((rd_T38 l0_0 x3_1).f0), .string ((rd_T38 l0_0 x3_1).f1), .string ((rd_T38 l0_0 x3_1).f2), .int .i64 0, .slice none 0 0]) ?_ 3 _ rfl; (with_reducible repeat (first | refine blk_drewN ?_ _ | refine blk_drew ?_ | refine blk_alloc ?_ _)); refine blk_put (cs := #[.int .i64 ((rd_T38 l0_0 x3_1).f0), .string ((rd_T38 l0_0 x3_1).f1), .string (⟨#[]⟩ : ByteArray), .int .i64 0, .slice none 0 0]) ?_ 2 _ rfl; (with_reducible repeat (first | refine blk_drewN ?_ _ | refine blk_drew ?_ | refine blk_alloc ?_ _)); refine blk_put (cs := #[.int .i64 ((rd_T38 l0_0 x3_1).f0), .string (⟨#[]⟩ : ByteArray), .string (⟨#[]⟩ : ByteArray), .int .i64 0, .slice none 0 0]) ?_ 1 _ rfl; (with_reducible repeat (first | refine blk_drewN ?_ _ | refine blk_drew ?_ | refine blk_alloc ?_ _)); refine blk_put (cs := #[.int .i64 0, .string (⟨#[]⟩ : ByteArray), .string (⟨#[]⟩ : ByteArray), .int .i64 0, .slice none 0 0]) ?_ 0 _ rfl; (with_reducible repeat (first | refine blk_drewN ?_ _ | refine blk_drew ?_ | refine blk_alloc ?_ _)); exact BK117.out⟩
       have n2_ : Aside0 (Below w.heap.size w (((((w7.setCell ⟨gb117, 0, none⟩ (.int .i64 ((rd_T38 l0_0 x3_1).f0))).setCell ⟨gb117, 1, none⟩ (.string ((rd_T38 l0_0 x3_1).f1))).setCell ⟨gb117, 2, none⟩ (.string ((rd_T38 l0_0 x3_1).f2))).setCell ⟨gb117, 3, none⟩ (.int .i64 ((rd_T38 l0_0 x3_1).f3))).setCell ⟨gb117, 4, none⟩ (.slice A116_4 ((rd_T38 l0_0 x3_1).f4).length c116_4))) := ⟨by repeat (first | (with_reducible first | exact HB.out | apply below_alloc | apply pw_below_drewN | apply below_drew1 | refine below_set ?_ GE115.out | refine below_set ?_ GE117.out) | exact HB.out)⟩
       (try clear BK115)
       (try clear BK117)
       (try clear HB)
       generalize (((((w7.setCell ⟨gb117, 0, none⟩ (.int .i64 ((rd_T38 l0_0 x3_1).f0))).setCell ⟨gb117, 1, none⟩ (.string ((rd_T38 l0_0 x3_1).f1))).setCell ⟨gb117, 2, none⟩ (.string ((rd_T38 l0_0 x3_1).f2))).setCell ⟨gb117, 3, none⟩ (.int .i64 ((rd_T38 l0_0 x3_1).f3))).setCell ⟨gb117, 4, none⟩ (.slice A116_4 ((rd_T38 l0_0 x3_1).f4).length c116_4)) = w61 at n0_ n1_ n2_ ⊢
       have BK115 := n0_
       have BK117 := n1_
       have HB := n2_
       clear n0_ n1_ n2_
       have n0_ := Aside0.mk (blk_drew BK115.out)
       have n1_ := Aside0.mk (blk_drew BK117.out)
       have n2_ := Aside0.mk (below_drew1 HB.out)
       clear BK115
       clear BK117
       clear HB
       have BK115 := n0_
       have BK117 := n1_
       have HB := n2_
       clear n0_ n1_ n2_
       refine start_ (n := 51) (S := fun w' => w'.cell? ⟨gb117, 0, none⟩ = some (.int .i64 ((rd_T38 l0_0 x3_1).f0)) ∧ w'.cell? ⟨gb117, 1, none⟩ = some (.string ((rd_T38 l0_0 x3_1).f1)) ∧ w'.cell? ⟨gb117, 2, none⟩ = some (.string ((rd_T38 l0_0 x3_1).f2)) ∧ w'.cell? ⟨gb117, 3, none⟩ = some (.int .i64 ((rd_T38 l0_0 x3_1).f3)) ∧ w'.cell? ⟨gb117, 4, none⟩ = some (.slice A116_4 ((rd_T38 l0_0 x3_1).f4).length c116_4)) (ds := []) spec_BookOk.v0 (by kernel_rfl) rfl rfl ⟨(blk_cell BK117.out 0).trans rfl, (blk_cell BK117.out 1).trans rfl, (blk_cell BK117.out 2).trans rfl, (blk_cell BK117.out 3).trans rfl, (blk_cell BK117.out 4).trans rfl⟩ (fun hHeld => ?_); refine with_tabW spec_BookOk.tab5 spec_BookOk.bits5 (fun HT_ HW_ => ?_)
       generalize w61.drew = w62 at BK115 BK117 HB hHeld ⊢
       refine Sk.pq 0 19 spec_BookOk.v1 HT_.out (h := ?_)
       refine Sk.tk5 1 20 spec_BookOk.v2 HT_.out HW_.out hHeld (h := ?_)
       refine one_ (i := 2) (N := some 21) spec_BookOk.v3 rfl rfl (one_of HT_.out (by kernel_rfl)) (by decide) (fun K hK => ?_)
       refine goes_ Try.func11 (by kernel_rfl) rfl #[.int .i64 ((rd_T38 l0_0 x3_1).f0), .int .i64 1, .int .i64 1000000] (by rfl) rfl rfl (by (try simp only [List.map_toArray, List.map_cons, List.map_nil]); first | done | rfl | (simp only [List.length_drop, List.length_take]; rfl)) ?_
       with_reducible refine (spec_l1In.calls ((rd_T38 l0_0 x3_1).f0) 1 1000000 false _ A10.out).mono ?_
       rintro e w' ⟨rfl, ⟨nd, rfl⟩⟩
       refine ⟨_, rfl, ?_⟩
       refine hK.out _ _ ⟨(blk_cell BK117.out 0).trans rfl, (blk_cell BK117.out 1).trans rfl, (blk_cell BK117.out 2).trans rfl, (blk_cell BK117.out 3).trans rfl, (blk_cell BK117.out 4).trans rfl⟩ (fun hHeld => ?_)
       clear hK K
       refine Sk.nm 21 (h := ?_)
       refine Sk.pq 3 22 spec_BookOk.v4 HT_.out (h := ?_)
       refine Sk.pq 4 23 spec_BookOk.v5 HT_.out (h := ?_)
       refine Sk.pu 5 24 spec_BookOk.v6 HT_.out (h := ?_)
       refine Sk.pu 6 25 spec_BookOk.v7 HT_.out (h := ?_)
       refine Sk.pu 7 26 spec_BookOk.v8 HT_.out (h := ?_)
       refine Sk.pu 8 27 spec_BookOk.v9 HT_.out (h := ?_)
       refine Sk.pu 9 28 spec_BookOk.v54 HT_.out (h := ?_)
       refine Sk.pu 10 29 spec_BookOk.v55 HT_.out (h := ?_)
       refine Sk.pu 11 30 spec_BookOk.v56 HT_.out (h := ?_)
       refine Sk.pu 12 31 spec_BookOk.v57 HT_.out (h := ?_)
       refine Sk.pu 13 32 spec_BookOk.v58 HT_.out (h := ?_)
       refine Sk.pu 14 33 spec_BookOk.v59 HT_.out (h := ?_)
       refine Sk.pu 15 34 spec_BookOk.v16 HT_.out (h := ?_)
       refine Sk.pu 16 35 spec_BookOk.v17 HT_.out (h := ?_)
       refine Sk.pu 17 36 spec_BookOk.v18 HT_.out (h := ?_)
       refine Sk.pu 18 37 spec_BookOk.v19 HT_.out (h := ?_)
       refine Sk.pq 19 38 spec_BookOk.v20 HT_.out (h := ?_)
       refine Sk.pq 20 39 spec_BookOk.v21 HT_.out (h := ?_)
       refine Sk.pu 21 40 spec_BookOk.v22 HT_.out (h := ?_)
       refine Sk.pu 22 41 spec_BookOk.v23 HT_.out (h := ?_)
       refine Sk.pu 23 42 spec_BookOk.v24 HT_.out (h := ?_)
       refine Sk.pu 24 43 spec_BookOk.v25 HT_.out (h := ?_)
       refine Sk.pq 25 44 spec_BookOk.v26 HT_.out (h := ?_)
       refine Sk.pq 26 45 spec_BookOk.v27 HT_.out (h := ?_)
       refine Sk.pu 27 46 spec_BookOk.v28 HT_.out (h := ?_)
       refine Sk.pu 28 47 spec_BookOk.v29 HT_.out (h := ?_)
       refine Sk.pu 29 48 spec_BookOk.v30 HT_.out (h := ?_)
       refine Sk.pu 30 49 spec_BookOk.v31 HT_.out (h := ?_)
       refine Sk.pu 31 50 spec_BookOk.v32 HT_.out (h := ?_)
       refine Sk.pu 32 51 spec_BookOk.v33 HT_.out (h := ?_)
       refine Sk.pu 33 52 spec_BookOk.v34 HT_.out (h := ?_)
       refine Sk.pu 34 53 spec_BookOk.v35 HT_.out (h := ?_)
       refine Sk.pu 35 54 spec_BookOk.v36 HT_.out (h := ?_)
       refine Sk.pq 36 55 spec_BookOk.v37 HT_.out (h := ?_)
       refine Sk.pq 37 56 spec_BookOk.v38 HT_.out (h := ?_)
       refine Sk.pu 38 57 spec_BookOk.v39 HT_.out (h := ?_)
       refine Sk.pu 39 58 spec_BookOk.v40 HT_.out (h := ?_)
       refine Sk.pu 40 59 spec_BookOk.v41 HT_.out (h := ?_)
       refine Sk.pu 41 60 spec_BookOk.v42 HT_.out (h := ?_)
       refine Sk.pq 42 61 spec_BookOk.v43 HT_.out (h := ?_)
       refine Sk.pq 43 62 spec_BookOk.v44 HT_.out (h := ?_)
       refine Sk.pu 44 63 spec_BookOk.v45 HT_.out (h := ?_)
       refine Sk.pu 45 64 spec_BookOk.v46 HT_.out (h := ?_)
       refine Sk.pu 46 65 spec_BookOk.v47 HT_.out (h := ?_)
       refine Sk.pu 47 66 spec_BookOk.v48 HT_.out (h := ?_)
       refine Sk.pu 48 67 spec_BookOk.v49 HT_.out (h := ?_)
       refine Sk.pu 49 68 spec_BookOk.v50 HT_.out (h := ?_)
       refine Sk.pq 50 69 spec_BookOk.v51 HT_.out (h := ?_)
       refine done_ (done_of HT_.out (by kernel_rfl)) ?_
       try go_wp2
       go_meet
       case rel => exact ⟨_, (true), (by first | rfl | (simp; done) | (simp [*]; done)), H', ⟨by have := HK1.out; first | omega | exact Nat.le_refl _⟩, ⟨by (with_reducible repeat (first | refine blk_drewN ?_ _ | refine blk_drew ?_ | refine blk_alloc ?_ _)); exact BK115.out⟩, ⟨by (with_reducible repeat (first | refine blk_drewN ?_ _ | refine blk_drew ?_ | refine blk_alloc ?_ _)); exact BK117.out⟩, ⟨by repeat (first | (with_reducible first | exact HB.out | apply below_alloc | apply pw_below_drewN | apply below_drew1 | refine below_set ?_ GE115.out | refine below_set ?_ GE117.out) | exact HB.out)⟩⟩
     case rest =>
      clear HC5
      (try clear c1); (try clear p2); (try clear c11); (try clear c12)
      obtain ⟨kq, x69_4, rfl, HA, HJ4, BK115, BK117, HB⟩ := hcut
      cases kq with
      | zero => exact absurd HA.out (by simp [spec_BookOk.j1])
      | succ kj4 =>
       have H := HA.out
       clear HA
       simp only [spec_BookOk.j1] at H
       by_cases c63 : x69_4 = true
       ·subst c63
        rw [if_pos rfl] at H
        obtain rfl := Option.some.inj H
        go_wp2
        go_ret
        exact ⟨by first | rfl | (simp [errW_none, errW_some] <;> rfl) | (simp [*, errW_none, errW_some] <;> rfl), by repeat (first | (with_reducible first | exact HB.out | apply below_alloc | apply pw_below_drewN | apply below_drew1 | refine below_set ?_ GE115.out | refine below_set ?_ GE117.out) | exact HB.out)⟩
       ·replace c63 := Bool.eq_false_iff.mpr c63
        subst c63
        rw [if_neg (show ¬ (false = true) by decide)] at H
        have H' := Aside0.mk H
        clear H
        go_wp2
        go_loopg [5] kj4 (fun kq v5 w' => ∃ (x5_3 : Int), v5 = .int .i64 x5_3 ∧ Aside0 (spec_BookOk.l1 kq x3_1 x5_3 l0_0 l0_1 ((rd_T38 l0_0 x3_1).f0) ((rd_T38 l0_0 x3_1).f1) ((rd_T38 l0_0 x3_1).f2) ((rd_T38 l0_0 x3_1).f3) ((rd_T38 l0_0 x3_1).f4) = some r) ∧ Aside0 (kq ≤ kj4) ∧ Aside0 (w'.heap[gb115]? = some (.cells #[(.slice (some ad116) l0_0.length c0_0), (.slice A0_1 l0_1.length c0_1)] 30 (0, 0))) ∧ Aside0 (w'.heap[gb117]? = some (.cells #[.int .i64 ((rd_T38 l0_0 x3_1).f0), .string ((rd_T38 l0_0 x3_1).f1), .string ((rd_T38 l0_0 x3_1).f2), .int .i64 ((rd_T38 l0_0 x3_1).f3), (.slice A116_4 ((rd_T38 l0_0 x3_1).f4).length c116_4)] 38 (0, 0))) ∧ Aside0 (Below w.heap.size w w'))
        case atStart => exact ⟨(0), (by first | rfl | (simp; done) | (simp [*]; done)), H', ⟨Nat.le_refl _⟩, ⟨by (with_reducible repeat (first | refine blk_drewN ?_ _ | refine blk_drew ?_ | refine blk_alloc ?_ _)); exact BK115.out⟩, ⟨by (with_reducible repeat (first | refine blk_drewN ?_ _ | refine blk_drew ?_ | refine blk_alloc ?_ _)); exact BK117.out⟩, ⟨by repeat (first | (with_reducible first | exact HB.out | apply below_alloc | apply pw_below_drewN | apply below_drew1 | refine below_set ?_ GE115.out | refine below_set ?_ GE117.out) | exact HB.out)⟩⟩
        case round =>
         clear H'
         (try clear c1); (try clear p2); (try clear c6); (try clear c11); (try clear c12); (try clear c63); (try clear p2)
         obtain ⟨x5_3, rfl, HA, HK3, BK115, BK117, HB⟩ := hrel
         cases gk with
         | zero => exact absurd HA.out (by simp [spec_BookOk.l1])
         | succ k3 =>
          have H := HA.out
          clear HA
          simp only [spec_BookOk.l1] at H
          by_cases c64 : x5_3 < (((rd_T38 l0_0 x3_1).f4).length : Int)
          ·rw [if_pos c64] at H
           have c64b0 : decide (x5_3 < (((rd_T38 l0_0 x3_1).f4).length : Int)) = true := decide_eq_true c64
           clear c64
           by_cases c65 : 0 ≤ x5_3
           ·rw [if_pos c65] at H
            have c65b0 : decide (0 ≤ x5_3) = true := decide_eq_true c65
            clear c65
            by_cases c66 : (rdOf ByteArray.empty ((rd_T38 l0_0 x3_1).f4) x5_3).toList = ([] : List UInt8)
            ·rw [if_pos c66] at H
             have c66b0 : ((rdOf ByteArray.empty ((rd_T38 l0_0 x3_1).f4) x5_3).toList == ([] : List UInt8)) = true := beq_iff_eq.mpr c66
             have c66b1 : ((rdOf ByteArray.empty ((rd_T38 l0_0 x3_1).f4) x5_3).toList != ([] : List UInt8)) = false := bne_eq_false_iff_eq.mpr c66
             clear c66
             have H' := Aside0.mk H
             clear H
             have hnb67 := NB117_115.out
             have hnc67 := NB115_117.out
             have hcz68_0 : wr.cell? ⟨gb117, 0, none⟩ = some (.int .i64 ((rd_T38 l0_0 x3_1).f0)) := (blk_cell BK117.out 0).trans rfl
             have hcz68_1 : wr.cell? ⟨gb117, 1, none⟩ = some (.string ((rd_T38 l0_0 x3_1).f1)) := (blk_cell BK117.out 1).trans rfl
             have hcz68_2 : wr.cell? ⟨gb117, 2, none⟩ = some (.string ((rd_T38 l0_0 x3_1).f2)) := (blk_cell BK117.out 2).trans rfl
             have hcz68_3 : wr.cell? ⟨gb117, 3, none⟩ = some (.int .i64 ((rd_T38 l0_0 x3_1).f3)) := (blk_cell BK117.out 3).trans rfl
             have hcz68_4 : wr.cell? ⟨gb117, 4, none⟩ = some (.slice A116_4 ((rd_T38 l0_0 x3_1).f4).length c116_4) := (blk_cell BK117.out 4).trans rfl
             have hfz68_0 := blk_frozen BK117.out 0
             have hfz68_1 := blk_frozen BK117.out 1
             have hfz68_2 := blk_frozen BK117.out 2
             have hfz68_3 := blk_frozen BK117.out 3
             have hfz68_4 := blk_frozen BK117.out 4
             have p128 : 0 ≤ (x5_3 : Int) := of_decide_eq_true (by first | (with_reducible assumption) | assumption)
             have q128 : x5_3 < (((rd_T38 l0_0 x3_1).f4).length : Int) := of_decide_eq_true (by first | (with_reducible assumption) | assumption)
             obtain ⟨ad128, e128, hx128_0⟩ := Kd.at_string HR116_4.out x5_3 p128 q128
             cases e128
             replace hx128_0 := (HB.out.cell (World.block_lt_of_cell? w _ hx128_0)).trans hx128_0
             replace p128 := eq_true p128
             replace q128 := eq_true q128
             go_wp2
             go_roundg k3
             case measure => have := HK1.out; have := HJ4.out; have := HK3.out; omega
             case rel => exact ⟨(wrap64 (x5_3 + 1)), (by first | rfl | (simp; done) | (simp [*]; done)), H', ⟨by have := HK1.out; have := HJ4.out; have := HK3.out; omega⟩, ⟨by (with_reducible repeat (first | refine blk_drewN ?_ _ | refine blk_drew ?_ | refine blk_alloc ?_ _)); exact BK115.out⟩, ⟨by (with_reducible repeat (first | refine blk_drewN ?_ _ | refine blk_drew ?_ | refine blk_alloc ?_ _)); exact BK117.out⟩, ⟨by repeat (first | (with_reducible first | exact HB.out | apply below_alloc | apply pw_below_drewN | apply below_drew1 | refine below_set ?_ GE115.out | refine below_set ?_ GE117.out) | exact HB.out)⟩⟩
            ·rw [if_neg c66] at H
             have c66b0 : ((rdOf ByteArray.empty ((rd_T38 l0_0 x3_1).f4) x5_3).toList == ([] : List UInt8)) = false := beq_eq_false_iff_ne.mpr c66
             have c66b1 : ((rdOf ByteArray.empty ((rd_T38 l0_0 x3_1).f4) x5_3).toList != ([] : List UInt8)) = true := bne_iff_ne.mpr c66
             replace H := Option.bind_eq_some_iff.mp H
             obtain ⟨t130, A690, H⟩ := H
             (try dsimp only at H)
             have A69 := Aside0.mk A690
             clear A690
             by_cases c70 : t130 = true
             ·subst c70
              rw [if_pos rfl] at H
              have H' := Aside0.mk H
              clear H
              have hnb71 := NB117_115.out
              have hnc71 := NB115_117.out
              have hcz72_0 : wr.cell? ⟨gb117, 0, none⟩ = some (.int .i64 ((rd_T38 l0_0 x3_1).f0)) := (blk_cell BK117.out 0).trans rfl
              have hcz72_1 : wr.cell? ⟨gb117, 1, none⟩ = some (.string ((rd_T38 l0_0 x3_1).f1)) := (blk_cell BK117.out 1).trans rfl
              have hcz72_2 : wr.cell? ⟨gb117, 2, none⟩ = some (.string ((rd_T38 l0_0 x3_1).f2)) := (blk_cell BK117.out 2).trans rfl
              have hcz72_3 : wr.cell? ⟨gb117, 3, none⟩ = some (.int .i64 ((rd_T38 l0_0 x3_1).f3)) := (blk_cell BK117.out 3).trans rfl
              have hcz72_4 : wr.cell? ⟨gb117, 4, none⟩ = some (.slice A116_4 ((rd_T38 l0_0 x3_1).f4).length c116_4) := (blk_cell BK117.out 4).trans rfl
              have hfz72_0 := blk_frozen BK117.out 0
              have hfz72_1 := blk_frozen BK117.out 1
              have hfz72_2 := blk_frozen BK117.out 2
              have hfz72_3 := blk_frozen BK117.out 3
              have hfz72_4 := blk_frozen BK117.out 4
              have p128 : 0 ≤ (x5_3 : Int) := of_decide_eq_true (by first | (with_reducible assumption) | assumption)
              have q128 : x5_3 < (((rd_T38 l0_0 x3_1).f4).length : Int) := of_decide_eq_true (by first | (with_reducible assumption) | assumption)
              obtain ⟨ad128, e128, hx128_0⟩ := Kd.at_string HR116_4.out x5_3 p128 q128
              cases e128
              replace hx128_0 := (HB.out.cell (World.block_lt_of_cell? w _ hx128_0)).trans hx128_0
              replace p128 := eq_true p128
              replace q128 := eq_true q128
              have p129 : 0 ≤ (x5_3 : Int) := of_decide_eq_true (by first | (with_reducible assumption) | assumption)
              have q129 : x5_3 < (((rd_T38 l0_0 x3_1).f4).length : Int) := of_decide_eq_true (by first | (with_reducible assumption) | assumption)
              obtain ⟨ad129, e129, hx129_0⟩ := Kd.at_string HR116_4.out x5_3 p129 q129
              obtain rfl : ad128 = ad129 := (by injection e129)
              replace hx129_0 := (HB.out.cell (World.block_lt_of_cell? w _ hx129_0)).trans hx129_0
              replace p129 := eq_true p129
              replace q129 := eq_true q129
              go_wp2_with (first | (go_at_call 12; (with_reducible refine (spec_l1Name.calls k3 (rdOf ByteArray.empty ((rd_T38 l0_0 x3_1).f4) x5_3) true _ A69.out).mono ?_); rintro e w' ⟨rfl, ⟨nd, rfl⟩⟩))
              go_roundg k3
              case measure => have := HK1.out; have := HJ4.out; have := HK3.out; omega
              case rel => exact ⟨(wrap64 (x5_3 + 1)), (by first | rfl | (simp; done) | (simp [*]; done)), H', ⟨by have := HK1.out; have := HJ4.out; have := HK3.out; omega⟩, ⟨by (with_reducible repeat (first | refine blk_drewN ?_ _ | refine blk_drew ?_ | refine blk_alloc ?_ _)); exact BK115.out⟩, ⟨by (with_reducible repeat (first | refine blk_drewN ?_ _ | refine blk_drew ?_ | refine blk_alloc ?_ _)); exact BK117.out⟩, ⟨by repeat (first | (with_reducible first | exact HB.out | apply below_alloc | apply pw_below_drewN | apply below_drew1 | refine below_set ?_ GE115.out | refine below_set ?_ GE117.out) | exact HB.out)⟩⟩
             ·replace c70 := Bool.eq_false_iff.mpr c70
              subst c70
              rw [if_neg (show ¬ (false = true) by decide)] at H
              obtain rfl := Option.some.inj H
              have hnb73 := NB117_115.out
              have hnc73 := NB115_117.out
              have hcz74_0 : wr.cell? ⟨gb117, 0, none⟩ = some (.int .i64 ((rd_T38 l0_0 x3_1).f0)) := (blk_cell BK117.out 0).trans rfl
              have hcz74_1 : wr.cell? ⟨gb117, 1, none⟩ = some (.string ((rd_T38 l0_0 x3_1).f1)) := (blk_cell BK117.out 1).trans rfl
              have hcz74_2 : wr.cell? ⟨gb117, 2, none⟩ = some (.string ((rd_T38 l0_0 x3_1).f2)) := (blk_cell BK117.out 2).trans rfl
              have hcz74_3 : wr.cell? ⟨gb117, 3, none⟩ = some (.int .i64 ((rd_T38 l0_0 x3_1).f3)) := (blk_cell BK117.out 3).trans rfl
              have hcz74_4 : wr.cell? ⟨gb117, 4, none⟩ = some (.slice A116_4 ((rd_T38 l0_0 x3_1).f4).length c116_4) := (blk_cell BK117.out 4).trans rfl
              have hfz74_0 := blk_frozen BK117.out 0
              have hfz74_1 := blk_frozen BK117.out 1
              have hfz74_2 := blk_frozen BK117.out 2
              have hfz74_3 := blk_frozen BK117.out 3
              have hfz74_4 := blk_frozen BK117.out 4
              have p128 : 0 ≤ (x5_3 : Int) := of_decide_eq_true (by first | (with_reducible assumption) | assumption)
              have q128 : x5_3 < (((rd_T38 l0_0 x3_1).f4).length : Int) := of_decide_eq_true (by first | (with_reducible assumption) | assumption)
              obtain ⟨ad128, e128, hx128_0⟩ := Kd.at_string HR116_4.out x5_3 p128 q128
              cases e128
              replace hx128_0 := (HB.out.cell (World.block_lt_of_cell? w _ hx128_0)).trans hx128_0
              replace p128 := eq_true p128
              replace q128 := eq_true q128
              have p129 : 0 ≤ (x5_3 : Int) := of_decide_eq_true (by first | (with_reducible assumption) | assumption)
              have q129 : x5_3 < (((rd_T38 l0_0 x3_1).f4).length : Int) := of_decide_eq_true (by first | (with_reducible assumption) | assumption)
              obtain ⟨ad129, e129, hx129_0⟩ := Kd.at_string HR116_4.out x5_3 p129 q129
              obtain rfl : ad128 = ad129 := (by injection e129)
              replace hx129_0 := (HB.out.cell (World.block_lt_of_cell? w _ hx129_0)).trans hx129_0
              replace p129 := eq_true p129
              replace q129 := eq_true q129
              go_wp2_with (first | (go_at_call 12; (with_reducible refine (spec_l1Name.calls k3 (rdOf ByteArray.empty ((rd_T38 l0_0 x3_1).f4) x5_3) false _ A69.out).mono ?_); rintro e w' ⟨rfl, ⟨nd, rfl⟩⟩))
              go_ret
              exact ⟨by first | rfl | (simp [errW_none, errW_some] <;> rfl) | (simp [*, errW_none, errW_some] <;> rfl), by repeat (first | (with_reducible first | exact HB.out | apply below_alloc | apply pw_below_drewN | apply below_drew1 | refine below_set ?_ GE115.out | refine below_set ?_ GE117.out) | exact HB.out)⟩
           ·rw [if_neg c65] at H
            exact absurd H (by simp)
          ·rw [if_neg c64] at H
           have c64b0 : decide (x5_3 < (((rd_T38 l0_0 x3_1).f4).length : Int)) = false := decide_eq_false c64
           clear c64
           have H' := Aside0.mk H
           clear H
           have hnb75 := NB117_115.out
           have hnc75 := NB115_117.out
           have hcz76_0 : wr.cell? ⟨gb117, 0, none⟩ = some (.int .i64 ((rd_T38 l0_0 x3_1).f0)) := (blk_cell BK117.out 0).trans rfl
           have hcz76_1 : wr.cell? ⟨gb117, 1, none⟩ = some (.string ((rd_T38 l0_0 x3_1).f1)) := (blk_cell BK117.out 1).trans rfl
           have hcz76_2 : wr.cell? ⟨gb117, 2, none⟩ = some (.string ((rd_T38 l0_0 x3_1).f2)) := (blk_cell BK117.out 2).trans rfl
           have hcz76_3 : wr.cell? ⟨gb117, 3, none⟩ = some (.int .i64 ((rd_T38 l0_0 x3_1).f3)) := (blk_cell BK117.out 3).trans rfl
           have hcz76_4 : wr.cell? ⟨gb117, 4, none⟩ = some (.slice A116_4 ((rd_T38 l0_0 x3_1).f4).length c116_4) := (blk_cell BK117.out 4).trans rfl
           have hfz76_0 := blk_frozen BK117.out 0
           have hfz76_1 := blk_frozen BK117.out 1
           have hfz76_2 := blk_frozen BK117.out 2
           have hfz76_3 := blk_frozen BK117.out 3
           have hfz76_4 := blk_frozen BK117.out 4
           go_wp2
           go_roundg k3
           case measure => have := HK1.out; have := HJ4.out; have := HK3.out; omega
           case rel => exact ⟨(wrap64 (x3_1 + 1)), (by first | rfl | (simp; done) | (simp [*]; done)), H', ⟨by have := HK1.out; have := HJ4.out; have := HK3.out; omega⟩, ⟨by (with_reducible repeat (first | refine blk_drewN ?_ _ | refine blk_drew ?_ | refine blk_alloc ?_ _)); exact BK115.out⟩, ⟨by repeat (first | (with_reducible first | exact HB.out | apply below_alloc | apply pw_below_drewN | apply below_drew1 | refine below_set ?_ GE115.out | refine below_set ?_ GE117.out) | exact HB.out)⟩⟩
    ·rw [if_neg c4] at H
     exact absurd H (by simp)
   ·rw [if_neg c3] at H
    have c3b0 : decide (x3_1 < (l0_0.length : Int)) = false := decide_eq_false c3
    clear c3
    have H' := Aside0.mk H
    clear H
    have hcz77_0 : wr.cell? ⟨gb115, 0, none⟩ = some (.slice A0_0 l0_0.length c0_0) := (blk_cell BK115.out 0).trans rfl
    have hcz77_1 : wr.cell? ⟨gb115, 1, none⟩ = some (.slice A0_1 l0_1.length c0_1) := (blk_cell BK115.out 1).trans rfl
    have hfz77_0 := blk_frozen BK115.out 0
    have hfz77_1 := blk_frozen BK115.out 1
    go_wp2
    go_loopg [6] k1 (fun kq v6 w' => ∃ (x6_2 : Int), v6 = .int .i64 x6_2 ∧ Aside0 (spec_BookOk.l2 kq x6_2 l0_0 l0_1 = some r) ∧ Aside0 (kq ≤ k1) ∧ Aside0 (w'.heap[gb115]? = some (.cells #[(.slice A0_0 l0_0.length c0_0), (.slice A0_1 l0_1.length c0_1)] 30 (0, 0))) ∧ Aside0 (Below w.heap.size w w'))
    case atStart => exact ⟨(0), (by first | rfl | (simp; done) | (simp [*]; done)), H', ⟨Nat.le_refl _⟩, ⟨by (with_reducible repeat (first | refine blk_drewN ?_ _ | refine blk_drew ?_ | refine blk_alloc ?_ _)); exact BK115.out⟩, ⟨by repeat (first | (with_reducible first | exact HB.out | apply below_alloc | apply pw_below_drewN | apply below_drew1 | refine below_set ?_ GE115.out) | exact HB.out)⟩⟩
    case round =>
     clear H'
     (try clear c1); (try clear p1); (try clear q1); (try clear hx1); (try clear p2); (try clear c3); (try clear c3b0); (try clear c4); (try clear c6); (try clear p6); (try clear c7); (try clear c11); (try clear c12); (try clear p12); (try clear q12); (try clear hx12); (try clear c63); (try clear c64); (try clear c64b0); (try clear p64); (try clear c65); (try clear c65b0); (try clear c66); (try clear c66b0); (try clear c66b1); (try clear c67); (try clear c70); (try clear c71); (try clear c73); (try clear c75); (try clear hcz68_0); (try clear hcz68_1); (try clear hcz68_2); (try clear hcz68_3); (try clear hcz68_4); (try clear hcz72_0); (try clear hcz72_1); (try clear hcz72_2); (try clear hcz72_3); (try clear hcz72_4); (try clear hcz74_0); (try clear hcz74_1); (try clear hcz74_2); (try clear hcz74_3); (try clear hcz74_4); (try clear hcz76_0); (try clear hcz76_1); (try clear hcz76_2); (try clear hcz76_3); (try clear hcz76_4); (try clear hcz77_0); (try clear hcz77_1); (try clear hfz68_0); (try clear hfz68_1); (try clear hfz68_2); (try clear hfz68_3); (try clear hfz68_4); (try clear hfz72_0); (try clear hfz72_1); (try clear hfz72_2); (try clear hfz72_3); (try clear hfz72_4); (try clear hfz74_0); (try clear hfz74_1); (try clear hfz74_2); (try clear hfz74_3); (try clear hfz74_4); (try clear hfz76_0); (try clear hfz76_1); (try clear hfz76_2); (try clear hfz76_3); (try clear hfz76_4); (try clear hfz77_0); (try clear hfz77_1); (try clear hx128_0); (try clear hx129_0); (try clear p128); (try clear p129); (try clear p2); (try clear q128); (try clear q129)
     obtain ⟨x6_2, rfl, HA, HK2, BK115, HB⟩ := hrel
     cases gk with
     | zero => exact absurd HA.out (by simp [spec_BookOk.l2])
     | succ k2 =>
      have H := HA.out
      clear HA
      simp only [spec_BookOk.l2] at H
      by_cases c78 : x6_2 < (l0_1.length : Int)
      ·rw [if_pos c78] at H
       have c78b0 : decide (x6_2 < (l0_1.length : Int)) = true := decide_eq_true c78
       clear c78
       have HC79 := Aside0.mk H
       clear H
       have hcz80_0 : wr.cell? ⟨gb115, 0, none⟩ = some (.slice A0_0 l0_0.length c0_0) := (blk_cell BK115.out 0).trans rfl
       have hcz80_1 : wr.cell? ⟨gb115, 1, none⟩ = some (.slice A0_1 l0_1.length c0_1) := (blk_cell BK115.out 1).trans rfl
       have hfz80_0 := blk_frozen BK115.out 0
       have hfz80_1 := blk_frozen BK115.out 1
       go_upto_region 15 with (fail)
       go_cut [124] (fun v124 wc => ∃ (kq : Nat) (x124_78 : Bool), v124 = .bool x124_78 ∧ Aside0 (spec_BookOk.j4 kq x6_2 x124_78 l0_0 l0_1 = some r) ∧ Aside0 (kq ≤ k2) ∧ Aside0 (wc.heap[gb115]? = some (.cells #[(.slice A0_0 l0_0.length c0_0), (.slice A0_1 l0_1.length c0_1)] 30 (0, 0))) ∧ Aside0 (Below w.heap.size w wc))
       case first =>
        have H := HC79.out
        clear HC79
        by_cases c81 : 0 ≤ x6_2
        ·rw [if_pos c81] at H
         have c81b0 : decide (0 ≤ x6_2) = true := decide_eq_true c81
         clear c81
         (first | rw [c81b0] | (simp only [i64_w, i32_w]; rw [c81b0]) | skip)
         replace H := Option.bind_eq_some_iff.mp H
         obtain ⟨t132, A820, H⟩ := H
         (try dsimp only at H)
         have A82 := Aside0.mk A820
         clear A820
         by_cases c83 : t132 < 0
         ·rw [if_pos c83] at H
          have c83b0 : decide (t132 < 0) = true := decide_eq_true c83
          clear c83
          have H' := Aside0.mk H
          clear H
          try go_wp2
          have n0_ := Aside0.mk (blk_drew BK115.out)
          have n1_ := Aside0.mk (below_drew1 HB.out)
          clear BK115
          clear HB
          have BK115 := n0_
          have HB := n1_
          clear n0_ n1_
          have p131 : 0 ≤ (x6_2 : Int) := of_decide_eq_true (by first | (with_reducible assumption) | assumption)
          have q131 : x6_2 < (l0_1.length : Int) := of_decide_eq_true (by first | (with_reducible assumption) | assumption)
          obtain ⟨ad131, e131, hx131_0⟩ := Kd.at_int HR0_1.out x6_2 p131 q131
          have hw131_0 := hx131_0
          cases e131
          replace hx131_0 := (HB.out.cell (World.block_lt_of_cell? w _ hx131_0)).trans hx131_0
          replace p131 := eq_true p131
          replace q131 := eq_true q131
          refine start_ (n := 26) (S := fun w' => w'.cell? ⟨gb115, 0, none⟩ = some (.slice A0_0 l0_0.length c0_0) ∧ w'.cell? ⟨gb115, 1, none⟩ = some (.slice (some ad131) l0_1.length c0_1) ∧ w'.cell? (ad131.add (x6_2).toNat) = some (.int .i64 (rd l0_1 x6_2))) (ds := []) spec_BookOk.v60 (by kernel_rfl) rfl rfl ⟨(blk_cell BK115.out 0).trans rfl, (blk_cell BK115.out 1).trans rfl, ((HB.out.cell (World.block_lt_of_cell? w _ hw131_0)).trans hw131_0)⟩ (fun hHeld => ?_); refine with_tabW spec_BookOk.tab15 spec_BookOk.bits15 (fun HT_ HW_ => ?_)
          generalize wr.drew = w84 at BK115 HB hx131_0 hHeld ⊢
          refine Sk.pq 1 100 spec_BookOk.v61 HT_.out (h := ?_)
          refine Sk.pq 3 102 spec_BookOk.v62 HT_.out (h := ?_)
          refine Sk.tk3 0 99 spec_BookOk.v63 HT_.out HW_.out hHeld (h := ?_)
          refine Sk.tk3 2 101 spec_BookOk.v64 HT_.out HW_.out hHeld (h := ?_)
          refine Sk.pq 4 103 spec_BookOk.v65 HT_.out (h := ?_)
          refine Sk.tk3 5 104 spec_BookOk.v66 HT_.out HW_.out hHeld (h := ?_)
          refine one_ (i := 6) (N := some 105) spec_BookOk.v67 rfl rfl (one_of HT_.out (by kernel_rfl)) (by decide) (fun K hK => ?_)
          refine goes_ Try.func13 (by kernel_rfl) rfl #[.agg #[.slice A0_0 l0_0.length c0_0, .slice (some ad131) l0_1.length c0_1], .int .i64 (rd l0_1 x6_2)] (by rfl) rfl rfl (by (try simp only [List.map_toArray, List.map_cons, List.map_nil]); first | done | rfl | (simp only [List.length_drop, List.length_take]; rfl)) ?_
          with_reducible refine (spec_l14Find.calls k2 _ _ l0_0 _ _ l0_1 (rd l0_1 x6_2) t132 _ ?side1 ?side2 ?side3 ?side4 A82.out).mono ?_
          (case side1 => repeat (first | exact (Kd.C_below HR0_0.out HB.out) | (with_reducible refine Kd.C_alloc ?_ _) | (with_reducible refine Kd.C_drewN ?_ _) | (with_reducible refine Kd.C_drew ?_)))
          (case side2 => exact HC0_0.out)
          (case side3 => repeat (first | exact (Kd.C_below HR0_1.out HB.out) | (with_reducible refine Kd.C_alloc ?_ _) | (with_reducible refine Kd.C_drewN ?_ _) | (with_reducible refine Kd.C_drew ?_)))
          (case side4 => exact HC0_1.out)
          rintro e w85 ⟨rfl, hb⟩
          refine ⟨_, rfl, ?_⟩
          have n0_ := Aside0.mk (blk_below (g := gb115) (o := .cells #[.slice A0_0 l0_0.length c0_0, .slice (some ad131) l0_1.length c0_1] 30 (0, 0)) (by (with_reducible repeat (first | refine blk_drewN ?_ _ | refine blk_drew ?_ | refine blk_alloc ?_ _)); exact BK115.out) hb)
          have n1_ := Aside0.mk (below_step (by repeat (first | (with_reducible first | exact HB.out | apply below_alloc | apply pw_below_drewN | apply below_drew1 | refine below_set ?_ GE115.out) | exact HB.out)) hb)
          clear BK115
          clear HB
          have BK115 := n0_
          have HB := n1_
          clear n0_ n1_
          (try clear hb)
          (try clear hb2)
          (try clear hk)
          (try clear hi)
          refine hK.out _ _ ⟨(blk_cell BK115.out 0).trans rfl, (blk_cell BK115.out 1).trans rfl, ((HB.out.cell (World.block_lt_of_cell? w _ hw131_0)).trans hw131_0)⟩ (fun hHeld => ?_)
          clear hK K
          refine Sk.nm 105 (h := ?_)
          refine Sk.pq 7 106 spec_BookOk.v68 HT_.out (h := ?_)
          refine Sk.pq 8 107 spec_BookOk.v69 HT_.out (h := ?_)
          refine Sk.pu 9 108 spec_BookOk.v70 HT_.out (h := ?_)
          refine Sk.pu 10 109 spec_BookOk.v71 HT_.out (h := ?_)
          refine Sk.pu 11 110 spec_BookOk.v72 HT_.out (h := ?_)
          refine Sk.pu 12 111 spec_BookOk.v73 HT_.out (h := ?_)
          refine Sk.pu 13 112 spec_BookOk.v74 HT_.out (h := ?_)
          refine Sk.pu 14 113 spec_BookOk.v75 HT_.out (h := ?_)
          refine Sk.pu 15 114 spec_BookOk.v76 HT_.out (h := ?_)
          refine Sk.pu 16 115 spec_BookOk.v77 HT_.out (h := ?_)
          refine Sk.pu 17 116 spec_BookOk.v78 HT_.out (h := ?_)
          refine Sk.pu 18 117 spec_BookOk.v79 HT_.out (h := ?_)
          refine Sk.pu 19 118 spec_BookOk.v80 HT_.out (h := ?_)
          refine Sk.pu 20 119 spec_BookOk.v81 HT_.out (h := ?_)
          refine Sk.pu 21 120 spec_BookOk.v82 HT_.out (h := ?_)
          refine Sk.pu 22 121 spec_BookOk.v83 HT_.out (h := ?_)
          refine Sk.pu 23 122 spec_BookOk.v84 HT_.out (h := ?_)
          refine Sk.pu 24 123 spec_BookOk.v85 HT_.out (h := ?_)
          refine Sk.pq 25 124 spec_BookOk.v86 HT_.out (h := ?_)
          refine done_ (done_of HT_.out (by kernel_rfl)) ?_
          try go_wp2
          go_meet
          case rel => exact ⟨_, (true), (by first | rfl | (simp; done) | (simp [*]; done)), H', ⟨by have := HK1.out; have := HK2.out; first | omega | exact Nat.le_refl _⟩, ⟨by (with_reducible repeat (first | refine blk_drewN ?_ _ | refine blk_drew ?_ | refine blk_alloc ?_ _)); exact BK115.out⟩, ⟨by repeat (first | (with_reducible first | exact HB.out | apply below_alloc | apply pw_below_drewN | apply below_drew1 | refine below_set ?_ GE115.out) | exact HB.out)⟩⟩
         ·rw [if_neg c83] at H
          have c83b0 : decide (t132 < 0) = false := decide_eq_false c83
          clear c83
          by_cases c86 : x6_2 > 0
          ·rw [if_pos c86] at H
           have c86b0 : decide (0 < x6_2) = true := decide_eq_true c86
           clear c86
           obtain ⟨ji87, hji87⟩ : ∃ j_ : Int, (wrap64 (x6_2 - 1)) = j_ := ⟨_, rfl⟩
           replace H : (if 0 ≤ (ji87) then (if (ji87) < (l0_1.length : Int) then (spec_BookOk.j4 k2 x6_2 (decide ((rd l0_1 (ji87)) ≥ (rd l0_1 x6_2))) l0_0 l0_1) else (none)) else (none)) = some r := by first | (rw [hji87] at H; exact H) | (simp only [hji87] at H ⊢; exact H)
           (try rw [hji87] at A82)
           have hji87w : (IntKind.i64.wrap (x6_2 - 1)) = ji87 := (i64_w _).trans hji87
           by_cases c88 : 0 ≤ (ji87)
           ·rw [if_pos c88] at H
            have c88b0 : decide (0 ≤ (ji87)) = true := decide_eq_true c88
            clear c88
            by_cases c89 : (ji87) < (l0_1.length : Int)
            ·rw [if_pos c89] at H
             have c89b0 : decide ((ji87) < (l0_1.length : Int)) = true := decide_eq_true c89
             clear c89
             have H' := Aside0.mk H
             clear H
             try go_wp2
             have n0_ := Aside0.mk (blk_drew BK115.out)
             have n1_ := Aside0.mk (below_drew1 HB.out)
             clear BK115
             clear HB
             have BK115 := n0_
             have HB := n1_
             clear n0_ n1_
             have p131 : 0 ≤ (x6_2 : Int) := of_decide_eq_true (by first | (with_reducible assumption) | assumption)
             have q131 : x6_2 < (l0_1.length : Int) := of_decide_eq_true (by first | (with_reducible assumption) | assumption)
             obtain ⟨ad131, e131, hx131_0⟩ := Kd.at_int HR0_1.out x6_2 p131 q131
             have hw131_0 := hx131_0
             cases e131
             replace hx131_0 := (HB.out.cell (World.block_lt_of_cell? w _ hx131_0)).trans hx131_0
             replace p131 := eq_true p131
             replace q131 := eq_true q131
             have p133 : 0 ≤ ((ji87) : Int) := of_decide_eq_true (by first | (with_reducible assumption) | assumption)
             have q133 : (ji87) < (l0_1.length : Int) := of_decide_eq_true (by first | (with_reducible assumption) | assumption)
             obtain ⟨ad133, e133, hx133_0⟩ := Kd.at_int HR0_1.out (ji87) p133 q133
             have hw133_0 := hx133_0
             obtain rfl : ad131 = ad133 := (by injection e133)
             replace hx133_0 := (HB.out.cell (World.block_lt_of_cell? w _ hx133_0)).trans hx133_0
             replace p133 := eq_true p133
             replace q133 := eq_true q133
             have p134 : 0 ≤ (x6_2 : Int) := of_decide_eq_true (by first | (with_reducible assumption) | assumption)
             have q134 : x6_2 < (l0_1.length : Int) := of_decide_eq_true (by first | (with_reducible assumption) | assumption)
             obtain ⟨ad134, e134, hx134_0⟩ := Kd.at_int HR0_1.out x6_2 p134 q134
             have hw134_0 := hx134_0
             obtain rfl : ad131 = ad134 := (by injection e134)
             replace hx134_0 := (HB.out.cell (World.block_lt_of_cell? w _ hx134_0)).trans hx134_0
             replace p134 := eq_true p134
             replace q134 := eq_true q134
             refine start_ (n := 26) (S := fun w' => w'.cell? ⟨gb115, 0, none⟩ = some (.slice A0_0 l0_0.length c0_0) ∧ w'.cell? ⟨gb115, 1, none⟩ = some (.slice (some ad131) l0_1.length c0_1) ∧ w'.cell? (ad131.add (x6_2).toNat) = some (.int .i64 (rd l0_1 x6_2)) ∧ w'.cell? (ad131.add ((ji87)).toNat) = some (.int .i64 (rd l0_1 (ji87))) ∧ w'.cell? (ad131.add (x6_2).toNat) = some (.int .i64 (rd l0_1 x6_2))) (ds := []) spec_BookOk.v60 (by kernel_rfl) rfl rfl ⟨(blk_cell BK115.out 0).trans rfl, (blk_cell BK115.out 1).trans rfl, ((HB.out.cell (World.block_lt_of_cell? w _ hw131_0)).trans hw131_0), ((HB.out.cell (World.block_lt_of_cell? w _ hw133_0)).trans hw133_0), ((HB.out.cell (World.block_lt_of_cell? w _ hw134_0)).trans hw134_0)⟩ (fun hHeld => ?_); refine with_tabW spec_BookOk.tab15 spec_BookOk.bits15 (fun HT_ HW_ => ?_)
             generalize wr.drew = w90 at BK115 HB hx131_0 hx133_0 hx134_0 hHeld ⊢
             refine Sk.pq 1 100 spec_BookOk.v61 HT_.out (h := ?_)
             refine Sk.pq 3 102 spec_BookOk.v62 HT_.out (h := ?_)
             refine Sk.tk5 0 99 spec_BookOk.v63 HT_.out HW_.out hHeld (h := ?_)
             refine Sk.tk5 2 101 spec_BookOk.v64 HT_.out HW_.out hHeld (h := ?_)
             refine Sk.pq 4 103 spec_BookOk.v65 HT_.out (h := ?_)
             refine Sk.tk5 5 104 spec_BookOk.v66 HT_.out HW_.out hHeld (h := ?_)
             refine one_ (i := 6) (N := some 105) spec_BookOk.v67 rfl rfl (one_of HT_.out (by kernel_rfl)) (by decide) (fun K hK => ?_)
             refine goes_ Try.func13 (by kernel_rfl) rfl #[.agg #[.slice A0_0 l0_0.length c0_0, .slice (some ad131) l0_1.length c0_1], .int .i64 (rd l0_1 x6_2)] (by rfl) rfl rfl (by (try simp only [List.map_toArray, List.map_cons, List.map_nil]); first | done | rfl | (simp only [List.length_drop, List.length_take]; rfl)) ?_
             with_reducible refine (spec_l14Find.calls k2 _ _ l0_0 _ _ l0_1 (rd l0_1 x6_2) t132 _ ?side1 ?side2 ?side3 ?side4 A82.out).mono ?_
             (case side1 => repeat (first | exact (Kd.C_below HR0_0.out HB.out) | (with_reducible refine Kd.C_alloc ?_ _) | (with_reducible refine Kd.C_drewN ?_ _) | (with_reducible refine Kd.C_drew ?_)))
             (case side2 => exact HC0_0.out)
             (case side3 => repeat (first | exact (Kd.C_below HR0_1.out HB.out) | (with_reducible refine Kd.C_alloc ?_ _) | (with_reducible refine Kd.C_drewN ?_ _) | (with_reducible refine Kd.C_drew ?_)))
             (case side4 => exact HC0_1.out)
             rintro e w91 ⟨rfl, hb⟩
             refine ⟨_, rfl, ?_⟩
             have n0_ := Aside0.mk (blk_below (g := gb115) (o := .cells #[.slice A0_0 l0_0.length c0_0, .slice (some ad131) l0_1.length c0_1] 30 (0, 0)) (by (with_reducible repeat (first | refine blk_drewN ?_ _ | refine blk_drew ?_ | refine blk_alloc ?_ _)); exact BK115.out) hb)
             have n1_ := Aside0.mk (below_step (by repeat (first | (with_reducible first | exact HB.out | apply below_alloc | apply pw_below_drewN | apply below_drew1 | refine below_set ?_ GE115.out) | exact HB.out)) hb)
             clear BK115
             clear HB
             have BK115 := n0_
             have HB := n1_
             clear n0_ n1_
             (try clear hb)
             (try clear hb2)
             (try clear hk)
             (try clear hi)
             refine hK.out _ _ ⟨(blk_cell BK115.out 0).trans rfl, (blk_cell BK115.out 1).trans rfl, ((HB.out.cell (World.block_lt_of_cell? w _ hw131_0)).trans hw131_0), ((HB.out.cell (World.block_lt_of_cell? w _ hw133_0)).trans hw133_0), ((HB.out.cell (World.block_lt_of_cell? w _ hw134_0)).trans hw134_0)⟩ (fun hHeld => ?_)
             clear hK K
             refine Sk.nm 105 (h := ?_)
             refine Sk.pq 7 106 spec_BookOk.v68 HT_.out (h := ?_)
             refine Sk.pq 8 107 spec_BookOk.v69 HT_.out (h := ?_)
             refine Sk.pq 9 108 spec_BookOk.v70 HT_.out (h := ?_)
             refine Sk.pq 10 109 spec_BookOk.v71 HT_.out (h := ?_)
             refine Sk.pq 11 110 spec_BookOk.v72 HT_.out (h := ?_)
             refine Sk.pq 12 111 spec_BookOk.v73 HT_.out (h := ?_)
             refine Sk.pq 14 113 spec_BookOk.v87 HT_.out (h := ?_)
             refine Sk.pq 15 114 spec_BookOk.v88 HT_.out (h := ?_)
             refine Sk.pq 18 117 spec_BookOk.v89 HT_.out (h := ?_)
             refine Sk.pq 20 119 spec_BookOk.v90 HT_.out (h := ?_)
             refine Sk.tk5 13 112 spec_BookOk.v91 HT_.out HW_.out hHeld (h := ?_)
             refine Sk.pq 16 115 spec_BookOk.v92 HT_.out (h := ?_)
             refine Sk.tk5 17 116 spec_BookOk.v93 HT_.out HW_.out hHeld (h := ?_)
             refine Sk.tk5 19 118 spec_BookOk.v81 HT_.out HW_.out hHeld (h := ?_)
             refine Sk.pq 21 120 spec_BookOk.v82 HT_.out (h := ?_)
             refine Sk.tk5 22 121 spec_BookOk.v83 HT_.out HW_.out hHeld (h := ?_)
             refine Sk.pq 23 122 spec_BookOk.v84 HT_.out (h := ?_)
             refine Sk.pq 24 123 spec_BookOk.v85 HT_.out (h := ?_)
             refine Sk.pq 25 124 spec_BookOk.v86 HT_.out (h := ?_)
             refine done_ (done_of HT_.out (by kernel_rfl)) ?_
             try go_wp2
             go_meet
             case rel => exact ⟨_, (decide ((rd l0_1 (ji87)) ≥ (rd l0_1 x6_2))), (by first | rfl | (simp; done) | (simp only [← hji87] <;> (first | rfl | simp)) | (simp [*]; done)), H', ⟨by have := HK1.out; have := HK2.out; first | omega | exact Nat.le_refl _⟩, ⟨by (with_reducible repeat (first | refine blk_drewN ?_ _ | refine blk_drew ?_ | refine blk_alloc ?_ _)); exact BK115.out⟩, ⟨by repeat (first | (with_reducible first | exact HB.out | apply below_alloc | apply pw_below_drewN | apply below_drew1 | refine below_set ?_ GE115.out) | exact HB.out)⟩⟩
            ·rw [if_neg c89] at H
             exact absurd H (by simp)
           ·rw [if_neg c88] at H
            exact absurd H (by simp)
          ·rw [if_neg c86] at H
           have c86b0 : decide (0 < x6_2) = false := decide_eq_false c86
           clear c86
           have H' := Aside0.mk H
           clear H
           try go_wp2
           have n0_ := Aside0.mk (blk_drew BK115.out)
           have n1_ := Aside0.mk (below_drew1 HB.out)
           clear BK115
           clear HB
           have BK115 := n0_
           have HB := n1_
           clear n0_ n1_
           have p131 : 0 ≤ (x6_2 : Int) := of_decide_eq_true (by first | (with_reducible assumption) | assumption)
           have q131 : x6_2 < (l0_1.length : Int) := of_decide_eq_true (by first | (with_reducible assumption) | assumption)
           obtain ⟨ad131, e131, hx131_0⟩ := Kd.at_int HR0_1.out x6_2 p131 q131
           have hw131_0 := hx131_0
           cases e131
           replace hx131_0 := (HB.out.cell (World.block_lt_of_cell? w _ hx131_0)).trans hx131_0
           replace p131 := eq_true p131
           replace q131 := eq_true q131
           refine start_ (n := 26) (S := fun w' => w'.cell? ⟨gb115, 0, none⟩ = some (.slice A0_0 l0_0.length c0_0) ∧ w'.cell? ⟨gb115, 1, none⟩ = some (.slice (some ad131) l0_1.length c0_1) ∧ w'.cell? (ad131.add (x6_2).toNat) = some (.int .i64 (rd l0_1 x6_2))) (ds := []) spec_BookOk.v60 (by kernel_rfl) rfl rfl ⟨(blk_cell BK115.out 0).trans rfl, (blk_cell BK115.out 1).trans rfl, ((HB.out.cell (World.block_lt_of_cell? w _ hw131_0)).trans hw131_0)⟩ (fun hHeld => ?_); refine with_tabW spec_BookOk.tab15 spec_BookOk.bits15 (fun HT_ HW_ => ?_)
           generalize wr.drew = w92 at BK115 HB hx131_0 hHeld ⊢
           refine Sk.pq 1 100 spec_BookOk.v61 HT_.out (h := ?_)
           refine Sk.pq 3 102 spec_BookOk.v62 HT_.out (h := ?_)
           refine Sk.tk3 0 99 spec_BookOk.v63 HT_.out HW_.out hHeld (h := ?_)
           refine Sk.tk3 2 101 spec_BookOk.v64 HT_.out HW_.out hHeld (h := ?_)
           refine Sk.pq 4 103 spec_BookOk.v65 HT_.out (h := ?_)
           refine Sk.tk3 5 104 spec_BookOk.v66 HT_.out HW_.out hHeld (h := ?_)
           refine one_ (i := 6) (N := some 105) spec_BookOk.v67 rfl rfl (one_of HT_.out (by kernel_rfl)) (by decide) (fun K hK => ?_)
           refine goes_ Try.func13 (by kernel_rfl) rfl #[.agg #[.slice A0_0 l0_0.length c0_0, .slice (some ad131) l0_1.length c0_1], .int .i64 (rd l0_1 x6_2)] (by rfl) rfl rfl (by (try simp only [List.map_toArray, List.map_cons, List.map_nil]); first | done | rfl | (simp only [List.length_drop, List.length_take]; rfl)) ?_
           with_reducible refine (spec_l14Find.calls k2 _ _ l0_0 _ _ l0_1 (rd l0_1 x6_2) t132 _ ?side1 ?side2 ?side3 ?side4 A82.out).mono ?_
           (case side1 => repeat (first | exact (Kd.C_below HR0_0.out HB.out) | (with_reducible refine Kd.C_alloc ?_ _) | (with_reducible refine Kd.C_drewN ?_ _) | (with_reducible refine Kd.C_drew ?_)))
           (case side2 => exact HC0_0.out)
           (case side3 => repeat (first | exact (Kd.C_below HR0_1.out HB.out) | (with_reducible refine Kd.C_alloc ?_ _) | (with_reducible refine Kd.C_drewN ?_ _) | (with_reducible refine Kd.C_drew ?_)))
           (case side4 => exact HC0_1.out)
           rintro e w93 ⟨rfl, hb⟩
           refine ⟨_, rfl, ?_⟩
           have n0_ := Aside0.mk (blk_below (g := gb115) (o := .cells #[.slice A0_0 l0_0.length c0_0, .slice (some ad131) l0_1.length c0_1] 30 (0, 0)) (by (with_reducible repeat (first | refine blk_drewN ?_ _ | refine blk_drew ?_ | refine blk_alloc ?_ _)); exact BK115.out) hb)
           have n1_ := Aside0.mk (below_step (by repeat (first | (with_reducible first | exact HB.out | apply below_alloc | apply pw_below_drewN | apply below_drew1 | refine below_set ?_ GE115.out) | exact HB.out)) hb)
           clear BK115
           clear HB
           have BK115 := n0_
           have HB := n1_
           clear n0_ n1_
           (try clear hb)
           (try clear hb2)
           (try clear hk)
           (try clear hi)
           refine hK.out _ _ ⟨(blk_cell BK115.out 0).trans rfl, (blk_cell BK115.out 1).trans rfl, ((HB.out.cell (World.block_lt_of_cell? w _ hw131_0)).trans hw131_0)⟩ (fun hHeld => ?_)
           clear hK K
           refine Sk.nm 105 (h := ?_)
           refine Sk.pq 7 106 spec_BookOk.v68 HT_.out (h := ?_)
           refine Sk.pq 8 107 spec_BookOk.v69 HT_.out (h := ?_)
           refine Sk.pq 9 108 spec_BookOk.v70 HT_.out (h := ?_)
           refine Sk.pq 10 109 spec_BookOk.v71 HT_.out (h := ?_)
           refine Sk.pq 11 110 spec_BookOk.v72 HT_.out (h := ?_)
           refine Sk.pu 12 111 spec_BookOk.v73 HT_.out (h := ?_)
           refine Sk.pu 13 112 spec_BookOk.v74 HT_.out (h := ?_)
           refine Sk.pu 14 113 spec_BookOk.v75 HT_.out (h := ?_)
           refine Sk.pu 15 114 spec_BookOk.v76 HT_.out (h := ?_)
           refine Sk.pu 16 115 spec_BookOk.v77 HT_.out (h := ?_)
           refine Sk.pu 17 116 spec_BookOk.v78 HT_.out (h := ?_)
           refine Sk.pu 18 117 spec_BookOk.v79 HT_.out (h := ?_)
           refine Sk.pu 19 118 spec_BookOk.v80 HT_.out (h := ?_)
           refine Sk.pu 20 119 spec_BookOk.v81 HT_.out (h := ?_)
           refine Sk.pu 21 120 spec_BookOk.v82 HT_.out (h := ?_)
           refine Sk.pu 22 121 spec_BookOk.v83 HT_.out (h := ?_)
           refine Sk.pu 23 122 spec_BookOk.v84 HT_.out (h := ?_)
           refine Sk.pq 24 123 spec_BookOk.v85 HT_.out (h := ?_)
           refine Sk.pq 25 124 spec_BookOk.v86 HT_.out (h := ?_)
           refine done_ (done_of HT_.out (by kernel_rfl)) ?_
           try go_wp2
           go_meet
           case rel => exact ⟨_, (false), (by first | rfl | (simp; done) | (simp [*]; done)), H', ⟨by have := HK1.out; have := HK2.out; first | omega | exact Nat.le_refl _⟩, ⟨by (with_reducible repeat (first | refine blk_drewN ?_ _ | refine blk_drew ?_ | refine blk_alloc ?_ _)); exact BK115.out⟩, ⟨by repeat (first | (with_reducible first | exact HB.out | apply below_alloc | apply pw_below_drewN | apply below_drew1 | refine below_set ?_ GE115.out) | exact HB.out)⟩⟩
        ·rw [if_neg c81] at H
         exact absurd H (by simp)
       case rest =>
        clear HC79
        (try clear c1); (try clear p1); (try clear q1); (try clear hx1); (try clear p2); (try clear p6); (try clear c8); (try clear c13); (try clear p13); (try clear q13); (try clear hx13); (try clear p64); (try clear c81); (try clear c83); (try clear c83b0); (try clear c86); (try clear c86b0); (try clear c88); (try clear c88b0); (try clear c89); (try clear c89b0); (try clear hx131_0); (try clear hx133_0); (try clear hx134_0); (try clear p131); (try clear p133); (try clear p134); (try clear q131); (try clear q133); (try clear q134)
        obtain ⟨kq, x124_78, rfl, HA, HJ78, BK115, HB⟩ := hcut
        cases kq with
        | zero => exact absurd HA.out (by simp [spec_BookOk.j4])
        | succ kj78 =>
         have H := HA.out
         clear HA
         simp only [spec_BookOk.j4] at H
         by_cases c94 : x124_78 = true
         ·subst c94
          rw [if_pos rfl] at H
          obtain rfl := Option.some.inj H
          go_wp2
          go_ret
          exact ⟨by first | rfl | (simp [errW_none, errW_some] <;> rfl) | (simp [*, errW_none, errW_some] <;> rfl), by repeat (first | (with_reducible first | exact HB.out | apply below_alloc | apply pw_below_drewN | apply below_drew1 | refine below_set ?_ GE115.out) | exact HB.out)⟩
         ·replace c94 := Bool.eq_false_iff.mpr c94
          subst c94
          rw [if_neg (show ¬ (false = true) by decide)] at H
          have H' := Aside0.mk H
          clear H
          go_wp2
          go_roundg kj78
          case measure => have := HK1.out; have := HK2.out; have := HJ78.out; omega
          case rel => exact ⟨(wrap64 (x6_2 + 1)), (by first | rfl | (simp; done) | (simp [*]; done)), H', ⟨by have := HK1.out; have := HK2.out; have := HJ78.out; omega⟩, ⟨by (with_reducible repeat (first | refine blk_drewN ?_ _ | refine blk_drew ?_ | refine blk_alloc ?_ _)); exact BK115.out⟩, ⟨by repeat (first | (with_reducible first | exact HB.out | apply below_alloc | apply pw_below_drewN | apply below_drew1 | refine below_set ?_ GE115.out) | exact HB.out)⟩⟩
      ·rw [if_neg c78] at H
       have c78b0 : decide (x6_2 < (l0_1.length : Int)) = false := decide_eq_false c78
       clear c78
       obtain rfl := Option.some.inj H
       have hcz95_0 : wr.cell? ⟨gb115, 0, none⟩ = some (.slice A0_0 l0_0.length c0_0) := (blk_cell BK115.out 0).trans rfl
       have hcz95_1 : wr.cell? ⟨gb115, 1, none⟩ = some (.slice A0_1 l0_1.length c0_1) := (blk_cell BK115.out 1).trans rfl
       have hfz95_0 := blk_frozen BK115.out 0
       have hfz95_1 := blk_frozen BK115.out 1
       go_wp2
       go_ret
       exact ⟨by first | rfl | (simp [errW_none, errW_some] <;> rfl) | (simp [*, errW_none, errW_some] <;> rfl), by repeat (first | (with_reducible first | exact HB.out | apply below_alloc | apply pw_below_drewN | apply below_drew1 | refine below_set ?_ GE115.out) | exact HB.out)⟩

end Go.Proofs.Ythbmpegaogfibad.PB
