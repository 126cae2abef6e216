/- What Go's functions that the laws reach come to: laid by a program of this session over the print's words. -/
import Derived.Test.YtfeaabdighopbaaPGx0
import Derived.Test.YtfeaabdighopbaaPGx1
import Derived.Test.YtfeaabdighopbaaPGx2
import Derived.Test.YtfeaabdighopbaaPGx9
import Derived.Test.YtfeaabdighopbaaPGx14
namespace Go.Proofs.Ytfeaabdighopbaa.PG
open Go.RowKit Go.Proofs.YtfeaabdighopbaaW.PrintWords Go.Proofs.YtfeaabdighopbaaW.PrintLast Go.Proofs.YtfeaabdighopbaaW.PrintMore
attribute [local go_sem] max2_int min2_int max_two min_two max_three min_three max_four min_four   -- for this text's walks alone
set_option linter.unusedVariables false
set_option linter.unusedSimpArgs false

-- NOT PRINTED: function 64 (impl_Berth_1)

-- NOT PRINTED: function 65 (impl_Berth_2)

/-! ### impl_Berth_1: function 64, a literal that captures an int -/
set_option maxHeartbeats 4000000 in
set_option maxRecDepth 100000 in
theorem impl_Berth_1.lit (x : S91) (a2 : Int) (B : Nat) (w : World) (hB : w.heap[B]? = some (.cells #[.int .i64 a2] 3 (0, 0))) :
    Calls Try.prog 64 #[.agg #[.int .i64 x.f0, .int .i64 x.f1, .int .i64 x.f2, .int .i64 x.f3, .int .i64 x.f4], .pointer (some ⟨B, 0, none⟩)] w fun e w' => e = .returned (.bool (x.f0 == a2)) ∧ Below w.heap.size w w' := by
  have hu91 := Try.underlying91
  have BKB := Aside0.mk hB
  clear hB
  have HB := Aside0.mk (Below.refl w.heap.size w)
  go_enter Try.func64, Try.ntmps64
  go_wp2_with (first | ((with_reducible refine gate_dst (N := 2) rfl ?_); refine box_event ?hg (N := 2) ?hd (cs := #[.int .i64 x.f0, .int .i64 x.f1, .int .i64 x.f2, .int .i64 x.f3, .int .i64 x.f4]) (t := 91) ?hr ?_; (case hd => rfl); (case hg => rfl); (case hr => first | (go_simp; done) | (go_simp; rfl)); intro gx hg w2 hbox hb; have GBKX := Aside0.mk (show w.heap.size ≤ gx by rw [hg]; exact below_size (by repeat (first | (with_reducible first | exact HB.out | apply below_alloc | apply pw_below_drewN | apply below_drew1) | exact HB.out))); have BKX := Aside0.mk hbox; have n0_ := Aside0.mk (below_step (by repeat (first | (with_reducible first | exact HB.out | apply below_alloc | apply pw_below_drewN | apply below_drew1) | exact HB.out)) hb); have n1_ := Aside0.mk (blk_below (g := B) (o := .cells #[.int .i64 a2] 3 (0, 0)) (by (with_reducible repeat (first | refine blk_drewN ?_ _ | refine blk_drew ?_ | refine blk_alloc ?_ _)); exact BKB.out) hb); clear HB BKB; have HB := n0_; have BKB := n1_; clear n0_ n1_; clear hb hbox hg; have hcw2BKB_0 : w2.cell? ⟨B, 0, none⟩ = some (.int .i64 a2) := (blk_cell BKB.out 0).trans rfl; have hcw2BKX_0 : w2.cell? ⟨gx, 0, none⟩ = some (.int .i64 x.f0) := (blk_cell BKX.out 0).trans rfl; have hcw2BKX_1 : w2.cell? ⟨gx, 1, none⟩ = some (.int .i64 x.f1) := (blk_cell BKX.out 1).trans rfl; have hcw2BKX_2 : w2.cell? ⟨gx, 2, none⟩ = some (.int .i64 x.f2) := (blk_cell BKX.out 2).trans rfl; have hcw2BKX_3 : w2.cell? ⟨gx, 3, none⟩ = some (.int .i64 x.f3) := (blk_cell BKX.out 3).trans rfl; have hcw2BKX_4 : w2.cell? ⟨gx, 4, none⟩ = some (.int .i64 x.f4) := (blk_cell BKX.out 4).trans rfl))
  go_ret
  exact ⟨by first | rfl | (simp; done) | (simp [*]; done), (by repeat (first | (with_reducible first | exact HB.out | apply below_alloc | apply pw_below_drewN | apply below_drew1) | exact HB.out))⟩

/-! ### impl_Berth_2: function 65, a literal that captures an int and a struct -/
set_option maxHeartbeats 4000000 in
set_option maxRecDepth 100000 in
theorem impl_Berth_2.lit (x : S91) (a2 : Int) (a1_0 a1_1 a1_2 a1_3 a1_4 : Int) (B C : Nat) (w : World) (hB : w.heap[B]? = some (.cells #[.int .i64 a2] 3 (0, 0))) (hC : w.heap[C]? = some (.cells #[.int .i64 a1_0, .int .i64 a1_1, .int .i64 a1_2, .int .i64 a1_3, .int .i64 a1_4] 91 (0, 0))) :
    Calls Try.prog 65 #[.agg #[.int .i64 x.f0, .int .i64 x.f1, .int .i64 x.f2, .int .i64 x.f3, .int .i64 x.f4], .pointer (some ⟨B, 0, none⟩), .pointer (some ⟨C, 0, none⟩)] w fun e w' => e = .returned (.bool (x.f0 != a2 && (impl_shares.f x.f0 x.f1 x.f2 x.f3 x.f4 a1_0 a1_1 a1_2 a1_3 a1_4 == some true))) ∧ Below w.heap.size w w' := by
  have hu91 := Try.underlying91
  obtain ⟨b, hb0⟩ : ∃ b, impl_shares.f x.f0 x.f1 x.f2 x.f3 x.f4 a1_0 a1_1 a1_2 a1_3 a1_4 = some b := by unfold impl_shares.f; (repeat' split) <;> exact ⟨_, rfl⟩
  have hcon := fun W => impl_shares.calls x.f0 x.f1 x.f2 x.f3 x.f4 a1_0 a1_1 a1_2 a1_3 a1_4 b W hb0
  have HCON := Aside0.mk hcon
  clear hcon
  rw [hb0]
  clear hb0
  have BKB := Aside0.mk hB
  have BKC := Aside0.mk hC
  clear hB hC
  have HB := Aside0.mk (Below.refl w.heap.size w)
  by_cases c : x.f0 = a2
  · have c0 : (x.f0 == a2) = true := beq_iff_eq.2 c
    have c1 : decide (x.f0 = a2) = true := decide_eq_true c
    have c2 : (x.f0 != a2) = false := by simp [bne, c0]
    clear c
    go_enter Try.func65, Try.ntmps65
    go_wp2_with (first | ((with_reducible refine gate_dst (N := 3) rfl ?_); refine box_event ?hg (N := 3) ?hd (cs := #[.int .i64 x.f0, .int .i64 x.f1, .int .i64 x.f2, .int .i64 x.f3, .int .i64 x.f4]) (t := 91) ?hr ?_; (case hd => rfl); (case hg => rfl); (case hr => first | (go_simp; done) | (go_simp; rfl)); intro gx hg w2 hbox hb; have GBKX := Aside0.mk (show w.heap.size ≤ gx by rw [hg]; exact below_size (by repeat (first | (with_reducible first | exact HB.out | apply below_alloc | apply pw_below_drewN | apply below_drew1) | exact HB.out))); have BKX := Aside0.mk hbox; have n0_ := Aside0.mk (below_step (by repeat (first | (with_reducible first | exact HB.out | apply below_alloc | apply pw_below_drewN | apply below_drew1) | exact HB.out)) hb); have n1_ := Aside0.mk (blk_below (g := B) (o := .cells #[.int .i64 a2] 3 (0, 0)) (by (with_reducible repeat (first | refine blk_drewN ?_ _ | refine blk_drew ?_ | refine blk_alloc ?_ _)); exact BKB.out) hb); have n2_ := Aside0.mk (blk_below (g := C) (o := .cells #[.int .i64 a1_0, .int .i64 a1_1, .int .i64 a1_2, .int .i64 a1_3, .int .i64 a1_4] 91 (0, 0)) (by (with_reducible repeat (first | refine blk_drewN ?_ _ | refine blk_drew ?_ | refine blk_alloc ?_ _)); exact BKC.out) hb); clear HB BKB BKC; have HB := n0_; have BKB := n1_; have BKC := n2_; clear n0_ n1_ n2_; clear hb hbox hg; have hcw2BKB_0 : w2.cell? ⟨B, 0, none⟩ = some (.int .i64 a2) := (blk_cell BKB.out 0).trans rfl; have hcw2BKC_0 : w2.cell? ⟨C, 0, none⟩ = some (.int .i64 a1_0) := (blk_cell BKC.out 0).trans rfl; have hcw2BKC_1 : w2.cell? ⟨C, 1, none⟩ = some (.int .i64 a1_1) := (blk_cell BKC.out 1).trans rfl; have hcw2BKC_2 : w2.cell? ⟨C, 2, none⟩ = some (.int .i64 a1_2) := (blk_cell BKC.out 2).trans rfl; have hcw2BKC_3 : w2.cell? ⟨C, 3, none⟩ = some (.int .i64 a1_3) := (blk_cell BKC.out 3).trans rfl; have hcw2BKC_4 : w2.cell? ⟨C, 4, none⟩ = some (.int .i64 a1_4) := (blk_cell BKC.out 4).trans rfl; have hcw2BKX_0 : w2.cell? ⟨gx, 0, none⟩ = some (.int .i64 x.f0) := (blk_cell BKX.out 0).trans rfl; have hcw2BKX_1 : w2.cell? ⟨gx, 1, none⟩ = some (.int .i64 x.f1) := (blk_cell BKX.out 1).trans rfl; have hcw2BKX_2 : w2.cell? ⟨gx, 2, none⟩ = some (.int .i64 x.f2) := (blk_cell BKX.out 2).trans rfl; have hcw2BKX_3 : w2.cell? ⟨gx, 3, none⟩ = some (.int .i64 x.f3) := (blk_cell BKX.out 3).trans rfl; have hcw2BKX_4 : w2.cell? ⟨gx, 4, none⟩ = some (.int .i64 x.f4) := (blk_cell BKX.out 4).trans rfl))
    go_ret
    exact ⟨by first | rfl | (simp; done) | (simp [*]; done), (by repeat (first | (with_reducible first | exact HB.out | apply below_alloc | apply pw_below_drewN | apply below_drew1) | exact HB.out))⟩
  · have c0 : (x.f0 == a2) = false := beq_eq_false_iff_ne.2 c
    have c1 : decide (x.f0 = a2) = false := decide_eq_false c
    have c2 : (x.f0 != a2) = true := by simp [bne, c0]
    clear c
    go_enter Try.func65, Try.ntmps65
    go_wp2_with (first | ((with_reducible refine gate_dst (N := 3) rfl ?_); refine box_event ?hg (N := 3) ?hd (cs := #[.int .i64 x.f0, .int .i64 x.f1, .int .i64 x.f2, .int .i64 x.f3, .int .i64 x.f4]) (t := 91) ?hr ?_; (case hd => rfl); (case hg => rfl); (case hr => first | (go_simp; done) | (go_simp; rfl)); intro gx hg w2 hbox hb; have GBKX := Aside0.mk (show w.heap.size ≤ gx by rw [hg]; exact below_size (by repeat (first | (with_reducible first | exact HB.out | apply below_alloc | apply pw_below_drewN | apply below_drew1) | exact HB.out))); have BKX := Aside0.mk hbox; have n0_ := Aside0.mk (below_step (by repeat (first | (with_reducible first | exact HB.out | apply below_alloc | apply pw_below_drewN | apply below_drew1) | exact HB.out)) hb); have n1_ := Aside0.mk (blk_below (g := B) (o := .cells #[.int .i64 a2] 3 (0, 0)) (by (with_reducible repeat (first | refine blk_drewN ?_ _ | refine blk_drew ?_ | refine blk_alloc ?_ _)); exact BKB.out) hb); have n2_ := Aside0.mk (blk_below (g := C) (o := .cells #[.int .i64 a1_0, .int .i64 a1_1, .int .i64 a1_2, .int .i64 a1_3, .int .i64 a1_4] 91 (0, 0)) (by (with_reducible repeat (first | refine blk_drewN ?_ _ | refine blk_drew ?_ | refine blk_alloc ?_ _)); exact BKC.out) hb); clear HB BKB BKC; have HB := n0_; have BKB := n1_; have BKC := n2_; clear n0_ n1_ n2_; clear hb hbox hg; have hcw2BKB_0 : w2.cell? ⟨B, 0, none⟩ = some (.int .i64 a2) := (blk_cell BKB.out 0).trans rfl; have hcw2BKC_0 : w2.cell? ⟨C, 0, none⟩ = some (.int .i64 a1_0) := (blk_cell BKC.out 0).trans rfl; have hcw2BKC_1 : w2.cell? ⟨C, 1, none⟩ = some (.int .i64 a1_1) := (blk_cell BKC.out 1).trans rfl; have hcw2BKC_2 : w2.cell? ⟨C, 2, none⟩ = some (.int .i64 a1_2) := (blk_cell BKC.out 2).trans rfl; have hcw2BKC_3 : w2.cell? ⟨C, 3, none⟩ = some (.int .i64 a1_3) := (blk_cell BKC.out 3).trans rfl; have hcw2BKC_4 : w2.cell? ⟨C, 4, none⟩ = some (.int .i64 a1_4) := (blk_cell BKC.out 4).trans rfl; have hcw2BKX_0 : w2.cell? ⟨gx, 0, none⟩ = some (.int .i64 x.f0) := (blk_cell BKX.out 0).trans rfl; have hcw2BKX_1 : w2.cell? ⟨gx, 1, none⟩ = some (.int .i64 x.f1) := (blk_cell BKX.out 1).trans rfl; have hcw2BKX_2 : w2.cell? ⟨gx, 2, none⟩ = some (.int .i64 x.f2) := (blk_cell BKX.out 2).trans rfl; have hcw2BKX_3 : w2.cell? ⟨gx, 3, none⟩ = some (.int .i64 x.f3) := (blk_cell BKX.out 3).trans rfl; have hcw2BKX_4 : w2.cell? ⟨gx, 4, none⟩ = some (.int .i64 x.f4) := (blk_cell BKX.out 4).trans rfl) | (go_at_call 59; refine (HCON.out _).mono ?_; rintro e w' ⟨rfl, hb⟩; have n0_ := Aside0.mk (below_step (by repeat (first | (with_reducible first | exact HB.out | apply below_alloc | apply pw_below_drewN | apply below_drew1) | exact HB.out)) hb); clear HB hb; have HB := n0_; clear n0_))
    go_ret
    exact ⟨by first | rfl | (cases b <;> rfl) | (cases b <;> simp [*]; done), (by repeat (first | (with_reducible first | exact HB.out | apply below_alloc | apply pw_below_drewN | apply below_drew1) | exact HB.out))⟩

/-! ### impl_Berth: function 24 -/
def impl_Berth.l0 : Nat → Int → List S91 → Int → Int → Int → Int → Int → Int → Option (Int × Bool)
  | 0, _, _, _, _, _, _, _, _ => none
  | k + 1, a0, l1, a2, c0, c1, c2, c3, at_ => if wrap64 (at_ + c1) ≤ a0 then (if (l1.any fun x => x.f0 != a2 && (impl_shares.f x.f0 x.f1 x.f2 x.f3 x.f4 c0 c1 c2 c3 at_ == some true)) = true then impl_Berth.l0 k a0 l1 a2 c0 c1 c2 c3 (wrap64 (at_ + 1)) else some (at_, true)) else some (-1, false)
def impl_Berth.f (k : Nat) (a0 : Int) (l1 : List S91) (a2 : Int) : Option (Int × Bool) := (impl_Clear17.f k a0 l1).bind fun t => if t = true then (if Gv.idxP (fun x => x.f0 == a2) l1 < 0 then some (-1, false) else impl_Berth.l0 k a0 l1 a2 (rd_T91 l1 (Gv.idxP (fun x => x.f0 == a2) l1)).f0 (rd_T91 l1 (Gv.idxP (fun x => x.f0 == a2) l1)).f1 (rd_T91 l1 (Gv.idxP (fun x => x.f0 == a2) l1)).f2 (rd_T91 l1 (Gv.idxP (fun x => x.f0 == a2) l1)).f3 0) else some (-1, false)
theorem impl_Berth.mono_l : ∀ k, (∀ y0 y1 y2 y3 y4 y5 y6 y7, LeO (impl_Berth.l0 k y0 y1 y2 y3 y4 y5 y6 y7) (impl_Berth.l0 (k + 1) y0 y1 y2 y3 y4 y5 y6 y7))
  | 0 => fun _ _ _ _ _ _ _ _ r h => by simp [impl_Berth.l0] at h
  | k + 1 => by
    have ih0 := impl_Berth.mono_l k
    intro y0 y1 y2 y3 y4 y5 y6 y7
    unfold impl_Berth.l0
    exact LeO.ite (LeO.ite (ih0 _ _ _ _ _ _ _ _) (LeO.refl _)) (LeO.refl _)
theorem impl_Berth.mono : ∀ a0 a1 a2 k, LeO (impl_Berth.f k a0 a1 a2) (impl_Berth.f (k + 1) a0 a1 a2) := by
  intro a0 a1 a2 k
  unfold impl_Berth.f
  exact LeO.bind (impl_Clear17.mono _ _ _) fun _ => LeO.ite (LeO.ite (LeO.refl _) (impl_Berth.mono_l k _ _ _ _ _ _ _ _)) (LeO.refl _)
set_option maxHeartbeats 8000000 in
set_option maxRecDepth 100000 in
theorem impl_Berth.calls (k : Nat) (a0 : Int) (A1 : Option Addr) (c1 : Nat) (l1 : List (S91)) (a2 : Int) (r1 : Int) (r2 : Bool) (w : World) (hr1 : Kd.C k91 w A1 l1.length l1) (hc1 : l1.length ≤ c1) (h : impl_Berth.f k a0 l1 a2 = some (r1, r2)) :
    Calls Try.prog 24 #[.int .i64 a0, .slice A1 l1.length c1, .int .i64 a2] w fun e w' => e = .returned (.tuple #[.int .i64 r1, .bool r2]) ∧ Below w.heap.size w w' := by
  have hu91 := Try.underlying91
  have hmf : ∀ (fn : Fn) (first cap : Array Value) (w : World), (Instr.makeFunc fn first cap).run Try.prog w = .ok (.func fn first cap) w := fun _ _ _ _ => rfl
  have hcon1 : ∀ (W : World) (B : Nat), Below w.heap.size w W → W.heap[B]? = some (.cells #[.int .i64 a2] 3 (0, 0)) → Calls Try.prog 63 #[.slice A1 l1.length c1, .func (.func 64) #[] #[.pointer (some ⟨B, 0, none⟩)]] W fun e w' => e = .returned (.int .i64 (Gv.idxP (fun x => x.f0 == a2) l1)) ∧ Below W.heap.size W w' := fun W B hb hB =>
    impl_Call_63.callsP 64 #[.pointer (some ⟨B, 0, none⟩)] (fun x => x.f0 == a2) A1 c1 l1 W (enters_of Try.func64 (by kernel_rfl) rfl) (fun W2 x _ hb2 => impl_Berth_1.lit x a2 B W2 (blk_below hB hb2)) (Kd.C_below hr1 hb)
  have hcon2 : ∀ (W : World) (B C : Nat) (c0 c1_ c2 c3 at_ : Int), Below w.heap.size w W → W.heap[B]? = some (.cells #[.int .i64 a2] 3 (0, 0)) → W.heap[C]? = some (.cells #[.int .i64 c0, .int .i64 c1_, .int .i64 c2, .int .i64 c3, .int .i64 at_] 91 (0, 0)) → Calls Try.prog 57 #[.slice A1 l1.length c1, .func (.func 65) #[] #[.pointer (some ⟨B, 0, none⟩), .pointer (some ⟨C, 0, none⟩)]] W fun e w' => e = .returned (.bool (l1.any fun x => x.f0 != a2 && (impl_shares.f x.f0 x.f1 x.f2 x.f3 x.f4 c0 c1_ c2 c3 at_ == some true))) ∧ Below W.heap.size W w' := fun W B C c0 c1_ c2 c3 at_ hb hB hC =>
    impl_Call_57.callsP 65 #[.pointer (some ⟨B, 0, none⟩), .pointer (some ⟨C, 0, none⟩)] _ A1 c1 l1 W (enters_of Try.func65 (by kernel_rfl) rfl) (fun W2 x _ hb2 => impl_Berth_2.lit x a2 c0 c1_ c2 c3 at_ B C W2 (blk_below hB hb2) (blk_below hC hb2)) (Kd.C_below hr1 hb)
  have hcon3 : ∀ (W : World) (t : Bool), Below w.heap.size w W → impl_Clear17.f k a0 l1 = some t → Calls Try.prog 17 #[.int .i64 a0, .slice A1 l1.length c1] W fun e w' => e = .returned (.bool t) ∧ Below W.heap.size W w' := fun W t hb ht => impl_Clear17.calls k a0 A1 c1 l1 t W (Kd.C_below hr1 hb) hc1 ht
  have HC1 := Aside0.mk hcon1
  have HC2 := Aside0.mk hcon2
  have HC3 := Aside0.mk hcon3
  have HR1 := Aside0.mk hr1
  clear hcon1 hcon2 hcon3 hr1 hc1
  have HB := Aside0.mk (Below.refl w.heap.size w)
  unfold impl_Berth.f at h
  obtain ⟨i, hi⟩ : ∃ i, i = Gv.idxP (fun x => x.f0 == a2) l1 := ⟨_, rfl⟩
  rw [← hi] at h HC1
  have HI : Aside0 (i < 0 ∨ i < (l1.length : Int)) := Aside0.mk (by
    rw [hi]; unfold Gv.idxP
    by_cases c : l1.any (fun x => x.f0 == a2) = true
    · rw [if_pos c]; right; have h2 := List.findIdx_lt_length_of_exists (List.any_eq_true.1 c); omega
    · rw [if_neg c]; left; omega)
  clear hi
  obtain ⟨t, ht, h⟩ := Option.bind_eq_some_iff.mp h
  have HT := Aside0.mk ht
  clear ht
  cases t with
  | false =>
    rw [if_neg (by decide)] at h
    obtain ⟨rfl, rfl⟩ := Prod.mk.inj (Option.some.inj h)
    clear h
    go_enter Try.func24, Try.ntmps24
    go_wp2_with (first | ((with_reducible refine gate_dst (N := 5) rfl ?_); refine box_event ?hg (N := 5) ?hd (cs := #[.int .i64 a2]) (t := 3) ?hr ?_; (case hd => rfl); (case hg => rfl); (case hr => first | (go_simp; done) | (go_simp; rfl)); intro gb hg w2 hbox hb; have GBKB := Aside0.mk (show w.heap.size ≤ gb by rw [hg]; exact below_size (by repeat (first | (with_reducible first | exact HB.out | apply below_alloc | apply pw_below_drewN | apply below_drew1) | exact HB.out))); have BKB := Aside0.mk hbox; have n0_ := Aside0.mk (below_step (by repeat (first | (with_reducible first | exact HB.out | apply below_alloc | apply pw_below_drewN | apply below_drew1) | exact HB.out)) hb); clear HB ; have HB := n0_; clear n0_; clear hb hbox hg; have hcw2BKB_0 : w2.cell? ⟨gb, 0, none⟩ = some (.int .i64 a2) := (blk_cell BKB.out 0).trans rfl) | (go_at_call 63; refine (HC1.out _ gb (by repeat (first | (with_reducible first | exact HB.out | apply below_alloc | apply pw_below_drewN | apply below_drew1) | exact HB.out)) (by (with_reducible repeat (first | refine blk_drewN ?_ _ | refine blk_drew ?_ | refine blk_alloc ?_ _)); exact BKB.out)).mono ?_; rintro e w3 ⟨rfl, hb⟩; have n0_ := Aside0.mk (below_step (by repeat (first | (with_reducible first | exact HB.out | apply below_alloc | apply pw_below_drewN | apply below_drew1) | exact HB.out)) hb); have n1_ := Aside0.mk (blk_below (g := gb) (o := .cells #[.int .i64 a2] 3 (0, 0)) (by (with_reducible repeat (first | refine blk_drewN ?_ _ | refine blk_drew ?_ | refine blk_alloc ?_ _)); exact BKB.out) hb); clear HB BKB; have HB := n0_; have BKB := n1_; clear n0_ n1_; clear hb; have hcw3BKB_0 : w3.cell? ⟨gb, 0, none⟩ = some (.int .i64 a2) := (blk_cell BKB.out 0).trans rfl) | (go_at_call 17; refine (HC3.out _ _ (by repeat (first | (with_reducible first | exact HB.out | apply below_alloc | apply pw_below_drewN | apply below_drew1) | exact HB.out)) HT.out).mono ?_; rintro e w4 ⟨rfl, hb⟩; have n0_ := Aside0.mk (below_step (by repeat (first | (with_reducible first | exact HB.out | apply below_alloc | apply pw_below_drewN | apply below_drew1) | exact HB.out)) hb); have n1_ := Aside0.mk (blk_below (g := gb) (o := .cells #[.int .i64 a2] 3 (0, 0)) (by (with_reducible repeat (first | refine blk_drewN ?_ _ | refine blk_drew ?_ | refine blk_alloc ?_ _)); exact BKB.out) hb); clear HB BKB; have HB := n0_; have BKB := n1_; clear n0_ n1_; clear hb; have hcw4BKB_0 : w4.cell? ⟨gb, 0, none⟩ = some (.int .i64 a2) := (blk_cell BKB.out 0).trans rfl))
    go_ret2
    exact ⟨by first | rfl | (simp; done) | (simp [*]; done), (by repeat (first | (with_reducible first | exact HB.out | apply below_alloc | apply pw_below_drewN | apply below_drew1) | exact HB.out))⟩
  | true =>
    rw [if_pos rfl] at h
    by_cases c : i < 0
    · rw [if_pos c] at h
      obtain ⟨rfl, rfl⟩ := Prod.mk.inj (Option.some.inj h)
      clear h
      have cb : decide (i < 0) = true := decide_eq_true c
      replace c := eq_true c
      go_enter Try.func24, Try.ntmps24
      go_wp2_with (first | ((with_reducible refine gate_dst (N := 5) rfl ?_); refine box_event ?hg (N := 5) ?hd (cs := #[.int .i64 a2]) (t := 3) ?hr ?_; (case hd => rfl); (case hg => rfl); (case hr => first | (go_simp; done) | (go_simp; rfl)); intro gb hg w2 hbox hb; have GBKB := Aside0.mk (show w.heap.size ≤ gb by rw [hg]; exact below_size (by repeat (first | (with_reducible first | exact HB.out | apply below_alloc | apply pw_below_drewN | apply below_drew1) | exact HB.out))); have BKB := Aside0.mk hbox; have n0_ := Aside0.mk (below_step (by repeat (first | (with_reducible first | exact HB.out | apply below_alloc | apply pw_below_drewN | apply below_drew1) | exact HB.out)) hb); clear HB ; have HB := n0_; clear n0_; clear hb hbox hg; have hcw2BKB_0 : w2.cell? ⟨gb, 0, none⟩ = some (.int .i64 a2) := (blk_cell BKB.out 0).trans rfl) | (go_at_call 63; refine (HC1.out _ gb (by repeat (first | (with_reducible first | exact HB.out | apply below_alloc | apply pw_below_drewN | apply below_drew1) | exact HB.out)) (by (with_reducible repeat (first | refine blk_drewN ?_ _ | refine blk_drew ?_ | refine blk_alloc ?_ _)); exact BKB.out)).mono ?_; rintro e w3 ⟨rfl, hb⟩; have n0_ := Aside0.mk (below_step (by repeat (first | (with_reducible first | exact HB.out | apply below_alloc | apply pw_below_drewN | apply below_drew1) | exact HB.out)) hb); have n1_ := Aside0.mk (blk_below (g := gb) (o := .cells #[.int .i64 a2] 3 (0, 0)) (by (with_reducible repeat (first | refine blk_drewN ?_ _ | refine blk_drew ?_ | refine blk_alloc ?_ _)); exact BKB.out) hb); clear HB BKB; have HB := n0_; have BKB := n1_; clear n0_ n1_; clear hb; have hcw3BKB_0 : w3.cell? ⟨gb, 0, none⟩ = some (.int .i64 a2) := (blk_cell BKB.out 0).trans rfl) | (go_at_call 17; refine (HC3.out _ _ (by repeat (first | (with_reducible first | exact HB.out | apply below_alloc | apply pw_below_drewN | apply below_drew1) | exact HB.out)) HT.out).mono ?_; rintro e w4 ⟨rfl, hb⟩; have n0_ := Aside0.mk (below_step (by repeat (first | (with_reducible first | exact HB.out | apply below_alloc | apply pw_below_drewN | apply below_drew1) | exact HB.out)) hb); have n1_ := Aside0.mk (blk_below (g := gb) (o := .cells #[.int .i64 a2] 3 (0, 0)) (by (with_reducible repeat (first | refine blk_drewN ?_ _ | refine blk_drew ?_ | refine blk_alloc ?_ _)); exact BKB.out) hb); clear HB BKB; have HB := n0_; have BKB := n1_; clear n0_ n1_; clear hb; have hcw4BKB_0 : w4.cell? ⟨gb, 0, none⟩ = some (.int .i64 a2) := (blk_cell BKB.out 0).trans rfl))
      go_ret2
      exact ⟨by first | rfl | (simp; done) | (simp [*]; done), (by repeat (first | (with_reducible first | exact HB.out | apply below_alloc | apply pw_below_drewN | apply below_drew1) | exact HB.out))⟩
    · rw [if_neg c] at h
      have H' := Aside0.mk h
      clear h
      have hlt : i < (l1.length : Int) := HI.out.resolve_left c
      have h0 : 0 ≤ i := by omega
      obtain ⟨ad, e_, hx0, hx1, hx2, hx3, hx4⟩ := at_T91 HR1.out i h0 hlt
      cases e_
      have HX := Aside0.mk (And.intro hx0 (And.intro hx1 (And.intro hx2 (And.intro hx3 hx4))))
      clear hx0 hx1 hx2 hx3 hx4
      have cb : decide (i < 0) = false := decide_eq_false c
      replace c := eq_false c
      replace h0 := eq_true h0
      replace hlt := eq_true hlt
      go_enter Try.func24, Try.ntmps24
      go_wp2_with (first | ((with_reducible refine gate_dst (N := 5) rfl ?_); refine box_event ?hg (N := 5) ?hd (cs := #[.int .i64 a2]) (t := 3) ?hr ?_; (case hd => rfl); (case hg => rfl); (case hr => first | (go_simp; done) | (go_simp; rfl)); intro gb hg w2 hbox hb; have GBKB := Aside0.mk (show w.heap.size ≤ gb by rw [hg]; exact below_size (by repeat (first | (with_reducible first | exact HB.out | apply below_alloc | apply pw_below_drewN | apply below_drew1) | exact HB.out))); have BKB := Aside0.mk hbox; have n0_ := Aside0.mk (below_step (by repeat (first | (with_reducible first | exact HB.out | apply below_alloc | apply pw_below_drewN | apply below_drew1) | exact HB.out)) hb); clear HB ; have HB := n0_; clear n0_; clear hb hbox hg; have hcw2BKB_0 : w2.cell? ⟨gb, 0, none⟩ = some (.int .i64 a2) := (blk_cell BKB.out 0).trans rfl) | (go_at_call 63; refine (HC1.out _ gb (by repeat (first | (with_reducible first | exact HB.out | apply below_alloc | apply pw_below_drewN | apply below_drew1) | exact HB.out)) (by (with_reducible repeat (first | refine blk_drewN ?_ _ | refine blk_drew ?_ | refine blk_alloc ?_ _)); exact BKB.out)).mono ?_; rintro e w3 ⟨rfl, hb⟩; have n0_ := Aside0.mk (below_step (by repeat (first | (with_reducible first | exact HB.out | apply below_alloc | apply pw_below_drewN | apply below_drew1) | exact HB.out)) hb); have n1_ := Aside0.mk (blk_below (g := gb) (o := .cells #[.int .i64 a2] 3 (0, 0)) (by (with_reducible repeat (first | refine blk_drewN ?_ _ | refine blk_drew ?_ | refine blk_alloc ?_ _)); exact BKB.out) hb); clear HB BKB; have HB := n0_; have BKB := n1_; clear n0_ n1_; clear hb; have hcw3BKB_0 : w3.cell? ⟨gb, 0, none⟩ = some (.int .i64 a2) := (blk_cell BKB.out 0).trans rfl) | (go_at_call 17; refine (HC3.out _ _ (by repeat (first | (with_reducible first | exact HB.out | apply below_alloc | apply pw_below_drewN | apply below_drew1) | exact HB.out)) HT.out).mono ?_; rintro e w4 ⟨rfl, hb⟩; have n0_ := Aside0.mk (below_step (by repeat (first | (with_reducible first | exact HB.out | apply below_alloc | apply pw_below_drewN | apply below_drew1) | exact HB.out)) hb); have n1_ := Aside0.mk (blk_below (g := gb) (o := .cells #[.int .i64 a2] 3 (0, 0)) (by (with_reducible repeat (first | refine blk_drewN ?_ _ | refine blk_drew ?_ | refine blk_alloc ?_ _)); exact BKB.out) hb); clear HB BKB; have HB := n0_; have BKB := n1_; clear n0_ n1_; clear hb; have hcw4BKB_0 : w4.cell? ⟨gb, 0, none⟩ = some (.int .i64 a2) := (blk_cell BKB.out 0).trans rfl; obtain ⟨hx0, hx1, hx2, hx3, hx4⟩ := HX.out; replace hx0 := pw_cell_below HB.out hx0; replace hx1 := pw_cell_below HB.out hx1; replace hx2 := pw_cell_below HB.out hx2; replace hx3 := pw_cell_below HB.out hx3; replace hx4 := pw_cell_below HB.out hx4) | ((with_reducible refine gate_dst (N := 9) rfl ?_); refine box_event ?hg (N := 9) ?hd (cs := #[.int .i64 0, .int .i64 0, .int .i64 0, .int .i64 0, .int .i64 0]) (t := 91) ?hr ?_; (case hd => rfl); (case hg => rfl); (case hr => first | (go_simp; done) | (go_simp; rfl)); intro gc hg w5 hbox hb; have GBKC := Aside0.mk (show w.heap.size ≤ gc by rw [hg]; exact below_size (by repeat (first | (with_reducible first | exact HB.out | apply below_alloc | apply pw_below_drewN | apply below_drew1) | exact HB.out))); have BKC := Aside0.mk hbox; have n0_ := Aside0.mk (below_step (by repeat (first | (with_reducible first | exact HB.out | apply below_alloc | apply pw_below_drewN | apply below_drew1) | exact HB.out)) hb); have n1_ := Aside0.mk (blk_below (g := gb) (o := .cells #[.int .i64 a2] 3 (0, 0)) (by (with_reducible repeat (first | refine blk_drewN ?_ _ | refine blk_drew ?_ | refine blk_alloc ?_ _)); exact BKB.out) hb); clear HB BKB; have HB := n0_; have BKB := n1_; clear n0_ n1_; clear hb hbox hg; have hcw5BKB_0 : w5.cell? ⟨gb, 0, none⟩ = some (.int .i64 a2) := (blk_cell BKB.out 0).trans rfl; have hcw5BKC_0 : w5.cell? ⟨gc, 0, none⟩ = some (.int .i64 0) := (blk_cell BKC.out 0).trans rfl; have hcw5BKC_1 : w5.cell? ⟨gc, 1, none⟩ = some (.int .i64 0) := (blk_cell BKC.out 1).trans rfl; have hcw5BKC_2 : w5.cell? ⟨gc, 2, none⟩ = some (.int .i64 0) := (blk_cell BKC.out 2).trans rfl; have hcw5BKC_3 : w5.cell? ⟨gc, 3, none⟩ = some (.int .i64 0) := (blk_cell BKC.out 3).trans rfl; have hcw5BKC_4 : w5.cell? ⟨gc, 4, none⟩ = some (.int .i64 0) := (blk_cell BKC.out 4).trans rfl; have hfw5BKB_0 := blk_frozen BKB.out 0; have hfw5BKC_0 := blk_frozen BKC.out 0; have hfw5BKC_1 := blk_frozen BKC.out 1; have hfw5BKC_2 := blk_frozen BKC.out 2; have hfw5BKC_3 := blk_frozen BKC.out 3; have hfw5BKC_4 := blk_frozen BKC.out 4) | ((with_reducible refine gate_store (t := 91) (p := 9) rfl ?_); refine store_event (t := 91) (p := 9) (v := ?vo) (w1 := (((((w5.setCell ⟨gc, 0, none⟩ (.int .i64 ((rd_T91 l1 i).f0))).setCell ⟨gc, 1, none⟩ (.int .i64 ((rd_T91 l1 i).f1))).setCell ⟨gc, 2, none⟩ (.int .i64 ((rd_T91 l1 i).f2))).setCell ⟨gc, 3, none⟩ (.int .i64 ((rd_T91 l1 i).f3))).setCell ⟨gc, 4, none⟩ (.int .i64 ((rd_T91 l1 i).f4)))) ?hg ?ho ?hn ?hr ?_; (case ho => rfl); (case hg => rfl); (case hn => rfl); (case hr => first | (go_simp; done) | (go_simp; rfl)); intro w6 hw; have n0_ : Aside0 (w6.heap[gc]? = some (.cells #[.int .i64 ((rd_T91 l1 i).f0), .int .i64 ((rd_T91 l1 i).f1), .int .i64 ((rd_T91 l1 i).f2), .int .i64 ((rd_T91 l1 i).f3), .int .i64 ((rd_T91 l1 i).f4)] 91 (0, 0))) := Aside0.mk (by rw [hw]; exact (blk_put (cs := #[.int .i64 ((rd_T91 l1 i).f0), .int .i64 ((rd_T91 l1 i).f1), .int .i64 ((rd_T91 l1 i).f2), .int .i64 ((rd_T91 l1 i).f3), .int .i64 0]) (cs' := #[.int .i64 ((rd_T91 l1 i).f0), .int .i64 ((rd_T91 l1 i).f1), .int .i64 ((rd_T91 l1 i).f2), .int .i64 ((rd_T91 l1 i).f3), .int .i64 ((rd_T91 l1 i).f4)]) (blk_put (cs := #[.int .i64 ((rd_T91 l1 i).f0), .int .i64 ((rd_T91 l1 i).f1), .int .i64 ((rd_T91 l1 i).f2), .int .i64 0, .int .i64 0]) (cs' := #[.int .i64 ((rd_T91 l1 i).f0), .int .i64 ((rd_T91 l1 i).f1), .int .i64 ((rd_T91 l1 i).f2), .int .i64 ((rd_T91 l1 i).f3), .int .i64 0]) (blk_put (cs := #[.int .i64 ((rd_T91 l1 i).f0), .int .i64 ((rd_T91 l1 i).f1), .int .i64 0, .int .i64 0, .int .i64 0]) (cs' := #[.int .i64 ((rd_T91 l1 i).f0), .int .i64 ((rd_T91 l1 i).f1), .int .i64 ((rd_T91 l1 i).f2), .int .i64 0, .int .i64 0]) (blk_put (cs := #[.int .i64 ((rd_T91 l1 i).f0), .int .i64 0, .int .i64 0, .int .i64 0, .int .i64 0]) (cs' := #[.int .i64 ((rd_T91 l1 i).f0), .int .i64 ((rd_T91 l1 i).f1), .int .i64 0, .int .i64 0, .int .i64 0]) (blk_put (cs := #[.int .i64 0, .int .i64 0, .int .i64 0, .int .i64 0, .int .i64 0]) (cs' := #[.int .i64 ((rd_T91 l1 i).f0), .int .i64 0, .int .i64 0, .int .i64 0, .int .i64 0]) BKC.out 0 (.int .i64 ((rd_T91 l1 i).f0)) rfl) 1 (.int .i64 ((rd_T91 l1 i).f1)) rfl) 2 (.int .i64 ((rd_T91 l1 i).f2)) rfl) 3 (.int .i64 ((rd_T91 l1 i).f3)) rfl) 4 (.int .i64 ((rd_T91 l1 i).f4)) rfl)); have n1_ : Aside0 (Below w.heap.size w w6) := Aside0.mk (by rw [hw]; exact (below_set (below_set (below_set (below_set (below_set HB.out GBKC.out) GBKC.out) GBKC.out) GBKC.out) GBKC.out)); have n2_ : Aside0 (w6.heap[gb]? = some (.cells #[.int .i64 a2] 3 (0, 0))) := Aside0.mk (by rw [hw]; exact (blk_far (blk_far (blk_far (blk_far (blk_far BKB.out (p := ⟨gc, 0, none⟩) (blk_ne BKB.out BKC.out (by decide)) (.int .i64 ((rd_T91 l1 i).f0))) (p := ⟨gc, 1, none⟩) (blk_ne BKB.out BKC.out (by decide)) (.int .i64 ((rd_T91 l1 i).f1))) (p := ⟨gc, 2, none⟩) (blk_ne BKB.out BKC.out (by decide)) (.int .i64 ((rd_T91 l1 i).f2))) (p := ⟨gc, 3, none⟩) (blk_ne BKB.out BKC.out (by decide)) (.int .i64 ((rd_T91 l1 i).f3))) (p := ⟨gc, 4, none⟩) (blk_ne BKB.out BKC.out (by decide)) (.int .i64 ((rd_T91 l1 i).f4)))); clear HB BKC BKB hw; have BKC := n0_; have HB := n1_; have BKB := n2_; clear n0_ n1_ n2_; have hcw6BKB_0 : w6.cell? ⟨gb, 0, none⟩ = some (.int .i64 a2) := (blk_cell BKB.out 0).trans rfl; have hcw6BKC_0 : w6.cell? ⟨gc, 0, none⟩ = some (.int .i64 ((rd_T91 l1 i).f0)) := (blk_cell BKC.out 0).trans rfl; have hcw6BKC_1 : w6.cell? ⟨gc, 1, none⟩ = some (.int .i64 ((rd_T91 l1 i).f1)) := (blk_cell BKC.out 1).trans rfl; have hcw6BKC_2 : w6.cell? ⟨gc, 2, none⟩ = some (.int .i64 ((rd_T91 l1 i).f2)) := (blk_cell BKC.out 2).trans rfl; have hcw6BKC_3 : w6.cell? ⟨gc, 3, none⟩ = some (.int .i64 ((rd_T91 l1 i).f3)) := (blk_cell BKC.out 3).trans rfl; have hcw6BKC_4 : w6.cell? ⟨gc, 4, none⟩ = some (.int .i64 ((rd_T91 l1 i).f4)) := (blk_cell BKC.out 4).trans rfl; have hfw6BKB_0 := blk_frozen BKB.out 0; have hfw6BKC_0 := blk_frozen BKC.out 0; have hfw6BKC_1 := blk_frozen BKC.out 1; have hfw6BKC_2 := blk_frozen BKC.out 2; have hfw6BKC_3 := blk_frozen BKC.out 3; have hfw6BKC_4 := blk_frozen BKC.out 4))
      go_loopg [26] k (fun kq v26 w' => ∃ at_ : Int, Aside0 (impl_Berth.l0 kq a0 l1 a2 (rd_T91 l1 i).f0 (rd_T91 l1 i).f1 (rd_T91 l1 i).f2 (rd_T91 l1 i).f3 at_ = some (r1, r2)) ∧ Aside0 (kq ≤ k) ∧ Aside0 (Below w.heap.size w w') ∧ Aside0 (w'.heap[gb]? = some (.cells #[.int .i64 a2] 3 (0, 0))) ∧ Aside0 (w'.heap[gc]? = some (.cells #[.int .i64 ((rd_T91 l1 i).f0), .int .i64 ((rd_T91 l1 i).f1), .int .i64 ((rd_T91 l1 i).f2), .int .i64 ((rd_T91 l1 i).f3), .int .i64 at_] 91 (0, 0))))
      case atStart => exact ⟨0, H', ⟨Nat.le_refl _⟩, ⟨below_set HB.out GBKC.out⟩, ⟨blk_far (p := ⟨gc, 4, none⟩) BKB.out (blk_ne BKB.out BKC.out (by decide)) _⟩, ⟨blk_put BKC.out 4 _ rfl⟩⟩
      case round =>
        clear H' HB BKB BKC
        obtain ⟨at_, HA, HK, HB, BKB, BKC⟩ := hrel
        have HRW := HA.out
        clear HA
        cases gk with
        | zero => exact absurd HRW (by simp [impl_Berth.l0])
        | succ k1 =>
        simp only [impl_Berth.l0] at HRW
        have hcrBKB_0 : wr.cell? ⟨gb, 0, none⟩ = some (.int .i64 a2) := (blk_cell BKB.out 0).trans rfl; have hcrBKC_0 : wr.cell? ⟨gc, 0, none⟩ = some (.int .i64 ((rd_T91 l1 i).f0)) := (blk_cell BKC.out 0).trans rfl; have hcrBKC_1 : wr.cell? ⟨gc, 1, none⟩ = some (.int .i64 ((rd_T91 l1 i).f1)) := (blk_cell BKC.out 1).trans rfl; have hcrBKC_2 : wr.cell? ⟨gc, 2, none⟩ = some (.int .i64 ((rd_T91 l1 i).f2)) := (blk_cell BKC.out 2).trans rfl; have hcrBKC_3 : wr.cell? ⟨gc, 3, none⟩ = some (.int .i64 ((rd_T91 l1 i).f3)) := (blk_cell BKC.out 3).trans rfl; have hcrBKC_4 : wr.cell? ⟨gc, 4, none⟩ = some (.int .i64 at_) := (blk_cell BKC.out 4).trans rfl; have hfrBKB_0 := blk_frozen BKB.out 0; have hfrBKC_0 := blk_frozen BKC.out 0; have hfrBKC_1 := blk_frozen BKC.out 1; have hfrBKC_2 := blk_frozen BKC.out 2; have hfrBKC_3 := blk_frozen BKC.out 3; have hfrBKC_4 := blk_frozen BKC.out 4
        by_cases c5 : wrap64 (at_ + (rd_T91 l1 i).f1) ≤ a0
        · rw [if_pos c5] at HRW
          have c5b : decide (wrap64 (at_ + (rd_T91 l1 i).f1) ≤ a0) = true := decide_eq_true c5
          clear c5
          cases c6 : (l1.any fun x => x.f0 != a2 && (impl_shares.f x.f0 x.f1 x.f2 x.f3 x.f4 (rd_T91 l1 i).f0 (rd_T91 l1 i).f1 (rd_T91 l1 i).f2 (rd_T91 l1 i).f3 at_ == some true)) with
          | true =>
            rw [c6, if_pos rfl] at HRW
            have HA := Aside0.mk HRW
            have C6 := Aside0.mk c6
            clear HRW c6
            go_wp2_with (first | (go_at_call 57; refine (HC2.out _ gb gc _ _ _ _ _ (by repeat (first | (with_reducible first | exact HB.out | apply below_alloc | apply pw_below_drewN | apply below_drew1) | exact HB.out)) (by (with_reducible repeat (first | refine blk_drewN ?_ _ | refine blk_drew ?_ | refine blk_alloc ?_ _)); exact BKB.out) (by (with_reducible repeat (first | refine blk_drewN ?_ _ | refine blk_drew ?_ | refine blk_alloc ?_ _)); exact BKC.out)).mono ?_; rintro e w9 ⟨rfl, hb⟩; have n0_ := Aside0.mk (below_step (by repeat (first | (with_reducible first | exact HB.out | apply below_alloc | apply pw_below_drewN | apply below_drew1) | exact HB.out)) hb); have n1_ := Aside0.mk (blk_below (g := gb) (o := .cells #[.int .i64 a2] 3 (0, 0)) (by (with_reducible repeat (first | refine blk_drewN ?_ _ | refine blk_drew ?_ | refine blk_alloc ?_ _)); exact BKB.out) hb); have n2_ := Aside0.mk (blk_below (g := gc) (o := .cells #[.int .i64 ((rd_T91 l1 i).f0), .int .i64 ((rd_T91 l1 i).f1), .int .i64 ((rd_T91 l1 i).f2), .int .i64 ((rd_T91 l1 i).f3), .int .i64 at_] 91 (0, 0)) (by (with_reducible repeat (first | refine blk_drewN ?_ _ | refine blk_drew ?_ | refine blk_alloc ?_ _)); exact BKC.out) hb); clear HB BKB BKC; have HB := n0_; have BKB := n1_; have BKC := n2_; clear n0_ n1_ n2_; clear hb; have hcw9BKB_0 : w9.cell? ⟨gb, 0, none⟩ = some (.int .i64 a2) := (blk_cell BKB.out 0).trans rfl; have hcw9BKC_0 : w9.cell? ⟨gc, 0, none⟩ = some (.int .i64 ((rd_T91 l1 i).f0)) := (blk_cell BKC.out 0).trans rfl; have hcw9BKC_1 : w9.cell? ⟨gc, 1, none⟩ = some (.int .i64 ((rd_T91 l1 i).f1)) := (blk_cell BKC.out 1).trans rfl; have hcw9BKC_2 : w9.cell? ⟨gc, 2, none⟩ = some (.int .i64 ((rd_T91 l1 i).f2)) := (blk_cell BKC.out 2).trans rfl; have hcw9BKC_3 : w9.cell? ⟨gc, 3, none⟩ = some (.int .i64 ((rd_T91 l1 i).f3)) := (blk_cell BKC.out 3).trans rfl; have hcw9BKC_4 : w9.cell? ⟨gc, 4, none⟩ = some (.int .i64 at_) := (blk_cell BKC.out 4).trans rfl; have hfw9BKB_0 := blk_frozen BKB.out 0; have hfw9BKC_0 := blk_frozen BKC.out 0; have hfw9BKC_1 := blk_frozen BKC.out 1; have hfw9BKC_2 := blk_frozen BKC.out 2; have hfw9BKC_3 := blk_frozen BKC.out 3; have hfw9BKC_4 := blk_frozen BKC.out 4; try rw [C6.out]))
            go_roundg k1
            case measure => have := HK.out; omega
            case rel => exact ⟨wrap64 (at_ + 1), HA, ⟨by have := HK.out; omega⟩, ⟨below_set HB.out GBKC.out⟩, ⟨blk_far (p := ⟨gc, 4, none⟩) BKB.out (blk_ne BKB.out BKC.out (by decide)) _⟩, ⟨blk_put BKC.out 4 _ rfl⟩⟩
          | false =>
            rw [c6, if_neg (by decide)] at HRW
            obtain ⟨rfl, rfl⟩ := Prod.mk.inj (Option.some.inj HRW)
            have C6 := Aside0.mk c6
            clear HRW c6
            go_wp2_with (first | (go_at_call 57; refine (HC2.out _ gb gc _ _ _ _ _ (by repeat (first | (with_reducible first | exact HB.out | apply below_alloc | apply pw_below_drewN | apply below_drew1) | exact HB.out)) (by (with_reducible repeat (first | refine blk_drewN ?_ _ | refine blk_drew ?_ | refine blk_alloc ?_ _)); exact BKB.out) (by (with_reducible repeat (first | refine blk_drewN ?_ _ | refine blk_drew ?_ | refine blk_alloc ?_ _)); exact BKC.out)).mono ?_; rintro e w9 ⟨rfl, hb⟩; have n0_ := Aside0.mk (below_step (by repeat (first | (with_reducible first | exact HB.out | apply below_alloc | apply pw_below_drewN | apply below_drew1) | exact HB.out)) hb); have n1_ := Aside0.mk (blk_below (g := gb) (o := .cells #[.int .i64 a2] 3 (0, 0)) (by (with_reducible repeat (first | refine blk_drewN ?_ _ | refine blk_drew ?_ | refine blk_alloc ?_ _)); exact BKB.out) hb); have n2_ := Aside0.mk (blk_below (g := gc) (o := .cells #[.int .i64 ((rd_T91 l1 i).f0), .int .i64 ((rd_T91 l1 i).f1), .int .i64 ((rd_T91 l1 i).f2), .int .i64 ((rd_T91 l1 i).f3), .int .i64 at_] 91 (0, 0)) (by (with_reducible repeat (first | refine blk_drewN ?_ _ | refine blk_drew ?_ | refine blk_alloc ?_ _)); exact BKC.out) hb); clear HB BKB BKC; have HB := n0_; have BKB := n1_; have BKC := n2_; clear n0_ n1_ n2_; clear hb; have hcw9BKB_0 : w9.cell? ⟨gb, 0, none⟩ = some (.int .i64 a2) := (blk_cell BKB.out 0).trans rfl; have hcw9BKC_0 : w9.cell? ⟨gc, 0, none⟩ = some (.int .i64 ((rd_T91 l1 i).f0)) := (blk_cell BKC.out 0).trans rfl; have hcw9BKC_1 : w9.cell? ⟨gc, 1, none⟩ = some (.int .i64 ((rd_T91 l1 i).f1)) := (blk_cell BKC.out 1).trans rfl; have hcw9BKC_2 : w9.cell? ⟨gc, 2, none⟩ = some (.int .i64 ((rd_T91 l1 i).f2)) := (blk_cell BKC.out 2).trans rfl; have hcw9BKC_3 : w9.cell? ⟨gc, 3, none⟩ = some (.int .i64 ((rd_T91 l1 i).f3)) := (blk_cell BKC.out 3).trans rfl; have hcw9BKC_4 : w9.cell? ⟨gc, 4, none⟩ = some (.int .i64 at_) := (blk_cell BKC.out 4).trans rfl; have hfw9BKB_0 := blk_frozen BKB.out 0; have hfw9BKC_0 := blk_frozen BKC.out 0; have hfw9BKC_1 := blk_frozen BKC.out 1; have hfw9BKC_2 := blk_frozen BKC.out 2; have hfw9BKC_3 := blk_frozen BKC.out 3; have hfw9BKC_4 := blk_frozen BKC.out 4; try rw [C6.out]))
            go_ret2
            exact ⟨by first | rfl | (simp; done) | (simp [*]; done), (by repeat (first | (with_reducible first | exact HB.out | apply below_alloc | apply pw_below_drewN | apply below_drew1) | exact HB.out))⟩
        · rw [if_neg c5] at HRW
          have c5b : decide (wrap64 (at_ + (rd_T91 l1 i).f1) ≤ a0) = false := decide_eq_false c5
          clear c5
          obtain ⟨rfl, rfl⟩ := Prod.mk.inj (Option.some.inj HRW)
          clear HRW
          go_wp2
          go_ret2
          exact ⟨by first | rfl | (simp; done) | (simp [*]; done), (by repeat (first | (with_reducible first | exact HB.out | apply below_alloc | apply pw_below_drewN | apply below_drew1) | exact HB.out))⟩


/-! ### laws_FnExactBerth: function 6 -/
def laws_FnExactBerth.j0 : Nat → List (S93) → List (S91) → Bool → Option (Bool)
  | 0, _, _, _ => none
  | k + 1, x1, x10, x42 => if x42 = true then (some false) else ((laws_toCallS.f k x1).bind fun t221 => ((laws_eqCallS.f k x10 t221).bind fun t224 => (if t224 = true then (some true) else (some false))))
def laws_FnExactBerth.f (k : Nat) (a0 : Int) (l1 : List (S93)) (a2 : Int) : Option (Bool) := (laws_szCallS.f l1 1048576).bind fun t210 => (if t210 < 0 then (some true) else ((laws_toCallS.f k l1).bind fun t211 => ((spec_Berth.f k a0 t211 a2).bind fun bt214 => ((laws_toCallS.f k l1).bind fun t216 => ((impl_Berth.f k a0 t216 a2).bind fun bt219 => (if bt219.1 = bt214.1 then (laws_FnExactBerth.j0 k l1 t216 (bt219.2 != bt214.2)) else (laws_FnExactBerth.j0 k l1 t216 true)))))))
theorem laws_FnExactBerth.mono_l : ∀ k, (∀ y0 y1 y2, LeO (laws_FnExactBerth.j0 k y0 y1 y2) (laws_FnExactBerth.j0 (k + 1) y0 y1 y2))
  | 0 => fun _ _ _ r h => by simp [laws_FnExactBerth.j0] at h
  | k + 1 => by
    have ih0 := laws_FnExactBerth.mono_l k
    · intro y0 y1 y2
      unfold laws_FnExactBerth.j0
      repeat' first
      | (with_reducible exact ih0 _ _ _)
      | (with_reducible exact impl_Berth.mono _ _ _ _)
      | (with_reducible exact laws_eqCallS.mono _ _ _)
      | (with_reducible exact laws_toCallS.mono _ _)
      | (with_reducible exact spec_Berth.mono _ _ _ _)
      | (with_reducible exact LeO.refl _)
      | (with_reducible exact LeO.none _)
      | (with_reducible refine LeO.ite ?_ ?_)
      | (with_reducible refine LeO.bind ?_ (fun _ => ?_))
      | exact ih0 _ _ _
      | exact impl_Berth.mono _ _ _ _
      | exact laws_eqCallS.mono _ _ _
      | exact laws_toCallS.mono _ _
      | exact spec_Berth.mono _ _ _ _
      | exact LeO.none _
      | refine LeO.ite ?_ ?_
      | refine LeO.bind ?_ (fun _ => ?_)
theorem laws_FnExactBerth.mono : ∀ a0 a1 a2 k, LeO (laws_FnExactBerth.f k a0 a1 a2) (laws_FnExactBerth.f (k + 1) a0 a1 a2) := by
  intro a0 a1 a2 k
  have ih0 := laws_FnExactBerth.mono_l k
  unfold laws_FnExactBerth.f
  repeat' first
      | (with_reducible exact ih0 _ _ _)
      | (with_reducible exact impl_Berth.mono _ _ _ _)
      | (with_reducible exact laws_eqCallS.mono _ _ _)
      | (with_reducible exact laws_toCallS.mono _ _)
      | (with_reducible exact spec_Berth.mono _ _ _ _)
      | (with_reducible exact LeO.refl _)
      | (with_reducible exact LeO.none _)
      | (with_reducible refine LeO.ite ?_ ?_)
      | (with_reducible refine LeO.bind ?_ (fun _ => ?_))
      | exact ih0 _ _ _
      | exact impl_Berth.mono _ _ _ _
      | exact laws_eqCallS.mono _ _ _
      | exact laws_toCallS.mono _ _
      | exact spec_Berth.mono _ _ _ _
      | exact LeO.none _
      | refine LeO.ite ?_ ?_
      | refine LeO.bind ?_ (fun _ => ?_)
set_option maxHeartbeats 8000000 in
set_option maxRecDepth 100000 in
theorem laws_FnExactBerth.calls (k : Nat) (a0 : Int) (A1 : Option Addr) (c1 : Nat) (l1 : List (S93)) (a2 : Int) (r : Bool) (w : World) (hr1 : Kd.C k93 w A1 l1.length l1) (hc1 : l1.length ≤ c1) (h : laws_FnExactBerth.f k a0 l1 a2 = some r) :
    Calls Try.prog 6 #[.int .i64 a0, .slice A1 l1.length c1, .int .i64 a2] w fun e w' => e = .returned (.bool r) ∧ Below w.heap.size w w' := by
  have HR1 := Aside0.mk hr1
  have HC1 := Aside0.mk hc1
  clear hr1 hc1
  have HB := Aside0.mk (Below.refl w.heap.size w)
  have H : ((laws_szCallS.f l1 1048576).bind fun t210 => (if t210 < 0 then (some true) else ((laws_toCallS.f k l1).bind fun t211 => ((spec_Berth.f k a0 t211 a2).bind fun bt214 => ((laws_toCallS.f k l1).bind fun t216 => ((impl_Berth.f k a0 t216 a2).bind fun bt219 => (if bt219.1 = bt214.1 then (laws_FnExactBerth.j0 k l1 t216 (bt219.2 != bt214.2)) else (laws_FnExactBerth.j0 k l1 t216 true)))))))) = some r := h
  clear h
  replace H := Option.bind_eq_some_iff.mp H
  obtain ⟨t210, A40, H⟩ := H
  replace H : (if t210 < 0 then (some true) else ((laws_toCallS.f k l1).bind fun t211 => ((spec_Berth.f k a0 t211 a2).bind fun bt214 => ((laws_toCallS.f k l1).bind fun t216 => ((impl_Berth.f k a0 t216 a2).bind fun bt219 => (if bt219.1 = bt214.1 then (laws_FnExactBerth.j0 k l1 t216 (bt219.2 != bt214.2)) else (laws_FnExactBerth.j0 k l1 t216 true))))))) = some r := H
  have A4 := Aside0.mk A40
  clear A40
  by_cases c5 : t210 < 0
  · rw [if_pos c5] at H
    have c5b0 : decide (t210 < 0) = true := decide_eq_true c5
    clear c5
    obtain rfl := Option.some.inj H
    go_enter Try.func6, Try.ntmps6
    go_wp2_with (first | ((with_reducible refine gate_callee (f := 11) rfl ?_); refine goesL_ (some 15) rfl rfl Try.func11 (by kernel_rfl) rfl #[.slice A1 l1.length c1, .int .i64 1048576] rfl (by (try simp only [List.map_toArray, List.map_cons, List.map_nil]); first | done | rfl | (simp only [List.length_drop, List.length_take]; rfl)) ?_; (with_reducible refine (laws_szCallS.calls _ _ l1 1048576 t210 _ ?side1 ?side2 A4.out).mono ?_); (case side1 => repeat (first | exact HR1.out | (with_reducible refine Kd.C_alloc ?_ _) | (with_reducible refine Kd.C_drewN ?_ _) | (with_reducible refine Kd.C_drew ?_))); (case side2 => exact HC1.out); rintro e w' ⟨rfl, ⟨nd, rfl⟩⟩; refine ⟨_, rfl, ?_⟩))
    go_ret
    exact ⟨by first | rfl | (simp [errW_none, errW_some] <;> rfl) | (simp [*, errW_none, errW_some] <;> rfl), by repeat (first | (with_reducible first | exact HB.out | apply below_alloc | apply pw_below_drewN | apply below_drew1) | exact HB.out)⟩
  · rw [if_neg c5] at H
    have c5b0 : decide (t210 < 0) = false := decide_eq_false c5
    clear c5
    replace H := Option.bind_eq_some_iff.mp H
    obtain ⟨t211, A60, H⟩ := H
    replace H : ((spec_Berth.f k a0 t211 a2).bind fun bt214 => ((laws_toCallS.f k l1).bind fun t216 => ((impl_Berth.f k a0 t216 a2).bind fun bt219 => (if bt219.1 = bt214.1 then (laws_FnExactBerth.j0 k l1 t216 (bt219.2 != bt214.2)) else (laws_FnExactBerth.j0 k l1 t216 true))))) = some r := H
    have A6 := Aside0.mk A60
    clear A60
    replace H := Option.bind_eq_some_iff.mp H
    obtain ⟨⟨t214, t215⟩, A70, H⟩ := H
    replace H : ((laws_toCallS.f k l1).bind fun t216 => ((impl_Berth.f k a0 t216 a2).bind fun bt219 => (if bt219.1 = t214 then (laws_FnExactBerth.j0 k l1 t216 (bt219.2 != t215)) else (laws_FnExactBerth.j0 k l1 t216 true)))) = some r := H
    have A7 := Aside0.mk A70
    clear A70
    replace H := Option.bind_eq_some_iff.mp H
    obtain ⟨t216, A80, H⟩ := H
    replace H : ((impl_Berth.f k a0 t216 a2).bind fun bt219 => (if bt219.1 = t214 then (laws_FnExactBerth.j0 k l1 t216 (bt219.2 != t215)) else (laws_FnExactBerth.j0 k l1 t216 true))) = some r := H
    have A8 := Aside0.mk A80
    clear A80
    replace H := Option.bind_eq_some_iff.mp H
    obtain ⟨⟨t219, t220⟩, A90, H⟩ := H
    replace H : (if t219 = t214 then (laws_FnExactBerth.j0 k l1 t216 (t220 != t215)) else (laws_FnExactBerth.j0 k l1 t216 true)) = some r := H
    have A9 := Aside0.mk A90
    clear A90
    have HC10 := Aside0.mk H
    clear H
    go_enter Try.func6, Try.ntmps6
    go_upto_region 8 with (first | ((with_reducible refine gate_callee (f := 11) rfl ?_); refine goesL_ (some 15) rfl rfl Try.func11 (by kernel_rfl) rfl #[.slice A1 l1.length c1, .int .i64 1048576] rfl (by (try simp only [List.map_toArray, List.map_cons, List.map_nil]); first | done | rfl | (simp only [List.length_drop, List.length_take]; rfl)) ?_; (with_reducible refine (laws_szCallS.calls _ _ l1 1048576 t210 _ ?side1 ?side2 A4.out).mono ?_); (case side1 => repeat (first | exact HR1.out | (with_reducible refine Kd.C_alloc ?_ _) | (with_reducible refine Kd.C_drewN ?_ _) | (with_reducible refine Kd.C_drew ?_))); (case side2 => exact HC1.out); rintro e w' ⟨rfl, ⟨nd, rfl⟩⟩; refine ⟨_, rfl, ?_⟩) | ((with_reducible refine gate_callee (f := 13) rfl ?_); refine goesL_ (some 21) rfl rfl Try.func13 (by kernel_rfl) rfl #[.slice A1 l1.length c1] rfl (by (try simp only [List.map_toArray, List.map_cons, List.map_nil]); first | done | rfl | (simp only [List.length_drop, List.length_take]; rfl)) ?_; (with_reducible refine (laws_toCallS.calls k _ _ l1 t211 _ ?side1 ?side2 A6.out).mono ?_); (case side1 => repeat (first | exact HR1.out | (with_reducible refine Kd.C_alloc ?_ _) | (with_reducible refine Kd.C_drewN ?_ _) | (with_reducible refine Kd.C_drew ?_))); (case side2 => exact HC1.out); rintro e w11 ⟨v212, rfl, ho0, hb⟩; refine ⟨_, rfl, ?_⟩; have n0_ := Aside0.mk (Kd.R_lower ho0 (below_size (by repeat (first | (with_reducible first | exact HB.out | apply below_alloc | apply pw_below_drewN | apply below_drew1) | exact HB.out)))); have n1_ := Aside0.mk (below_step (by repeat (first | (with_reducible first | exact HB.out | apply below_alloc | apply pw_below_drewN | apply below_drew1) | exact HB.out)) hb); clear HB; have HO213 := n0_; have HB := n1_; clear n0_ n1_; (try clear hb); (try clear hb2); (try clear hk); (try clear hi); (try clear ho0); obtain ⟨Ao12, co12, eo12⟩ := Kd.R_slice HO213.out; subst eo12) | ((with_reducible refine gate_callee (f := 23) rfl ?_); refine goesL_ (some 23) rfl rfl Try.func23 (by kernel_rfl) rfl #[.int .i64 a0, .slice Ao12 t211.length co12, .int .i64 a2] rfl (by (try simp only [List.map_toArray, List.map_cons, List.map_nil]); first | done | rfl | (simp only [List.length_drop, List.length_take]; rfl)) ?_; (with_reducible refine (spec_Berth.calls k a0 _ _ t211 a2 t214 t215 _ ?side1 ?side2 A7.out).mono ?_); (case side1 => repeat (first | exact (Kd.R_reads' HO213.out).2.2 | (with_reducible refine Kd.C_alloc ?_ _) | (with_reducible refine Kd.C_drewN ?_ _) | (with_reducible refine Kd.C_drew ?_))); (case side2 => exact (Kd.R_reads' HO213.out).2.1); rintro e w13 ⟨rfl, hb⟩; refine ⟨_, rfl, ?_⟩; have n0_ := Aside0.mk (Kd.R_below (by (with_reducible repeat (first | apply Kd.R_alloc | apply Kd.R_drewN | apply Kd.R_drew)); exact HO213.out) hb); have n1_ := Aside0.mk (below_step (by repeat (first | (with_reducible first | exact HB.out | apply below_alloc | apply pw_below_drewN | apply below_drew1) | exact HB.out)) hb); clear HO213; clear HB; have HO213 := n0_; have HB := n1_; clear n0_ n1_; (try clear hb); (try clear hb2); (try clear hk); (try clear hi)) | ((with_reducible refine gate_callee (f := 13) rfl ?_); refine goesL_ (some 27) rfl rfl Try.func13 (by kernel_rfl) rfl #[.slice A1 l1.length c1] rfl (by (try simp only [List.map_toArray, List.map_cons, List.map_nil]); first | done | rfl | (simp only [List.length_drop, List.length_take]; rfl)) ?_; (with_reducible refine (laws_toCallS.calls k _ _ l1 t216 _ ?side1 ?side2 A8.out).mono ?_); (case side1 => repeat (first | exact (Kd.C_below HR1.out HB.out) | (with_reducible refine Kd.C_alloc ?_ _) | (with_reducible refine Kd.C_drewN ?_ _) | (with_reducible refine Kd.C_drew ?_))); (case side2 => exact HC1.out); rintro e w14 ⟨v217, rfl, ho0, hb⟩; refine ⟨_, rfl, ?_⟩; have n0_ := Aside0.mk (Kd.R_elder' (by (with_reducible repeat (first | apply Kd.R_alloc | apply Kd.R_drewN | apply Kd.R_drew)); exact HO213.out) (Kd.R_base ho0) hb); have n1_ := Aside0.mk (Kd.R_lower (Kd.R_new' ho0 (Kd.R_lt (by (with_reducible repeat (first | apply Kd.R_alloc | apply Kd.R_drewN | apply Kd.R_drew)); exact HO213.out))) (below_size (by repeat (first | (with_reducible first | exact HB.out | apply below_alloc | apply pw_below_drewN | apply below_drew1) | exact HB.out)))); have n2_ := Aside0.mk (below_step (by repeat (first | (with_reducible first | exact HB.out | apply below_alloc | apply pw_below_drewN | apply below_drew1) | exact HB.out)) hb); clear HO213; clear HB; have HO213 := n0_; have HO218 := n1_; have HB := n2_; clear n0_ n1_ n2_; (try clear hb); (try clear hb2); (try clear hk); (try clear hi); (try clear ho0); obtain ⟨Ao15, co15, eo15⟩ := Kd.R_slice HO218.out; subst eo15) | ((with_reducible refine gate_callee (f := 24) rfl ?_); refine goesL_ (some 32) rfl rfl Try.func24 (by kernel_rfl) rfl #[.int .i64 a0, .slice Ao15 t216.length co15, .int .i64 a2] rfl (by (try simp only [List.map_toArray, List.map_cons, List.map_nil]); first | done | rfl | (simp only [List.length_drop, List.length_take]; rfl)) ?_; (with_reducible refine (impl_Berth.calls k a0 _ _ t216 a2 t219 t220 _ ?side1 ?side2 A9.out).mono ?_); (case side1 => repeat (first | exact (Kd.R_reads' HO218.out).2.2 | (with_reducible refine Kd.C_alloc ?_ _) | (with_reducible refine Kd.C_drewN ?_ _) | (with_reducible refine Kd.C_drew ?_))); (case side2 => exact (Kd.R_reads' HO218.out).2.1); rintro e w16 ⟨rfl, hb⟩; refine ⟨_, rfl, ?_⟩; have n0_ := Aside0.mk (Kd.R_below (by (with_reducible repeat (first | apply Kd.R_alloc | apply Kd.R_drewN | apply Kd.R_drew)); exact HO213.out) hb); have n1_ := Aside0.mk (Kd.R_below (by (with_reducible repeat (first | apply Kd.R_alloc | apply Kd.R_drewN | apply Kd.R_drew)); exact HO218.out) hb); have n2_ := Aside0.mk (below_step (by repeat (first | (with_reducible first | exact HB.out | apply below_alloc | apply pw_below_drewN | apply below_drew1) | exact HB.out)) hb); clear HO213; clear HO218; clear HB; have HO213 := n0_; have HO218 := n1_; have HB := n2_; clear n0_ n1_ n2_; (try clear hb); (try clear hb2); (try clear hk); (try clear hi)))
    (try simp only [Act.put, List.setIfInBounds_toArray, List.set_cons_zero, List.set_cons_succ])
    go_cut [42] (fun v42 wc => ∃ (kq : Nat) (x42_9 : Bool), v42 = .bool x42_9 ∧ Aside0 (laws_FnExactBerth.j0 kq l1 t216 x42_9 = some r) ∧ Aside0 (kq ≤ k) ∧ Aside0 (Kd.R k91 91 wc w.heap.size (fun _ => True) (.slice Ao15 t216.length co15) t216) ∧ Aside0 (Below w.heap.size w wc))
    case first =>
      have H := HC10.out
      clear HC10
      by_cases c17 : t219 = t214
      · rw [if_pos c17] at H
        have c17b0 : (t219 == t214) = true := beq_iff_eq.mpr c17
        have c17b1 : (t219 != t214) = false := bne_eq_false_iff_eq.mpr c17
        clear c17
        (first | rw [c17b0] | (simp only [i64_w, i32_w]; rw [c17b0]) | skip)
        have H' := Aside0.mk H
        clear H
        go_wp2
        go_meet
        case rel => exact ⟨_, ((t220 != t215)), (by first | rfl | (simp; done) | (simp [*]; done)), H', ⟨by first | omega | exact Nat.le_refl _⟩, ⟨by (with_reducible repeat (first | apply Kd.R_alloc | apply Kd.R_drewN | apply Kd.R_drew)); exact Kd.R_mono HO218.out (fun _ hk => trivial)⟩, ⟨by repeat (first | (with_reducible first | exact HB.out | apply below_alloc | apply pw_below_drewN | apply below_drew1) | exact HB.out)⟩⟩
      · rw [if_neg c17] at H
        have c17b0 : (t219 == t214) = false := beq_eq_false_iff_ne.mpr c17
        have c17b1 : (t219 != t214) = true := bne_iff_ne.mpr c17
        (first | rw [c17b0] | (simp only [i64_w, i32_w]; rw [c17b0]) | skip)
        have H' := Aside0.mk H
        clear H
        go_wp2
        go_meet
        case rel => exact ⟨_, (true), (by first | rfl | (simp; done) | (simp [*]; done)), H', ⟨by first | omega | exact Nat.le_refl _⟩, ⟨by (with_reducible repeat (first | apply Kd.R_alloc | apply Kd.R_drewN | apply Kd.R_drew)); exact Kd.R_mono HO218.out (fun _ hk => trivial)⟩, ⟨by repeat (first | (with_reducible first | exact HB.out | apply below_alloc | apply pw_below_drewN | apply below_drew1) | exact HB.out)⟩⟩
    case rest =>
      clear HC10
      try clear c1
      try clear c2
      try clear p2
      try clear c5
      try clear c5b0
      try clear c6
      try clear c11
      try clear c13
      try clear c17
      try clear c17b0
      try clear c17b1
      obtain ⟨kq, x42_9, rfl, HA, HJ9, HO_10, HB⟩ := hcut
      cases kq with
      | zero => exact absurd HA.out (by simp [laws_FnExactBerth.j0])
      | succ kj9 =>
        have H := HA.out
        clear HA
        simp only [laws_FnExactBerth.j0] at H
        by_cases c18 : x42_9 = true
        · subst c18
          have H1 : (some false) = some r := by rw [if_pos rfl] at H; exact H
          clear H
          have H := H1
          clear H1
          obtain rfl := Option.some.inj H
          go_wp2
          go_ret
          exact ⟨by first | rfl | (simp [errW_none, errW_some] <;> rfl) | (simp [*, errW_none, errW_some] <;> rfl), by repeat (first | (with_reducible first | exact HB.out | apply below_alloc | apply pw_below_drewN | apply below_drew1) | exact HB.out)⟩
        · replace c18 := Bool.eq_false_iff.mpr c18
          subst c18
          have H1 : ((laws_toCallS.f kj9 l1).bind fun t221 => ((laws_eqCallS.f kj9 t216 t221).bind fun t224 => (if t224 = true then (some true) else (some false)))) = some r := by rw [if_neg (show ¬ (false = true) by decide)] at H; exact H
          clear H
          have H := H1
          clear H1
          replace H := Option.bind_eq_some_iff.mp H
          obtain ⟨t221, A190, H⟩ := H
          replace H : ((laws_eqCallS.f kj9 t216 t221).bind fun t224 => (if t224 = true then (some true) else (some false))) = some r := H
          have A19 := Aside0.mk A190
          clear A190
          replace H := Option.bind_eq_some_iff.mp H
          obtain ⟨t224, A200, H⟩ := H
          replace H : (if t224 = true then (some true) else (some false)) = some r := H
          have A20 := Aside0.mk A200
          clear A200
          by_cases c21 : t224 = true
          · subst c21
            have H1 : (some true) = some r := by rw [if_pos rfl] at H; exact H
            clear H
            have H := H1
            clear H1
            obtain rfl := Option.some.inj H
            go_wp2_with (first | ((with_reducible refine gate_callee (f := 13) rfl ?_); refine goesL_ (some 45) rfl rfl Try.func13 (by kernel_rfl) rfl #[.slice A1 l1.length c1] rfl (by (try simp only [List.map_toArray, List.map_cons, List.map_nil]); first | done | rfl | (simp only [List.length_drop, List.length_take]; rfl)) ?_; (with_reducible refine (laws_toCallS.calls kj9 _ _ l1 t221 _ ?side1 ?side2 A19.out).mono ?_); (case side1 => repeat (first | exact (Kd.C_below HR1.out HB.out) | (with_reducible refine Kd.C_alloc ?_ _) | (with_reducible refine Kd.C_drewN ?_ _) | (with_reducible refine Kd.C_drew ?_))); (case side2 => exact HC1.out); rintro e w22 ⟨v222, rfl, ho0, hb⟩; refine ⟨_, rfl, ?_⟩; have n0_ := Aside0.mk (Kd.R_elder' (by (with_reducible repeat (first | apply Kd.R_alloc | apply Kd.R_drewN | apply Kd.R_drew)); exact HO_10.out) (Kd.R_base ho0) hb); have n1_ := Aside0.mk (Kd.R_lower (Kd.R_new' ho0 (Kd.R_lt (by (with_reducible repeat (first | apply Kd.R_alloc | apply Kd.R_drewN | apply Kd.R_drew)); exact HO_10.out))) (below_size (by repeat (first | (with_reducible first | exact HB.out | apply below_alloc | apply pw_below_drewN | apply below_drew1) | exact HB.out)))); have n2_ := Aside0.mk (below_step (by repeat (first | (with_reducible first | exact HB.out | apply below_alloc | apply pw_below_drewN | apply below_drew1) | exact HB.out)) hb); clear HO_10; clear HB; have HO_10 := n0_; have HO223 := n1_; have HB := n2_; clear n0_ n1_ n2_; (try clear hb); (try clear hb2); (try clear hk); (try clear hi); (try clear ho0); obtain ⟨Ao23, co23, eo23⟩ := Kd.R_slice HO223.out; subst eo23) | ((with_reducible refine gate_callee (f := 15) rfl ?_); refine goesL_ (some 46) rfl rfl Try.func15 (by kernel_rfl) rfl #[.slice Ao15 t216.length co15, .slice Ao23 t221.length co23] rfl (by (try simp only [List.map_toArray, List.map_cons, List.map_nil]); first | done | rfl | (simp only [List.length_drop, List.length_take]; rfl)) ?_; (with_reducible refine (laws_eqCallS.calls kj9 _ _ t216 _ _ t221 true _ ?side1 ?side2 ?side3 ?side4 A20.out).mono ?_); (case side1 => repeat (first | exact (Kd.R_reads' HO_10.out).2.2 | (with_reducible refine Kd.C_alloc ?_ _) | (with_reducible refine Kd.C_drewN ?_ _) | (with_reducible refine Kd.C_drew ?_))); (case side2 => exact (Kd.R_reads' HO_10.out).2.1); (case side3 => repeat (first | exact (Kd.R_reads' HO223.out).2.2 | (with_reducible refine Kd.C_alloc ?_ _) | (with_reducible refine Kd.C_drewN ?_ _) | (with_reducible refine Kd.C_drew ?_))); (case side4 => exact (Kd.R_reads' HO223.out).2.1); rintro e w24 ⟨rfl, hb⟩; refine ⟨_, rfl, ?_⟩; have n0_ := Aside0.mk (Kd.R_below (by (with_reducible repeat (first | apply Kd.R_alloc | apply Kd.R_drewN | apply Kd.R_drew)); exact HO_10.out) hb); have n1_ := Aside0.mk (Kd.R_below (by (with_reducible repeat (first | apply Kd.R_alloc | apply Kd.R_drewN | apply Kd.R_drew)); exact HO223.out) hb); have n2_ := Aside0.mk (below_step (by repeat (first | (with_reducible first | exact HB.out | apply below_alloc | apply pw_below_drewN | apply below_drew1) | exact HB.out)) hb); clear HO_10; clear HO223; clear HB; have HO_10 := n0_; have HO223 := n1_; have HB := n2_; clear n0_ n1_ n2_; (try clear hb); (try clear hb2); (try clear hk); (try clear hi)))
            go_ret
            exact ⟨by first | rfl | (simp [errW_none, errW_some] <;> rfl) | (simp [*, errW_none, errW_some] <;> rfl), by repeat (first | (with_reducible first | exact HB.out | apply below_alloc | apply pw_below_drewN | apply below_drew1) | exact HB.out)⟩
          · replace c21 := Bool.eq_false_iff.mpr c21
            subst c21
            have H1 : (some false) = some r := by rw [if_neg (show ¬ (false = true) by decide)] at H; exact H
            clear H
            have H := H1
            clear H1
            obtain rfl := Option.some.inj H
            go_wp2_with (first | ((with_reducible refine gate_callee (f := 13) rfl ?_); refine goesL_ (some 45) rfl rfl Try.func13 (by kernel_rfl) rfl #[.slice A1 l1.length c1] rfl (by (try simp only [List.map_toArray, List.map_cons, List.map_nil]); first | done | rfl | (simp only [List.length_drop, List.length_take]; rfl)) ?_; (with_reducible refine (laws_toCallS.calls kj9 _ _ l1 t221 _ ?side1 ?side2 A19.out).mono ?_); (case side1 => repeat (first | exact (Kd.C_below HR1.out HB.out) | (with_reducible refine Kd.C_alloc ?_ _) | (with_reducible refine Kd.C_drewN ?_ _) | (with_reducible refine Kd.C_drew ?_))); (case side2 => exact HC1.out); rintro e w25 ⟨v222, rfl, ho0, hb⟩; refine ⟨_, rfl, ?_⟩; have n0_ := Aside0.mk (Kd.R_elder' (by (with_reducible repeat (first | apply Kd.R_alloc | apply Kd.R_drewN | apply Kd.R_drew)); exact HO_10.out) (Kd.R_base ho0) hb); have n1_ := Aside0.mk (Kd.R_lower (Kd.R_new' ho0 (Kd.R_lt (by (with_reducible repeat (first | apply Kd.R_alloc | apply Kd.R_drewN | apply Kd.R_drew)); exact HO_10.out))) (below_size (by repeat (first | (with_reducible first | exact HB.out | apply below_alloc | apply pw_below_drewN | apply below_drew1) | exact HB.out)))); have n2_ := Aside0.mk (below_step (by repeat (first | (with_reducible first | exact HB.out | apply below_alloc | apply pw_below_drewN | apply below_drew1) | exact HB.out)) hb); clear HO_10; clear HB; have HO_10 := n0_; have HO223 := n1_; have HB := n2_; clear n0_ n1_ n2_; (try clear hb); (try clear hb2); (try clear hk); (try clear hi); (try clear ho0); obtain ⟨Ao26, co26, eo26⟩ := Kd.R_slice HO223.out; subst eo26) | ((with_reducible refine gate_callee (f := 15) rfl ?_); refine goesL_ (some 46) rfl rfl Try.func15 (by kernel_rfl) rfl #[.slice Ao15 t216.length co15, .slice Ao26 t221.length co26] rfl (by (try simp only [List.map_toArray, List.map_cons, List.map_nil]); first | done | rfl | (simp only [List.length_drop, List.length_take]; rfl)) ?_; (with_reducible refine (laws_eqCallS.calls kj9 _ _ t216 _ _ t221 false _ ?side1 ?side2 ?side3 ?side4 A20.out).mono ?_); (case side1 => repeat (first | exact (Kd.R_reads' HO_10.out).2.2 | (with_reducible refine Kd.C_alloc ?_ _) | (with_reducible refine Kd.C_drewN ?_ _) | (with_reducible refine Kd.C_drew ?_))); (case side2 => exact (Kd.R_reads' HO_10.out).2.1); (case side3 => repeat (first | exact (Kd.R_reads' HO223.out).2.2 | (with_reducible refine Kd.C_alloc ?_ _) | (with_reducible refine Kd.C_drewN ?_ _) | (with_reducible refine Kd.C_drew ?_))); (case side4 => exact (Kd.R_reads' HO223.out).2.1); rintro e w27 ⟨rfl, hb⟩; refine ⟨_, rfl, ?_⟩; have n0_ := Aside0.mk (Kd.R_below (by (with_reducible repeat (first | apply Kd.R_alloc | apply Kd.R_drewN | apply Kd.R_drew)); exact HO_10.out) hb); have n1_ := Aside0.mk (Kd.R_below (by (with_reducible repeat (first | apply Kd.R_alloc | apply Kd.R_drewN | apply Kd.R_drew)); exact HO223.out) hb); have n2_ := Aside0.mk (below_step (by repeat (first | (with_reducible first | exact HB.out | apply below_alloc | apply pw_below_drewN | apply below_drew1) | exact HB.out)) hb); clear HO_10; clear HO223; clear HB; have HO_10 := n0_; have HO223 := n1_; have HB := n2_; clear n0_ n1_ n2_; (try clear hb); (try clear hb2); (try clear hk); (try clear hi)))
            go_ret
            exact ⟨by first | rfl | (simp [errW_none, errW_some] <;> rfl) | (simp [*, errW_none, errW_some] <;> rfl), by repeat (first | (with_reducible first | exact HB.out | apply below_alloc | apply pw_below_drewN | apply below_drew1) | exact HB.out)⟩

end Go.Proofs.Ytfeaabdighopbaa.PG
