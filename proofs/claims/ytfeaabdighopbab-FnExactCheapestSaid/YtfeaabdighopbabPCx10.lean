/- What Go's functions that the laws reach come to: laid by a program of this session over the print's words. -/
import Derived.Test.YtfeaabdighopbabPCx0
import Derived.Test.YtfeaabdighopbabPCx8
import Derived.Test.YtfeaabdighopbabPCx9
namespace Go.Proofs.Ytfeaabdighopbab.PC
open Go.RowKit Go.Proofs.YtfeaabdighopbabW.PrintWords Go.Proofs.YtfeaabdighopbabW.PrintLast Go.Proofs.YtfeaabdighopbabW.PrintMore
attribute [local go_sem] max2_int min2_int max_two min_two max_three min_three max_four min_four   -- for this text's walks alone
set_option linter.unusedVariables false
set_option linter.unusedSimpArgs false

/-! ### impl_Cheapest: function 19 -/
def impl_Cheapest.relax (costs : List Int) (d : Int) : List Int → List Int × Bool → Option (List Int × Bool)
  | [], s => some s
  | q :: qs, s => if 0 ≤ q then (if q < (costs.length : Int) then (if q < (s.1.length : Int) then (if rd costs q > 0 then (if rd s.1 q < 0 then impl_Cheapest.relax costs d qs (s.1.set q.toNat (wrap64 (d + rd costs q)), true) else (if rd s.1 q > wrap64 (d + rd costs q) then impl_Cheapest.relax costs d qs (s.1.set q.toNat (wrap64 (d + rd costs q)), true) else impl_Cheapest.relax costs d qs s)) else impl_Cheapest.relax costs d qs s) else none) else none) else none
def impl_Cheapest.row (k : Nat) (a0 a1 : Int) (costs : List Int) (shut : List S143) : Nat → Int → List Int × Bool → Option (List Int × Bool)
  | 0, _, s => some s
  | m + 1, p, s => if rd s.1 p < 0 then impl_Cheapest.row k a0 a1 costs shut m (p + 1) s else (impl_Sea_next.f k a0 a1 costs shut p).bind fun qs => (impl_Cheapest.relax costs (rd s.1 p) qs s).bind fun s2 => impl_Cheapest.row k a0 a1 costs shut m (p + 1) s2
def impl_Cheapest.loop (k : Nat) (a0 a1 : Int) (costs : List Int) (shut : List S143) : Nat → List Int → Option (List Int)
  | 0, _ => none
  | m + 1, o => (impl_Cheapest.row k a0 a1 costs shut costs.length 0 (o, false)).bind fun s => if s.2 = true then impl_Cheapest.loop k a0 a1 costs shut m s.1 else some s.1
def impl_Cheapest.f (k : Nat) (a0 a1 : Int) (costs : List Int) (shut : List S143) (a : Int) : Option (List Int × Bool) := (impl_SeaOk.f k a0 a1 costs shut).bind fun t => if t = true then ((impl_Sea_place.f a0 a1 costs shut a).bind fun t => if t = true then (if costs.length ≤ 1000000 then (if 0 ≤ a then (if a < (costs.length : Int) then (if rd costs a = 0 then some (List.replicate costs.length (-1), true) else (impl_Cheapest.loop k a0 a1 costs shut k ((List.replicate costs.length (-1)).set a.toNat 0)).bind fun o => some (o, true)) else none) else none) else none) else some ([], false)) else some ([], false)
theorem impl_Cheapest.mono_row (k : Nat) (a0 a1 : Int) (costs : List Int) (shut : List S143) : ∀ m p s, LeO (impl_Cheapest.row k a0 a1 costs shut m p s) (impl_Cheapest.row (k + 1) a0 a1 costs shut m p s)
  | 0, _, _ => LeO.refl _
  | m + 1, p, s => by
    unfold impl_Cheapest.row
    exact LeO.ite (impl_Cheapest.mono_row k a0 a1 costs shut m _ _) (LeO.bind (impl_Sea_next.mono _ _ _ _ _ _) fun _ => LeO.bind (LeO.refl _) fun _ => impl_Cheapest.mono_row k a0 a1 costs shut m _ _)
theorem impl_Cheapest.mono_loop (k : Nat) (a0 a1 : Int) (costs : List Int) (shut : List S143) : ∀ m o, LeO (impl_Cheapest.loop k a0 a1 costs shut m o) (impl_Cheapest.loop (k + 1) a0 a1 costs shut (m + 1) o)
  | 0, _ => LeO.none _
  | m + 1, o => by
    unfold impl_Cheapest.loop
    exact LeO.bind (impl_Cheapest.mono_row _ _ _ _ _ _ _ _) fun _ => LeO.ite (impl_Cheapest.mono_loop k a0 a1 costs shut m _) (LeO.refl _)
theorem impl_Cheapest.mono : ∀ a0 a1 a2 a3 a4 k, LeO (impl_Cheapest.f k a0 a1 a2 a3 a4) (impl_Cheapest.f (k + 1) a0 a1 a2 a3 a4) := by
  intro a0 a1 a2 a3 a4 k
  unfold impl_Cheapest.f
  exact LeO.bind (impl_SeaOk.mono _ _ _ _ _) fun _ => LeO.ite (LeO.bind (LeO.refl _) fun _ => LeO.ite (LeO.ite (LeO.ite (LeO.ite (LeO.ite (LeO.refl _) (LeO.bind (impl_Cheapest.mono_loop _ _ _ _ _ _ _) fun _ => LeO.refl _)) (LeO.refl _)) (LeO.refl _)) (LeO.refl _)) (LeO.refl _)) (LeO.refl _)
theorem impl_Cheapest.fill (i n : Nat) (h : i < n) : (List.replicate i (-1 : Int) ++ List.replicate (n - i) 0).set i (-1) = List.replicate (i + 1) (-1) ++ List.replicate (n - (i + 1)) 0 := by
  rw [List.set_append_right _ _ (by simp), List.length_replicate, Nat.sub_self, show n - i = (n - (i + 1)) + 1 by omega, List.replicate_succ, List.set_cons_zero, List.replicate_succ' (n := i), List.append_assoc]
  rfl
set_option maxHeartbeats 8000000 in
set_option maxRecDepth 100000 in
theorem impl_Cheapest.calls (k : Nat) (a0 a1 : Int) (A2 : Option Addr) (c2 : Nat) (costs : List Int) (A3 : Option Addr) (c3 : Nat) (shut : List (S143)) (a : Int) (r1 : List Int) (r2 : Bool) (w : World) (hr2 : Kd.C (Kd.int .i64) w A2 costs.length costs) (hc2 : costs.length ≤ c2) (hr3 : Kd.C k143 w A3 shut.length shut) (hc3 : shut.length ≤ c3) (h : impl_Cheapest.f k a0 a1 costs shut a = some (r1, r2)) :
    Calls Try.prog 19 #[.agg #[.int .i64 a0, .int .i64 a1, .slice A2 costs.length c2, .slice A3 shut.length c3], .int .i64 a] w fun e w' => ∃ v0_ : Value, e = .returned (.tuple #[v0_, .bool r2]) ∧ Kd.R (Kd.int .i64) 3 w' w.heap.size (fun _ => True) v0_ r1 ∧ Below w.heap.size w w' := by
  have hu36 := Try.underlying36
  have HK1 : Aside0 (∀ (W : World) (t : Bool), Below w.heap.size w W → impl_SeaOk.f k a0 a1 costs shut = some t → Calls Try.prog 59 #[.agg #[.int .i64 a0, .int .i64 a1, .slice A2 costs.length c2, .slice A3 shut.length c3]] W fun e w' => e = .returned (.bool t) ∧ Below W.heap.size W w') := ⟨fun W t hb ht => impl_SeaOk.calls k a0 a1 A2 c2 costs A3 c3 shut t W (Kd.C_below hr2 hb) hc2 (Kd.C_below hr3 hb) hc3 ht⟩
  have HK2 : Aside0 (∀ (W : World) (t : Bool), Below w.heap.size w W → impl_Sea_place.f a0 a1 costs shut a = some t → Calls Try.prog 60 #[.agg #[.int .i64 a0, .int .i64 a1, .slice A2 costs.length c2, .slice A3 shut.length c3], .int .i64 a] W fun e w' => e = .returned (.bool t) ∧ Below W.heap.size W w') := ⟨fun W t hb ht => impl_Sea_place.calls a0 a1 A2 c2 costs A3 c3 shut a t W (Kd.C_below hr2 hb) hc2 (Kd.C_below hr3 hb) hc3 ht⟩
  have HK3 : Aside0 (∀ (W : World) (p : Int) (qs : List Int), Below w.heap.size w W → impl_Sea_next.f k a0 a1 costs shut p = some qs → Calls Try.prog 61 #[.agg #[.int .i64 a0, .int .i64 a1, .slice A2 costs.length c2, .slice A3 shut.length c3], .int .i64 p] W fun e w' => ∃ v0_ : Value, e = .returned (v0_) ∧ Kd.R (Kd.int .i64) 3 w' W.heap.size (fun _ => True) v0_ qs ∧ Below W.heap.size W w') := ⟨fun W p qs hb ht => impl_Sea_next.calls k a0 a1 A2 c2 costs A3 c3 shut p qs W (Kd.C_below hr2 hb) hc2 (Kd.C_below hr3 hb) hc3 ht⟩
  have HR2 := Aside0.mk hr2
  clear hr2 hc2 hr3 hc3
  have HB := Aside0.mk (Below.refl w.heap.size w)
  unfold impl_Cheapest.f at h
  obtain ⟨t1, ht1, h⟩ := Option.bind_eq_some_iff.mp h
  have HT1 := Aside0.mk ht1
  clear ht1
  cases t1 with
  | false =>
    rw [if_neg (by decide)] at h
    obtain ⟨rfl, rfl⟩ := Prod.mk.inj (Option.some.inj h)
    clear h
    go_enter Try.func19, Try.ntmps19
    go_wp2_with (first | ((with_reducible refine gate_dst (N := 2) rfl ?_); refine box_event ?hg (N := 2) ?hd (cs := #[.int .i64 a0, .int .i64 a1, .slice A2 costs.length c2, .slice A3 shut.length c3]) (t := 36) ?hr ?_; (case hd => rfl); (case hg => rfl); (case hr => first | (go_simp; done) | (go_simp; rfl)); intro gs hg w2 hbox hb; have GBKS := Aside0.mk (show w.heap.size ≤ gs by rw [hg]; exact below_size (by repeat (first | (with_reducible first | exact HB.out | apply below_alloc | apply pw_below_drewN | apply below_drew1) | exact HB.out))); have BKS := Aside0.mk hbox; have n0_ := Aside0.mk (below_step (by repeat (first | (with_reducible first | exact HB.out | apply below_alloc | apply pw_below_drewN | apply below_drew1) | exact HB.out)) hb); clear HB ; have HB := n0_; clear n0_; clear hb hbox hg; have hcw2BKS_0 : w2.cell? ⟨gs, 0, none⟩ = some (.int .i64 a0) := (blk_cell BKS.out 0).trans rfl; have hcw2BKS_1 : w2.cell? ⟨gs, 1, none⟩ = some (.int .i64 a1) := (blk_cell BKS.out 1).trans rfl; have hcw2BKS_2 : w2.cell? ⟨gs, 2, none⟩ = some (.slice A2 costs.length c2) := (blk_cell BKS.out 2).trans rfl; have hcw2BKS_3 : w2.cell? ⟨gs, 3, none⟩ = some (.slice A3 shut.length c3) := (blk_cell BKS.out 3).trans rfl; have hfw2BKS_0 := blk_frozen BKS.out 0; have hfw2BKS_1 := blk_frozen BKS.out 1; have hfw2BKS_2 := blk_frozen BKS.out 2; have hfw2BKS_3 := blk_frozen BKS.out 3) | (go_at_call 59; refine (HK1.out _ _ (by repeat (first | (with_reducible first | exact HB.out | apply below_alloc | apply pw_below_drewN | apply below_drew1) | exact HB.out)) HT1.out).mono ?_; rintro e w3 ⟨rfl, hb⟩; have n0_ := Aside0.mk (below_step (by repeat (first | (with_reducible first | exact HB.out | apply below_alloc | apply pw_below_drewN | apply below_drew1) | exact HB.out)) hb); have n1_ := Aside0.mk (blk_below (g := gs) (o := .cells #[.int .i64 a0, .int .i64 a1, .slice A2 costs.length c2, .slice A3 shut.length c3] 36 (0, 0)) (by (with_reducible repeat (first | refine blk_drewN ?_ _ | refine blk_drew ?_ | refine blk_alloc ?_ _)); exact BKS.out) hb); clear HB BKS; have HB := n0_; have BKS := n1_; clear n0_ n1_; clear hb; have hcw3BKS_0 : w3.cell? ⟨gs, 0, none⟩ = some (.int .i64 a0) := (blk_cell BKS.out 0).trans rfl; have hcw3BKS_1 : w3.cell? ⟨gs, 1, none⟩ = some (.int .i64 a1) := (blk_cell BKS.out 1).trans rfl; have hcw3BKS_2 : w3.cell? ⟨gs, 2, none⟩ = some (.slice A2 costs.length c2) := (blk_cell BKS.out 2).trans rfl; have hcw3BKS_3 : w3.cell? ⟨gs, 3, none⟩ = some (.slice A3 shut.length c3) := (blk_cell BKS.out 3).trans rfl; have hfw3BKS_0 := blk_frozen BKS.out 0; have hfw3BKS_1 := blk_frozen BKS.out 1; have hfw3BKS_2 := blk_frozen BKS.out 2; have hfw3BKS_3 := blk_frozen BKS.out 3))
    go_ret2
    exact ⟨_, rfl, Kd.R_nil _ _ _ _ _, (by repeat (first | (with_reducible first | exact HB.out | apply below_alloc | apply pw_below_drewN | apply below_drew1) | exact HB.out))⟩
  | true =>
  rw [if_pos rfl] at h
  obtain ⟨t2, ht2, h⟩ := Option.bind_eq_some_iff.mp h
  have HT2 := Aside0.mk ht2
  clear ht2
  cases t2 with
  | false =>
    rw [if_neg (by decide)] at h
    obtain ⟨rfl, rfl⟩ := Prod.mk.inj (Option.some.inj h)
    clear h
    go_enter Try.func19, Try.ntmps19
    go_wp2_with (first | ((with_reducible refine gate_dst (N := 2) rfl ?_); refine box_event ?hg (N := 2) ?hd (cs := #[.int .i64 a0, .int .i64 a1, .slice A2 costs.length c2, .slice A3 shut.length c3]) (t := 36) ?hr ?_; (case hd => rfl); (case hg => rfl); (case hr => first | (go_simp; done) | (go_simp; rfl)); intro gs hg w2 hbox hb; have GBKS := Aside0.mk (show w.heap.size ≤ gs by rw [hg]; exact below_size (by repeat (first | (with_reducible first | exact HB.out | apply below_alloc | apply pw_below_drewN | apply below_drew1) | exact HB.out))); have BKS := Aside0.mk hbox; have n0_ := Aside0.mk (below_step (by repeat (first | (with_reducible first | exact HB.out | apply below_alloc | apply pw_below_drewN | apply below_drew1) | exact HB.out)) hb); clear HB ; have HB := n0_; clear n0_; clear hb hbox hg; have hcw2BKS_0 : w2.cell? ⟨gs, 0, none⟩ = some (.int .i64 a0) := (blk_cell BKS.out 0).trans rfl; have hcw2BKS_1 : w2.cell? ⟨gs, 1, none⟩ = some (.int .i64 a1) := (blk_cell BKS.out 1).trans rfl; have hcw2BKS_2 : w2.cell? ⟨gs, 2, none⟩ = some (.slice A2 costs.length c2) := (blk_cell BKS.out 2).trans rfl; have hcw2BKS_3 : w2.cell? ⟨gs, 3, none⟩ = some (.slice A3 shut.length c3) := (blk_cell BKS.out 3).trans rfl; have hfw2BKS_0 := blk_frozen BKS.out 0; have hfw2BKS_1 := blk_frozen BKS.out 1; have hfw2BKS_2 := blk_frozen BKS.out 2; have hfw2BKS_3 := blk_frozen BKS.out 3) | (go_at_call 59; refine (HK1.out _ _ (by repeat (first | (with_reducible first | exact HB.out | apply below_alloc | apply pw_below_drewN | apply below_drew1) | exact HB.out)) HT1.out).mono ?_; rintro e w3 ⟨rfl, hb⟩; have n0_ := Aside0.mk (below_step (by repeat (first | (with_reducible first | exact HB.out | apply below_alloc | apply pw_below_drewN | apply below_drew1) | exact HB.out)) hb); have n1_ := Aside0.mk (blk_below (g := gs) (o := .cells #[.int .i64 a0, .int .i64 a1, .slice A2 costs.length c2, .slice A3 shut.length c3] 36 (0, 0)) (by (with_reducible repeat (first | refine blk_drewN ?_ _ | refine blk_drew ?_ | refine blk_alloc ?_ _)); exact BKS.out) hb); clear HB BKS; have HB := n0_; have BKS := n1_; clear n0_ n1_; clear hb; have hcw3BKS_0 : w3.cell? ⟨gs, 0, none⟩ = some (.int .i64 a0) := (blk_cell BKS.out 0).trans rfl; have hcw3BKS_1 : w3.cell? ⟨gs, 1, none⟩ = some (.int .i64 a1) := (blk_cell BKS.out 1).trans rfl; have hcw3BKS_2 : w3.cell? ⟨gs, 2, none⟩ = some (.slice A2 costs.length c2) := (blk_cell BKS.out 2).trans rfl; have hcw3BKS_3 : w3.cell? ⟨gs, 3, none⟩ = some (.slice A3 shut.length c3) := (blk_cell BKS.out 3).trans rfl; have hfw3BKS_0 := blk_frozen BKS.out 0; have hfw3BKS_1 := blk_frozen BKS.out 1; have hfw3BKS_2 := blk_frozen BKS.out 2; have hfw3BKS_3 := blk_frozen BKS.out 3) | (go_at_call 60; refine (HK2.out _ _ (by repeat (first | (with_reducible first | exact HB.out | apply below_alloc | apply pw_below_drewN | apply below_drew1) | exact HB.out)) HT2.out).mono ?_; rintro e w4 ⟨rfl, hb⟩; have n0_ := Aside0.mk (below_step (by repeat (first | (with_reducible first | exact HB.out | apply below_alloc | apply pw_below_drewN | apply below_drew1) | exact HB.out)) hb); have n1_ := Aside0.mk (blk_below (g := gs) (o := .cells #[.int .i64 a0, .int .i64 a1, .slice A2 costs.length c2, .slice A3 shut.length c3] 36 (0, 0)) (by (with_reducible repeat (first | refine blk_drewN ?_ _ | refine blk_drew ?_ | refine blk_alloc ?_ _)); exact BKS.out) hb); clear HB BKS; have HB := n0_; have BKS := n1_; clear n0_ n1_; clear hb; have hcw4BKS_0 : w4.cell? ⟨gs, 0, none⟩ = some (.int .i64 a0) := (blk_cell BKS.out 0).trans rfl; have hcw4BKS_1 : w4.cell? ⟨gs, 1, none⟩ = some (.int .i64 a1) := (blk_cell BKS.out 1).trans rfl; have hcw4BKS_2 : w4.cell? ⟨gs, 2, none⟩ = some (.slice A2 costs.length c2) := (blk_cell BKS.out 2).trans rfl; have hcw4BKS_3 : w4.cell? ⟨gs, 3, none⟩ = some (.slice A3 shut.length c3) := (blk_cell BKS.out 3).trans rfl; have hfw4BKS_0 := blk_frozen BKS.out 0; have hfw4BKS_1 := blk_frozen BKS.out 1; have hfw4BKS_2 := blk_frozen BKS.out 2; have hfw4BKS_3 := blk_frozen BKS.out 3))
    go_ret2
    exact ⟨_, rfl, Kd.R_nil _ _ _ _ _, (by repeat (first | (with_reducible first | exact HB.out | apply below_alloc | apply pw_below_drewN | apply below_drew1) | exact HB.out))⟩
  | true =>
  rw [if_pos rfl] at h
  by_cases hn : costs.length ≤ 1000000
  · rw [if_pos hn] at h
    by_cases ha0 : 0 ≤ a
    · rw [if_pos ha0] at h
      by_cases ha1 : a < (costs.length : Int)
      · rw [if_pos ha1] at h
        have HN := Aside0.mk hn
        have HA := Aside0.mk (And.intro ha0 ha1)
        have HV := Aside0.mk h
        clear h hn ha0 ha1
        go_enter Try.func19, Try.ntmps19
        go_wp2_with (first | ((with_reducible refine gate_dst (N := 2) rfl ?_); refine box_event ?hg (N := 2) ?hd (cs := #[.int .i64 a0, .int .i64 a1, .slice A2 costs.length c2, .slice A3 shut.length c3]) (t := 36) ?hr ?_; (case hd => rfl); (case hg => rfl); (case hr => first | (go_simp; done) | (go_simp; rfl)); intro gs hg w2 hbox hb; have GBKS := Aside0.mk (show w.heap.size ≤ gs by rw [hg]; exact below_size (by repeat (first | (with_reducible first | exact HB.out | apply below_alloc | apply pw_below_drewN | apply below_drew1) | exact HB.out))); have BKS := Aside0.mk hbox; have n0_ := Aside0.mk (below_step (by repeat (first | (with_reducible first | exact HB.out | apply below_alloc | apply pw_below_drewN | apply below_drew1) | exact HB.out)) hb); clear HB ; have HB := n0_; clear n0_; clear hb hbox hg; have hcw2BKS_0 : w2.cell? ⟨gs, 0, none⟩ = some (.int .i64 a0) := (blk_cell BKS.out 0).trans rfl; have hcw2BKS_1 : w2.cell? ⟨gs, 1, none⟩ = some (.int .i64 a1) := (blk_cell BKS.out 1).trans rfl; have hcw2BKS_2 : w2.cell? ⟨gs, 2, none⟩ = some (.slice A2 costs.length c2) := (blk_cell BKS.out 2).trans rfl; have hcw2BKS_3 : w2.cell? ⟨gs, 3, none⟩ = some (.slice A3 shut.length c3) := (blk_cell BKS.out 3).trans rfl; have hfw2BKS_0 := blk_frozen BKS.out 0; have hfw2BKS_1 := blk_frozen BKS.out 1; have hfw2BKS_2 := blk_frozen BKS.out 2; have hfw2BKS_3 := blk_frozen BKS.out 3) | (go_at_call 59; refine (HK1.out _ _ (by repeat (first | (with_reducible first | exact HB.out | apply below_alloc | apply pw_below_drewN | apply below_drew1) | exact HB.out)) HT1.out).mono ?_; rintro e w3 ⟨rfl, hb⟩; have n0_ := Aside0.mk (below_step (by repeat (first | (with_reducible first | exact HB.out | apply below_alloc | apply pw_below_drewN | apply below_drew1) | exact HB.out)) hb); have n1_ := Aside0.mk (blk_below (g := gs) (o := .cells #[.int .i64 a0, .int .i64 a1, .slice A2 costs.length c2, .slice A3 shut.length c3] 36 (0, 0)) (by (with_reducible repeat (first | refine blk_drewN ?_ _ | refine blk_drew ?_ | refine blk_alloc ?_ _)); exact BKS.out) hb); clear HB BKS; have HB := n0_; have BKS := n1_; clear n0_ n1_; clear hb; have hcw3BKS_0 : w3.cell? ⟨gs, 0, none⟩ = some (.int .i64 a0) := (blk_cell BKS.out 0).trans rfl; have hcw3BKS_1 : w3.cell? ⟨gs, 1, none⟩ = some (.int .i64 a1) := (blk_cell BKS.out 1).trans rfl; have hcw3BKS_2 : w3.cell? ⟨gs, 2, none⟩ = some (.slice A2 costs.length c2) := (blk_cell BKS.out 2).trans rfl; have hcw3BKS_3 : w3.cell? ⟨gs, 3, none⟩ = some (.slice A3 shut.length c3) := (blk_cell BKS.out 3).trans rfl; have hfw3BKS_0 := blk_frozen BKS.out 0; have hfw3BKS_1 := blk_frozen BKS.out 1; have hfw3BKS_2 := blk_frozen BKS.out 2; have hfw3BKS_3 := blk_frozen BKS.out 3) | (go_at_call 60; refine (HK2.out _ _ (by repeat (first | (with_reducible first | exact HB.out | apply below_alloc | apply pw_below_drewN | apply below_drew1) | exact HB.out)) HT2.out).mono ?_; rintro e w4 ⟨rfl, hb⟩; have n0_ := Aside0.mk (below_step (by repeat (first | (with_reducible first | exact HB.out | apply below_alloc | apply pw_below_drewN | apply below_drew1) | exact HB.out)) hb); have n1_ := Aside0.mk (blk_below (g := gs) (o := .cells #[.int .i64 a0, .int .i64 a1, .slice A2 costs.length c2, .slice A3 shut.length c3] 36 (0, 0)) (by (with_reducible repeat (first | refine blk_drewN ?_ _ | refine blk_drew ?_ | refine blk_alloc ?_ _)); exact BKS.out) hb); clear HB BKS; have HB := n0_; have BKS := n1_; clear n0_ n1_; clear hb; have hcw4BKS_0 : w4.cell? ⟨gs, 0, none⟩ = some (.int .i64 a0) := (blk_cell BKS.out 0).trans rfl; have hcw4BKS_1 : w4.cell? ⟨gs, 1, none⟩ = some (.int .i64 a1) := (blk_cell BKS.out 1).trans rfl; have hcw4BKS_2 : w4.cell? ⟨gs, 2, none⟩ = some (.slice A2 costs.length c2) := (blk_cell BKS.out 2).trans rfl; have hcw4BKS_3 : w4.cell? ⟨gs, 3, none⟩ = some (.slice A3 shut.length c3) := (blk_cell BKS.out 3).trans rfl; have hfw4BKS_0 := blk_frozen BKS.out 0; have hfw4BKS_1 := blk_frozen BKS.out 1; have hfw4BKS_2 := blk_frozen BKS.out 2; have hfw4BKS_3 := blk_frozen BKS.out 3) | ((with_reducible refine gate_dst (N := 26) rfl ?_); refine Rw.make Rw.I 0 rfl (N := 26) rfl rfl costs.length rfl rfl Try.underlying22 8 info3 rfl (by have := HN.out; omega) (by have := HN.out; omega) ?_; intro go hgo w5 hrow hb; have GO := Aside0.mk (show w.heap.size ≤ go by rw [hgo]; exact below_size (by repeat (first | (with_reducible first | exact HB.out | apply below_alloc | apply pw_below_drewN | apply below_drew1) | exact HB.out))); have HNE := Aside0.mk (show gs ≠ go by rw [hgo]; exact Nat.ne_of_lt (blk_lt (by (with_reducible repeat (first | refine blk_drewN ?_ _ | refine blk_drew ?_ | refine blk_alloc ?_ _)); exact BKS.out))); have n0_ := Aside0.mk (below_step (by repeat (first | (with_reducible first | exact HB.out | apply below_alloc | apply pw_below_drewN | apply below_drew1) | exact HB.out)) hb); have n1_ := Aside0.mk (blk_below (g := gs) (o := .cells #[.int .i64 a0, .int .i64 a1, .slice A2 costs.length c2, .slice A3 shut.length c3] 36 (0, 0)) (by (with_reducible repeat (first | refine blk_drewN ?_ _ | refine blk_drew ?_ | refine blk_alloc ?_ _)); exact BKS.out) hb); clear HB BKS; have HB := n0_; have BKS := n1_; clear n0_ n1_; have RW := Aside0.mk hrow; clear hrow hgo hb))
        go_loopg [29] costs.length (fun gg v29 wr => ∃ i : Int, v29 = .int .i64 i ∧ Aside0 (0 ≤ i ∧ i ≤ costs.length ∧ costs.length - i.toNat ≤ gg) ∧ Aside0 (Rw.Row Rw.I wr 3 go (List.replicate i.toNat (-1) ++ List.replicate (costs.length - i.toNat) 0)) ∧ Aside0 (wr.heap[gs]? = some (.cells #[.int .i64 a0, .int .i64 a1, .slice A2 costs.length c2, .slice A3 shut.length c3] 36 (0, 0))) ∧ Aside0 (Below w.heap.size w wr))
        case atStart => exact ⟨0, rfl, ⟨by omega⟩, ⟨by simpa using RW.out⟩, BKS, HB⟩
        case round =>
          clear HB BKS RW
          obtain ⟨i, rfl, HI, RW, BKS, HB⟩ := hrel
          by_cases hlt : i < (costs.length : Int)
          · have h0 : 0 ≤ i := HI.out.1
            have HLT := Aside0.mk (show i.toNat < costs.length ∧ (i + 1).toNat = i.toNat + 1 by omega)
            have hw1 : wrap64 (i + 1) = i + 1 := by unfold wrap64; have := HN.out; omega
            have HW := Aside0.mk hw1
            clear hw1
            have hcx := RW.out.rd i h0 (by simp; omega)
            have hfx := RW.out.frozen i.toNat
            have d0 : decide (i < (costs.length : Int)) = true := decide_eq_true hlt
            have d1 : decide (0 ≤ i) = true := decide_eq_true h0
            replace h0 := eq_true h0
            replace hlt := eq_true hlt
            go_wp2
            go_roundg (costs.length - (i + 1).toNat)
            case measure => have := HI.out; have := HLT.out; omega
            case rel =>
              refine ⟨i + 1, (by first | rfl | (rw [HW.out]) | (simp [HW.out])), ⟨by have := HI.out; have := HLT.out; omega⟩, ⟨?_⟩, ⟨blk_far BKS.out (p := ⟨go, i.toNat, none⟩) HNE.out _⟩, ⟨below_set HB.out GO.out⟩⟩
              rw [HLT.out.2, ← impl_Cheapest.fill i.toNat costs.length HLT.out.1]
              exact RW.out.set i.toNat (-1)
          · have hii : i.toNat = costs.length := by have := HI.out; omega
            have d0 : decide (i < (costs.length : Int)) = false := decide_eq_false hlt
            have RW2 : Aside0 (Rw.Row Rw.I wr 3 go (List.replicate costs.length (-1))) := Aside0.mk (by have h1 := RW.out; rw [hii, Nat.sub_self] at h1; simpa using h1)
            clear hii hlt RW
            have hcqBKS_0 : wr.cell? ⟨gs, 0, none⟩ = some (.int .i64 a0) := (blk_cell BKS.out 0).trans rfl; have hcqBKS_1 : wr.cell? ⟨gs, 1, none⟩ = some (.int .i64 a1) := (blk_cell BKS.out 1).trans rfl; have hcqBKS_2 : wr.cell? ⟨gs, 2, none⟩ = some (.slice A2 costs.length c2) := (blk_cell BKS.out 2).trans rfl; have hcqBKS_3 : wr.cell? ⟨gs, 3, none⟩ = some (.slice A3 shut.length c3) := (blk_cell BKS.out 3).trans rfl; have hfqBKS_0 := blk_frozen BKS.out 0; have hfqBKS_1 := blk_frozen BKS.out 1; have hfqBKS_2 := blk_frozen BKS.out 2; have hfqBKS_3 := blk_frozen BKS.out 3
            have ha0 := HA.out.1
            have ha1 := HA.out.2
            obtain ⟨ad, e_, hx⟩ := Kd.at_int HR2.out a ha0 ha1
            cases e_
            replace hx := pw_cell_below HB.out hx
            have d1 : decide (0 ≤ a) = true := decide_eq_true ha0
            have d2 : decide (a < (costs.length : Int)) = true := decide_eq_true ha1
            have hcx := RW2.out.rd a ha0 (by simpa using ha1)
            have hfx := RW2.out.frozen a.toNat
            replace ha0 := eq_true ha0
            replace ha1 := eq_true ha1
            have hv := HV.out
            by_cases hz : rd costs a = 0
            · rw [if_pos hz] at hv
              obtain ⟨rfl, rfl⟩ := Prod.mk.inj (Option.some.inj hv)
              clear hv
              have z0 : (rd costs a == 0) = true := beq_iff_eq.2 hz
              have z1 : decide (rd costs a = 0) = true := decide_eq_true hz
              go_wp2
              go_ret2
              exact ⟨_, rfl, by simpa using RW2.out.R (base := w.heap.size) (ok := fun _ => True) GO.out (by simp; unfold maxLen; have := HN.out; omega) trivial, (by repeat (first | (with_reducible first | exact HB.out | apply below_alloc | apply pw_below_drewN | apply below_drew1) | exact HB.out))⟩
            · rw [if_neg hz] at hv
              obtain ⟨ro, hl, hv⟩ := Option.bind_eq_some_iff.mp hv
              obtain ⟨rfl, rfl⟩ := Prod.mk.inj (Option.some.inj hv)
              have HL := Aside0.mk hl
              clear hv hl
              have z0 : (rd costs a == 0) = false := beq_eq_false_iff_ne.2 hz
              have z1 : decide (rd costs a = 0) = false := decide_eq_false hz
              clear hz
              have RW3 := Aside0.mk (RW2.out.set a.toNat 0)
              go_wp2
              go_loopg [8] k (fun gg v8 wr => ∃ (ag : Bool) (o : List Int) (m : Nat), v8 = .bool ag ∧ Aside0 (m ≤ gg) ∧ Aside0 (ag = true → impl_Cheapest.loop k a0 a1 costs shut m o = some ro) ∧ Aside0 (ag = false → o = ro) ∧ Aside0 (o.length = costs.length) ∧ Aside0 (Rw.Row Rw.I wr 3 go o) ∧ Aside0 (wr.heap[gs]? = some (.cells #[.int .i64 a0, .int .i64 a1, .slice (some ad) costs.length c2, .slice A3 shut.length c3] 36 (0, 0))) ∧ Aside0 (Below w.heap.size w wr))
              case atStart => exact ⟨true, _, k, rfl, ⟨Nat.le_refl _⟩, ⟨fun _ => HL.out⟩, ⟨fun h => by cases h⟩, ⟨by simp⟩, RW3, ⟨blk_far BKS.out (p := ⟨go, a.toNat, none⟩) HNE.out _⟩, ⟨below_set HB.out GO.out⟩⟩
              case round =>
                clear HB BKS RW2 RW3 HL hx hcx hfx
                obtain ⟨ag, o, m, rfl, HM, HL, HO, HNO, RW, BKS, HB⟩ := hrel
                have hcqBKS_0 : wr.cell? ⟨gs, 0, none⟩ = some (.int .i64 a0) := (blk_cell BKS.out 0).trans rfl; have hcqBKS_1 : wr.cell? ⟨gs, 1, none⟩ = some (.int .i64 a1) := (blk_cell BKS.out 1).trans rfl; have hcqBKS_2 : wr.cell? ⟨gs, 2, none⟩ = some (.slice (some ad) costs.length c2) := (blk_cell BKS.out 2).trans rfl; have hcqBKS_3 : wr.cell? ⟨gs, 3, none⟩ = some (.slice A3 shut.length c3) := (blk_cell BKS.out 3).trans rfl; have hfqBKS_0 := blk_frozen BKS.out 0; have hfqBKS_1 := blk_frozen BKS.out 1; have hfqBKS_2 := blk_frozen BKS.out 2; have hfqBKS_3 := blk_frozen BKS.out 3
                cases ag with
                | false =>
                  have ho := HO.out rfl
                  subst ho
                  go_wp2
                  go_ret2
                  exact ⟨_, rfl, by have h1 := RW.out.R (base := w.heap.size) (ok := fun _ => True) GO.out (by unfold maxLen; have := HN.out; have := HNO.out; omega) trivial; rw [HNO.out] at h1; exact h1, (by repeat (first | (with_reducible first | exact HB.out | apply below_alloc | apply pw_below_drewN | apply below_drew1) | exact HB.out))⟩
                | true =>
                  have hl := HL.out rfl
                  clear HL HO
                  cases m with
                  | zero => simp [impl_Cheapest.loop] at hl
                  | succ m =>
                  unfold impl_Cheapest.loop at hl
                  obtain ⟨s1, hrow, hl⟩ := Option.bind_eq_some_iff.mp hl
                  have HS1 := Aside0.mk hl
                  have HROW := Aside0.mk hrow
                  clear hl hrow
                  go_wp2
                  go_loopg [8, 49] costs.length (fun gg v8 v49 wr => ∃ (ag : Bool) (p : Int) (o : List Int), v8 = .bool ag ∧ v49 = .int .i64 p ∧ Aside0 (0 ≤ p ∧ p ≤ costs.length ∧ costs.length - p.toNat ≤ gg) ∧ Aside0 (impl_Cheapest.row k a0 a1 costs shut (costs.length - p.toNat) p (o, ag) = some s1) ∧ Aside0 (o.length = costs.length) ∧ Aside0 (Rw.Row Rw.I wr 3 go o) ∧ Aside0 (wr.heap[gs]? = some (.cells #[.int .i64 a0, .int .i64 a1, .slice (some ad) costs.length c2, .slice A3 shut.length c3] 36 (0, 0))) ∧ Aside0 (Below w.heap.size w wr))
                  case atStart => exact ⟨false, 0, o, rfl, rfl, ⟨by omega⟩, HROW, HNO, RW, BKS, HB⟩
                  case round =>
                    clear HB BKS RW HROW HNO
                    obtain ⟨ag, p, o, rfl, rfl, HP, HROW, HNO, RW, BKS, HB⟩ := hrel
                    have hcrBKS_0 : wr.cell? ⟨gs, 0, none⟩ = some (.int .i64 a0) := (blk_cell BKS.out 0).trans rfl; have hcrBKS_1 : wr.cell? ⟨gs, 1, none⟩ = some (.int .i64 a1) := (blk_cell BKS.out 1).trans rfl; have hcrBKS_2 : wr.cell? ⟨gs, 2, none⟩ = some (.slice (some ad) costs.length c2) := (blk_cell BKS.out 2).trans rfl; have hcrBKS_3 : wr.cell? ⟨gs, 3, none⟩ = some (.slice A3 shut.length c3) := (blk_cell BKS.out 3).trans rfl; have hfrBKS_0 := blk_frozen BKS.out 0; have hfrBKS_1 := blk_frozen BKS.out 1; have hfrBKS_2 := blk_frozen BKS.out 2; have hfrBKS_3 := blk_frozen BKS.out 3
                    by_cases hlt : p < (costs.length : Int)
                    · have h0 : 0 ≤ p := HP.out.1
                      have HLT := Aside0.mk (show p.toNat < costs.length ∧ (p + 1).toNat = p.toNat + 1 ∧ costs.length - p.toNat = (costs.length - (p + 1).toNat) + 1 by omega)
                      have hw1 : wrap64 (p + 1) = p + 1 := by unfold wrap64; have := HN.out; omega
                      have HW := Aside0.mk hw1
                      clear hw1
                      have hcx := RW.out.rd p h0 (by rw [HNO.out]; exact hlt)
                      have d0 : decide (p < (costs.length : Int)) = true := decide_eq_true hlt
                      have d1 : decide (0 ≤ p) = true := decide_eq_true h0
                      replace h0 := eq_true h0
                      replace hlt := eq_true hlt
                      have hr := HROW.out
                      rw [HLT.out.2.2] at hr
                      unfold impl_Cheapest.row at hr
                      by_cases hd : rd o p < 0
                      · rw [if_pos hd] at hr
                        have HR := Aside0.mk hr
                        clear hr
                        have d2 : decide (rd o p < 0) = true := decide_eq_true hd
                        clear hd
                        go_wp2
                        go_roundg (costs.length - (p + 1).toNat)
                        case measure => have := HP.out; have := HLT.out; omega
                        case rel => exact ⟨ag, p + 1, o, rfl, (by first | rfl | (rw [HW.out]) | (simp [HW.out])), ⟨by have := HP.out; have := HLT.out; omega⟩, HR, HNO, RW, BKS, HB⟩
                      · rw [if_neg hd] at hr
                        obtain ⟨qs, hqs, hr⟩ := Option.bind_eq_some_iff.mp hr
                        obtain ⟨s2, hs2, hr⟩ := Option.bind_eq_some_iff.mp hr
                        have HQ := Aside0.mk hqs
                        have HS2 := Aside0.mk hs2
                        have HR := Aside0.mk hr
                        clear hr hqs hs2
                        have d2 : decide (rd o p < 0) = false := decide_eq_false hd
                        clear hd
                        generalize hdd : rd o p = dd at hcx d2 HS2
                        clear hdd
                        go_wp2_with (first | (go_at_call 61; refine (HK3.out _ p qs (by repeat (first | (with_reducible first | exact HB.out | apply below_alloc | apply pw_below_drewN | apply below_drew1) | exact HB.out)) HQ.out).mono ?_; rintro e w6 ⟨v6, rfl, hr6, hb⟩; have hq6 : Kd.R (Kd.int .i64) 3 w6 w.heap.size (fun k => k ≠ go) v6 qs := Kd.R_lower (Kd.R_mono (Kd.R_bound hr6) (fun k hk => Nat.ne_of_gt (Nat.lt_of_lt_of_le RW.out.lt hk.2.1))) (below_size (by repeat (first | (with_reducible first | exact HB.out | apply below_alloc | apply pw_below_drewN | apply below_drew1) | exact HB.out))); have n9_ := Aside0.mk (RW.out.below hb); clear RW; have RW := n9_; clear n9_; have n0_ := Aside0.mk (below_step (by repeat (first | (with_reducible first | exact HB.out | apply below_alloc | apply pw_below_drewN | apply below_drew1) | exact HB.out)) hb); have n1_ := Aside0.mk (blk_below (g := gs) (o := .cells #[.int .i64 a0, .int .i64 a1, .slice (some ad) costs.length c2, .slice A3 shut.length c3] 36 (0, 0)) (by (with_reducible repeat (first | refine blk_drewN ?_ _ | refine blk_drew ?_ | refine blk_alloc ?_ _)); exact BKS.out) hb); clear HB BKS; have HB := n0_; have BKS := n1_; clear n0_ n1_; obtain ⟨A6, c6, rfl⟩ := Kd.R_slice hq6; have HK4 := Aside0.mk (Rw.len_le hq6); have HQR := Aside0.mk hq6; clear hq6 hr6 hb; have hcxBKS_0 : w6.cell? ⟨gs, 0, none⟩ = some (.int .i64 a0) := (blk_cell BKS.out 0).trans rfl; have hcxBKS_1 : w6.cell? ⟨gs, 1, none⟩ = some (.int .i64 a1) := (blk_cell BKS.out 1).trans rfl; have hcxBKS_2 : w6.cell? ⟨gs, 2, none⟩ = some (.slice (some ad) costs.length c2) := (blk_cell BKS.out 2).trans rfl; have hcxBKS_3 : w6.cell? ⟨gs, 3, none⟩ = some (.slice A3 shut.length c3) := (blk_cell BKS.out 3).trans rfl; have hfxBKS_0 := blk_frozen BKS.out 0; have hfxBKS_1 := blk_frozen BKS.out 1; have hfxBKS_2 := blk_frozen BKS.out 2; have hfxBKS_3 := blk_frozen BKS.out 3))
                        go_loopg [8, 60] qs.length (fun gg v8 v60 wr => ∃ (ag : Bool) (j : Int) (o : List Int), v8 = .bool ag ∧ v60 = .int .i64 j ∧ Aside0 (0 ≤ j ∧ j ≤ qs.length ∧ qs.length - j.toNat ≤ gg) ∧ Aside0 (impl_Cheapest.relax costs dd (qs.drop j.toNat) (o, ag) = some s2) ∧ Aside0 (o.length = costs.length) ∧ Aside0 (Rw.Row Rw.I wr 3 go o) ∧ Aside0 (Kd.R (Kd.int .i64) 3 wr w.heap.size (fun k => k ≠ go) (.slice A6 qs.length c6) qs) ∧ Aside0 (wr.heap[gs]? = some (.cells #[.int .i64 a0, .int .i64 a1, .slice (some ad) costs.length c2, .slice A3 shut.length c3] 36 (0, 0))) ∧ Aside0 (Below w.heap.size w wr))
                        case atStart => exact ⟨ag, 0, o, rfl, rfl, ⟨by omega⟩, HS2, HNO, RW, HQR, BKS, HB⟩
                        case round =>
                          clear HB BKS RW HS2 HNO HQR HROW
                          obtain ⟨ag, j, o, rfl, rfl, HJ, HS2, HNO, RW, HQR, BKS, HB⟩ := hrel
                          have hctBKS_0 : wr.cell? ⟨gs, 0, none⟩ = some (.int .i64 a0) := (blk_cell BKS.out 0).trans rfl; have hctBKS_1 : wr.cell? ⟨gs, 1, none⟩ = some (.int .i64 a1) := (blk_cell BKS.out 1).trans rfl; have hctBKS_2 : wr.cell? ⟨gs, 2, none⟩ = some (.slice (some ad) costs.length c2) := (blk_cell BKS.out 2).trans rfl; have hctBKS_3 : wr.cell? ⟨gs, 3, none⟩ = some (.slice A3 shut.length c3) := (blk_cell BKS.out 3).trans rfl; have hftBKS_0 := blk_frozen BKS.out 0; have hftBKS_1 := blk_frozen BKS.out 1; have hftBKS_2 := blk_frozen BKS.out 2; have hftBKS_3 := blk_frozen BKS.out 3
                          by_cases hjl : j < (qs.length : Int)
                          · have hj0 : 0 ≤ j := HJ.out.1
                            obtain ⟨ad2, e2_, hx2⟩ := Kd.at_int (Kd.R_reads' HQR.out).2.2 j hj0 hjl
                            cases e2_
                            have hdr : qs.drop j.toNat = rd qs j :: qs.drop (j.toNat + 1) := by
                              rw [List.drop_eq_getElem_cons (by omega)]
                              congr 1
                              simp [rd, List.getD, show j.toNat < qs.length by omega]
                            have hs := HS2.out
                            rw [hdr] at hs
                            clear hdr
                            have hlen : qs.length ≤ 9223372036854775807 := by
                              have h1 := HK4.out; omega
                            have hw2 : wrap64 (j + 1) = j + 1 := by unfold wrap64; omega
                            have HW2 := Aside0.mk hw2
                            have HLT2 := Aside0.mk (show j.toNat < qs.length ∧ (j + 1).toNat = j.toNat + 1 by omega)
                            clear hw2 hlen
                            generalize hqq : rd qs j = q at hx2 hs
                            clear hqq
                            unfold impl_Cheapest.relax at hs
                            by_cases hq0 : 0 ≤ q
                            · rw [if_pos hq0] at hs
                              by_cases hq1 : q < (costs.length : Int)
                              · rw [if_pos hq1] at hs
                                by_cases hq2 : q < (o.length : Int)
                                · rw [if_pos hq2] at hs
                                  obtain ⟨ad3, e3_, hx3⟩ := Kd.at_int HR2.out q hq0 hq1
                                  obtain rfl : ad = ad3 := by injection e3_
                                  replace hx3 := pw_cell_below HB.out hx3
                                  have hcx := RW.out.rd q hq0 hq2
                                  have hfx := RW.out.frozen q.toNat
                                  have hset := fun x => RW.out.set q.toNat x
                                  have HSET := Aside0.mk hset
                                  clear hset
                                  have d0 : decide (j < (qs.length : Int)) = true := decide_eq_true hjl
                                  have d1 : decide (0 ≤ j) = true := decide_eq_true hj0
                                  have d2 : decide (q < (costs.length : Int)) = true := decide_eq_true hq1
                                  have d3 : decide (0 ≤ q) = true := decide_eq_true hq0
                                  replace hjl := eq_true hjl
                                  replace hj0 := eq_true hj0
                                  replace hq0 := eq_true hq0
                                  replace hq1 := eq_true hq1
                                  clear hq2
                                  generalize hcc : rd costs q = cc at hx3 hs
                                  generalize hoo : rd o q = oo at hcx hs
                                  clear hcc hoo
                                  by_cases hc : cc > 0
                                  · rw [if_pos hc] at hs
                                    have f0 : decide (cc > 0) = true := decide_eq_true hc
                                    have f0' : decide (0 < cc) = true := decide_eq_true hc
                                    clear hc
                                    by_cases ho : oo < 0
                                    · rw [if_pos ho] at hs
                                      have f1 : decide (oo < 0) = true := decide_eq_true ho
                                      have HS3 := Aside0.mk hs
                                      clear ho hs
                                      go_wp2
                                      go_roundg (qs.length - (j + 1).toNat)
                                      case measure => have := HJ.out; have := HLT2.out; omega
                                      case rel => exact ⟨true, j + 1, o.set q.toNat (wrap64 (dd + cc)), rfl, (by first | rfl | (rw [HW2.out]) | (simp [HW2.out])), ⟨by have := HJ.out; have := HLT2.out; omega⟩, ⟨by rw [HLT2.out.2]; exact HS3.out⟩, ⟨by rw [List.length_set]; exact HNO.out⟩, ⟨HSET.out _⟩, ⟨Kd.R_far HQR.out (p := ⟨go, q.toNat, none⟩) (fun _ hk => hk) _⟩, ⟨blk_far BKS.out (p := ⟨go, q.toNat, none⟩) HNE.out _⟩, ⟨below_set HB.out GO.out⟩⟩
                                    · rw [if_neg ho] at hs
                                      have f1 : decide (oo < 0) = false := decide_eq_false ho
                                      clear ho
                                      by_cases hg : oo > wrap64 (dd + cc)
                                      · rw [if_pos hg] at hs
                                        have f2 : decide (oo > wrap64 (dd + cc)) = true := decide_eq_true hg
                                        have f2' : decide (wrap64 (dd + cc) < oo) = true := decide_eq_true hg
                                        have HS3 := Aside0.mk hs
                                        clear hg hs
                                        go_wp2
                                        go_roundg (qs.length - (j + 1).toNat)
                                        case measure => have := HJ.out; have := HLT2.out; omega
                                        case rel => exact ⟨true, j + 1, o.set q.toNat (wrap64 (dd + cc)), rfl, (by first | rfl | (rw [HW2.out]) | (simp [HW2.out])), ⟨by have := HJ.out; have := HLT2.out; omega⟩, ⟨by rw [HLT2.out.2]; exact HS3.out⟩, ⟨by rw [List.length_set]; exact HNO.out⟩, ⟨HSET.out _⟩, ⟨Kd.R_far HQR.out (p := ⟨go, q.toNat, none⟩) (fun _ hk => hk) _⟩, ⟨blk_far BKS.out (p := ⟨go, q.toNat, none⟩) HNE.out _⟩, ⟨below_set HB.out GO.out⟩⟩
                                      · rw [if_neg hg] at hs
                                        have f2 : decide (oo > wrap64 (dd + cc)) = false := decide_eq_false hg
                                        have f2' : decide (wrap64 (dd + cc) < oo) = false := decide_eq_false hg
                                        have HS3 := Aside0.mk hs
                                        clear hg hs
                                        go_wp2
                                        go_roundg (qs.length - (j + 1).toNat)
                                        case measure => have := HJ.out; have := HLT2.out; omega
                                        case rel => exact ⟨ag, j + 1, o, rfl, (by first | rfl | (rw [HW2.out]) | (simp [HW2.out])), ⟨by have := HJ.out; have := HLT2.out; omega⟩, ⟨by rw [HLT2.out.2]; exact HS3.out⟩, HNO, RW, HQR, BKS, HB⟩
                                  · rw [if_neg hc] at hs
                                    have f0 : decide (cc > 0) = false := decide_eq_false hc
                                    have f0' : decide (0 < cc) = false := decide_eq_false hc
                                    have HS3 := Aside0.mk hs
                                    clear hc hs
                                    go_wp2
                                    go_roundg (qs.length - (j + 1).toNat)
                                    case measure => have := HJ.out; have := HLT2.out; omega
                                    case rel => exact ⟨ag, j + 1, o, rfl, (by first | rfl | (rw [HW2.out]) | (simp [HW2.out])), ⟨by have := HJ.out; have := HLT2.out; omega⟩, ⟨by rw [HLT2.out.2]; exact HS3.out⟩, HNO, RW, HQR, BKS, HB⟩
                                · rw [if_neg hq2] at hs; cases hs
                              · rw [if_neg hq1] at hs; cases hs
                            · rw [if_neg hq0] at hs; cases hs
                          · have d0 : decide (j < (qs.length : Int)) = false := decide_eq_false hjl
                            have hjj : j.toNat = qs.length := by have := HJ.out; omega
                            have hs := HS2.out
                            rw [hjj, List.drop_of_length_le (Nat.le_refl _)] at hs
                            unfold impl_Cheapest.relax at hs
                            obtain rfl := Option.some.inj hs
                            clear hs hjj hjl
                            go_wp2
                            go_roundg (costs.length - (p + 1).toNat)
                            case measure => have := HP.out; have := HLT.out; omega
                            case rel => exact ⟨ag, p + 1, o, rfl, (by first | rfl | (rw [HW.out]) | (simp [HW.out])), ⟨by have := HP.out; have := HLT.out; omega⟩, HR, HNO, RW, BKS, HB⟩
                    · have d0 : decide (p < (costs.length : Int)) = false := decide_eq_false hlt
                      have hpp : p.toNat = costs.length := by have := HP.out; omega
                      have hr := HROW.out
                      rw [hpp, Nat.sub_self] at hr
                      unfold impl_Cheapest.row at hr
                      obtain rfl := Option.some.inj hr
                      clear hr hpp hlt
                      have HL2 : Aside0 (ag = true → impl_Cheapest.loop k a0 a1 costs shut m o = some ro) := ⟨fun e => by have h1 := HS1.out; rw [if_pos e] at h1; exact h1⟩
                      have HO2 : Aside0 (ag = false → o = ro) := ⟨fun e => by have h1 := HS1.out; subst e; rw [if_neg (by simp)] at h1; exact Option.some.inj h1⟩
                      go_wp2
                      go_roundg m
                      case measure => have := HM.out; omega
                      case rel => exact ⟨ag, o, m, rfl, ⟨Nat.le_refl _⟩, HL2, HO2, HNO, RW, BKS, HB⟩
      · rw [if_neg ha1] at h; cases h
    · rw [if_neg ha0] at h; cases h
  · rw [if_neg hn] at h; cases h


end Go.Proofs.Ytfeaabdighopbab.PC
