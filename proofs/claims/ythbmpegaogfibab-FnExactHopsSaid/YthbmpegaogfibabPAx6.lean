/- What Go's functions that the laws reach come to: laid by a program of this session over the print's words. -/
import Derived.Test.YthbmpegaogfibabPAx0
import Derived.Test.YthbmpegaogfibabPAx4
import Derived.Test.YthbmpegaogfibabPAx5
namespace Go.Proofs.Ythbmpegaogfibab.PA
open Go.RowKit Go.Proofs.YthbmpegaogfibabW.PrintWords Go.Proofs.YthbmpegaogfibabW.PrintLast Go.Proofs.YthbmpegaogfibabW.PrintMore
attribute [local go_sem] max2_int min2_int max_two min_two max_three min_three max_four min_four   -- for this text's walks alone
set_option linter.unusedVariables false
set_option linter.unusedSimpArgs false

/-! ### impl_Hops_1: function 22, a literal that captures a row and a number -/
set_option maxHeartbeats 4000000 in
set_option maxRecDepth 100000 in
theorem impl_Hops_1.lit (q n : Int) (o : List Int) (Bo Bn go oc m : Nat) (hm : o.length = m) (w : World) (hO : w.heap[Bo]? = some (.cells #[.slice (some ⟨go, 0, none⟩) m oc] 22 (0, 0))) (hN : w.heap[Bn]? = some (.cells #[.int .i64 n] 3 (0, 0))) (hR : Rw.Row Rw.I w 3 go o) (h0 : 0 ≤ q) (h1 : q < (m : Int)) :
    Calls Try.prog 22 #[.int .i64 q, .pointer (some ⟨Bo, 0, none⟩), .pointer (some ⟨Bn, 0, none⟩)] w fun e w' => e = .returned (.bool (rd o q == n)) ∧ Below w.heap.size w w' := by
  have hcx := hR.rd q h0 (by rw [hm]; exact h1)
  have BKO := Aside0.mk hO
  have BKN := Aside0.mk hN
  have d1 : decide (0 ≤ q) = true := decide_eq_true h0
  have d2 : decide (q < (m : Int)) = true := decide_eq_true h1
  replace h0 := eq_true h0
  replace h1 := eq_true h1
  clear hO hN hR hm
  generalize rd o q = x at hcx ⊢
  have hczBKO_0 : w.cell? ⟨Bo, 0, none⟩ = some (.slice (some ⟨go, 0, none⟩) m oc) := (blk_cell BKO.out 0).trans rfl; have hczBKN_0 : w.cell? ⟨Bn, 0, none⟩ = some (.int .i64 n) := (blk_cell BKN.out 0).trans rfl; have hfzBKO_0 := blk_frozen BKO.out 0; have hfzBKN_0 := blk_frozen BKN.out 0
  have HB := Aside0.mk (Below.refl w.heap.size w)
  clear BKO BKN
  go_enter Try.func22, Try.ntmps22
  go_wp2
  repeat (go_quiet (fail); try go_wp2)
  go_ret
  exact ⟨by first | rfl | (simp; done) | (simp [*]; done), (by repeat (first | (with_reducible first | exact HB.out | apply below_alloc | apply pw_below_drewN | apply below_drew1) | exact HB.out))⟩
/-! ### impl_Floor_leads: function 21 -/
def impl_Floor_leads.dx (b : Int) : Int := if b = 0 then 1 else if b = 2 then -1 else 0
def impl_Floor_leads.dy (b : Int) : Int := if b = 1 then 1 else if b = 3 then -1 else 0
def impl_Floor_leads.inr (x a : Int) : Bool := decide (0 ≤ x) && decide (x ≤ wrap64 (a - 1))
def impl_Floor_leads.go (a0 a1 p : Int) (ways : List Int) (x y : Int) : Nat → Int → List Int → List Int
  | 0, _, out => out
  | m + 1, bit, out => impl_Floor_leads.go a0 a1 p ways x y m (bit + 1) (if (Go.bits .and .i64 (shr .i64 (rd ways p) bit) 1 == 1 && (impl_Floor_leads.inr (wrap64 (x + impl_Floor_leads.dx bit)) a0 && impl_Floor_leads.inr (wrap64 (y + impl_Floor_leads.dy bit)) a1)) = true then out ++ [wrap64 (wrap64 (wrap64 (y + impl_Floor_leads.dy bit) * a0) + wrap64 (x + impl_Floor_leads.dx bit))] else out)
def impl_Floor_leads.f (a0 a1 : Int) (ways : List Int) (p : Int) : Option (List Int) := if a0 = 0 then none else if 0 ≤ p ∧ p < (ways.length : Int) then some (impl_Floor_leads.go a0 a1 p ways (Int.tmod p a0) (wrap64 (Int.tdiv p a0)) 4 0 []) else none
theorem impl_Floor_leads.lit_event {P : Program} {ops : Array Oper} {rest : List Oper} {o : Oper} {a : Act} {Q : Exit → Act → World → Prop} {W : World} (hgd : o.guard = none) {N : Tmp} (_hd : o.dst = some N) {cs : Array Value} {t : TypeId} {n : Nat}
    (hrun : (execOp a.eval o).run P W = .ok (.value (.slice (some ⟨W.heap.size, 0, none⟩) n n)) (W.alloc (.cells cs t (0, 0))))
    (h : ∀ g, g = W.heap.size → ∀ w1, w1.heap[g]? = some (.cells cs t (0, 0)) → Below W.heap.size W w1 → wpList P ops Q rest (a.put o.dst (.slice (some ⟨g, 0, none⟩) n n)) w1) : wpList P ops Q (o :: rest) a W :=
  Kd.event_run hgd hrun (h _ rfl _ (blk_new W _) (below_alloc (Below.refl _ _) _))
theorem impl_Floor_leads.tab {w : World} {g t : Nat} (h : w.heap[g]? = some (.cells #[.int .i64 1, .int .i64 0, .int .i64 0, .int .i64 1, .int .i64 (-1), .int .i64 0, .int .i64 0, .int .i64 (-1)] t (0, 0))) (b : Int) (h0 : 0 ≤ b) (h1 : b < 4) : w.cell? ⟨g, b.toNat * 2, none⟩ = some (.int .i64 (impl_Floor_leads.dx b)) ∧ w.cell? ⟨g, b.toNat * 2 + 1, none⟩ = some (.int .i64 (impl_Floor_leads.dy b)) := by
  have hb : b = 0 ∨ b = 1 ∨ b = 2 ∨ b = 3 := by omega
  rcases hb with rfl | rfl | rfl | rfl
  · exact ⟨(blk_cell h 0).trans rfl, (blk_cell h 1).trans rfl⟩
  · exact ⟨(blk_cell h 2).trans rfl, (blk_cell h 3).trans rfl⟩
  · exact ⟨(blk_cell h 4).trans rfl, (blk_cell h 5).trans rfl⟩
  · exact ⟨(blk_cell h 6).trans rfl, (blk_cell h 7).trans rfl⟩
set_option maxHeartbeats 8000000 in
set_option maxRecDepth 100000 in
theorem impl_Floor_leads.calls (a0 a1 : Int) (A2 : Option Addr) (c2 : Nat) (ways : List Int) (p : Int) (r : List Int) (w : World) (hr2 : Kd.C (Kd.int .i64) w A2 ways.length ways) (hc2 : ways.length ≤ c2) (h : impl_Floor_leads.f a0 a1 ways p = some r) :
    Calls Try.prog 21 #[.agg #[.int .i64 a0, .int .i64 a1, .slice A2 ways.length c2], .int .i64 p] w fun e w' => ∃ v0_ : Value, e = .returned v0_ ∧ Kd.R (Kd.int .i64) 3 w' w.heap.size (fun _ => True) v0_ r ∧ Below w.heap.size w w' := by
  have hu28 := Try.underlying28
  have hu22 := Try.underlying22
  have hu45 := Try.underlying45
  have hu44 := Try.underlying44
  unfold impl_Floor_leads.f at h
  by_cases ha : a0 = 0
  · rw [if_pos ha] at h; cases h
  rw [if_neg ha] at h
  by_cases hp : 0 ≤ p ∧ p < (ways.length : Int)
  · rw [if_pos hp] at h
    obtain ⟨hp0, hp1⟩ := hp
    obtain rfl := Option.some.inj h
    obtain ⟨ad, e_, hx⟩ := Kd.at_int hr2 p hp0 hp1
    subst e_
    have HX := Aside0.mk hx
    have a00 : (a0 == 0) = false := beq_eq_false_iff_ne.2 ha
    have a01 : decide (a0 = 0) = false := decide_eq_false ha
    have a02 : (a0 != 0) = true := bne_iff_ne.2 ha
    have p0 : decide (0 ≤ p) = true := decide_eq_true hp0
    have p1 : decide (p < (ways.length : Int)) = true := decide_eq_true hp1
    replace hp0 := eq_true hp0
    replace hp1 := eq_true hp1
    clear h hx hr2 hc2
    have HB := Aside0.mk (Below.refl w.heap.size w)
    obtain ⟨x, hxe⟩ : ∃ x, Int.tmod p a0 = x := ⟨_, rfl⟩
    obtain ⟨y, hye⟩ : ∃ y, wrap64 (Int.tdiv p a0) = y := ⟨_, rfl⟩
    rw [hxe, hye]
    have hye2 : IntKind.i64.wrap (Int.tdiv p a0) = y := (IntWalk.i64_left _).trans hye
    go_enter Try.func21, Try.ntmps21
    go_wp2_with (first | ((with_reducible refine gate_dst (N := 2) rfl ?_); refine box_event ?hg (N := 2) ?hd (cs := #[.int .i64 a0, .int .i64 a1, .slice (some ad) ways.length c2]) (t := 28) ?hr ?_; (case hd => rfl); (case hg => rfl); (case hr => first | (go_simp; done) | (go_simp; rfl)); intro gs hg w2 hbox hb; have GBKS := Aside0.mk (show w.heap.size ≤ gs by rw [hg]; exact below_size (by repeat (first | (with_reducible first | exact HB.out | apply below_alloc | apply pw_below_drewN | apply below_drew1) | exact HB.out))); have BKS := Aside0.mk hbox; have n0_ := Aside0.mk (below_step (by repeat (first | (with_reducible first | exact HB.out | apply below_alloc | apply pw_below_drewN | apply below_drew1) | exact HB.out)) hb); clear HB ; have HB := n0_; clear n0_; clear hb hbox hg; have hcw2BKS_0 : w2.cell? ⟨gs, 0, none⟩ = some (.int .i64 a0) := (blk_cell BKS.out 0).trans rfl; have hcw2BKS_1 : w2.cell? ⟨gs, 1, none⟩ = some (.int .i64 a1) := (blk_cell BKS.out 1).trans rfl; have hcw2BKS_2 : w2.cell? ⟨gs, 2, none⟩ = some (.slice (some ad) ways.length c2) := (blk_cell BKS.out 2).trans rfl; have hfw2BKS_0 := blk_frozen BKS.out 0; have hfw2BKS_1 := blk_frozen BKS.out 1; have hfw2BKS_2 := blk_frozen BKS.out 2))
    repeat (go_quiet (fail); try go_wp2_with (first | ((with_reducible refine gate_dst (N := 24) rfl ?_); refine impl_Floor_leads.lit_event rfl (N := 24) rfl (cs := #[.int .i64 1, .int .i64 0, .int .i64 0, .int .i64 1, .int .i64 (-1), .int .i64 0, .int .i64 0, .int .i64 (-1)]) (t := 44) (n := 4) ?hr ?_; (case hr => first | (go_simp; done) | (go_simp; rfl)); intro gt hg w3 hbox hb; have GT := Aside0.mk (show w.heap.size ≤ gt by rw [hg]; exact below_size (by repeat (first | (with_reducible first | exact HB.out | apply below_alloc | apply pw_below_drewN | apply below_drew1) | exact HB.out))); have n0_ := Aside0.mk (below_step (by repeat (first | (with_reducible first | exact HB.out | apply below_alloc | apply pw_below_drewN | apply below_drew1) | exact HB.out)) hb); have n1_ := Aside0.mk (blk_below (g := gs) (o := .cells #[.int .i64 a0, .int .i64 a1, .slice (some ad) ways.length c2] 28 (0, 0)) (by (with_reducible repeat (first | refine blk_drewN ?_ _ | refine blk_drew ?_ | refine blk_alloc ?_ _)); exact BKS.out) hb); clear HB BKS; have HB := n0_; have BKS := n1_; clear n0_ n1_; have BKT := Aside0.mk hbox; clear hb hbox hg; have hcw3BKS_0 : w3.cell? ⟨gs, 0, none⟩ = some (.int .i64 a0) := (blk_cell BKS.out 0).trans rfl; have hcw3BKS_1 : w3.cell? ⟨gs, 1, none⟩ = some (.int .i64 a1) := (blk_cell BKS.out 1).trans rfl; have hcw3BKS_2 : w3.cell? ⟨gs, 2, none⟩ = some (.slice (some ad) ways.length c2) := (blk_cell BKS.out 2).trans rfl; have hcw3BKT_0 : w3.cell? ⟨gt, 0, none⟩ = some (.int .i64 1) := (blk_cell BKT.out 0).trans rfl; have hcw3BKT_1 : w3.cell? ⟨gt, 1, none⟩ = some (.int .i64 0) := (blk_cell BKT.out 1).trans rfl; have hcw3BKT_2 : w3.cell? ⟨gt, 2, none⟩ = some (.int .i64 0) := (blk_cell BKT.out 2).trans rfl; have hcw3BKT_3 : w3.cell? ⟨gt, 3, none⟩ = some (.int .i64 1) := (blk_cell BKT.out 3).trans rfl; have hcw3BKT_4 : w3.cell? ⟨gt, 4, none⟩ = some (.int .i64 (-1)) := (blk_cell BKT.out 4).trans rfl; have hcw3BKT_5 : w3.cell? ⟨gt, 5, none⟩ = some (.int .i64 0) := (blk_cell BKT.out 5).trans rfl; have hcw3BKT_6 : w3.cell? ⟨gt, 6, none⟩ = some (.int .i64 0) := (blk_cell BKT.out 6).trans rfl; have hcw3BKT_7 : w3.cell? ⟨gt, 7, none⟩ = some (.int .i64 (-1)) := (blk_cell BKT.out 7).trans rfl; have hfw3BKS_0 := blk_frozen BKS.out 0; have hfw3BKS_1 := blk_frozen BKS.out 1; have hfw3BKS_2 := blk_frozen BKS.out 2; have hfw3BKT_0 := blk_frozen BKT.out 0; have hfw3BKT_1 := blk_frozen BKT.out 1; have hfw3BKT_2 := blk_frozen BKT.out 2; have hfw3BKT_3 := blk_frozen BKT.out 3; have hfw3BKT_4 := blk_frozen BKT.out 4; have hfw3BKT_5 := blk_frozen BKT.out 5; have hfw3BKT_6 := blk_frozen BKT.out 6; have hfw3BKT_7 := blk_frozen BKT.out 7)))
    clear hxe hye hye2
    go_loopg [5, 26] 4 (fun gg v5 v26 wr => ∃ (bit : Int) (out : List Int), v26 = .int .i64 bit ∧ Aside0 (0 ≤ bit ∧ bit ≤ 4 ∧ 4 - bit.toNat ≤ gg) ∧ Aside0 (impl_Floor_leads.go a0 a1 p ways x y (4 - bit.toNat) bit out = impl_Floor_leads.go a0 a1 p ways x y 4 0 []) ∧ Aside0 (Kd.R (Kd.int .i64) 3 wr w.heap.size (fun _ => True) v5 out) ∧ Aside0 (out.length ≤ bit.toNat) ∧ Aside0 (wr.heap[gs]? = some (.cells #[.int .i64 a0, .int .i64 a1, .slice (some ad) ways.length c2] 28 (0, 0))) ∧ Aside0 (wr.heap[gt]? = some (.cells #[.int .i64 1, .int .i64 0, .int .i64 0, .int .i64 1, .int .i64 (-1), .int .i64 0, .int .i64 0, .int .i64 (-1)] 44 (0, 0))) ∧ Aside0 (Below w.heap.size w wr))
    case atStart => exact ⟨0, [], rfl, ⟨by omega⟩, ⟨rfl⟩, ⟨Kd.R_nil _ _ _ _ _⟩, ⟨Nat.zero_le _⟩, BKS, BKT, HB⟩
    case round =>
      clear HB BKS BKT
      obtain ⟨bit, out, rfl, HI, HGO, HRO, HOL, BKS, BKT, HB⟩ := hrel
      have hcrBKS_0 : wr.cell? ⟨gs, 0, none⟩ = some (.int .i64 a0) := (blk_cell BKS.out 0).trans rfl; have hcrBKS_1 : wr.cell? ⟨gs, 1, none⟩ = some (.int .i64 a1) := (blk_cell BKS.out 1).trans rfl; have hcrBKS_2 : wr.cell? ⟨gs, 2, none⟩ = some (.slice (some ad) ways.length c2) := (blk_cell BKS.out 2).trans rfl; have hcrBKT_0 : wr.cell? ⟨gt, 0, none⟩ = some (.int .i64 1) := (blk_cell BKT.out 0).trans rfl; have hcrBKT_1 : wr.cell? ⟨gt, 1, none⟩ = some (.int .i64 0) := (blk_cell BKT.out 1).trans rfl; have hcrBKT_2 : wr.cell? ⟨gt, 2, none⟩ = some (.int .i64 0) := (blk_cell BKT.out 2).trans rfl; have hcrBKT_3 : wr.cell? ⟨gt, 3, none⟩ = some (.int .i64 1) := (blk_cell BKT.out 3).trans rfl; have hcrBKT_4 : wr.cell? ⟨gt, 4, none⟩ = some (.int .i64 (-1)) := (blk_cell BKT.out 4).trans rfl; have hcrBKT_5 : wr.cell? ⟨gt, 5, none⟩ = some (.int .i64 0) := (blk_cell BKT.out 5).trans rfl; have hcrBKT_6 : wr.cell? ⟨gt, 6, none⟩ = some (.int .i64 0) := (blk_cell BKT.out 6).trans rfl; have hcrBKT_7 : wr.cell? ⟨gt, 7, none⟩ = some (.int .i64 (-1)) := (blk_cell BKT.out 7).trans rfl; have hfrBKS_0 := blk_frozen BKS.out 0; have hfrBKS_1 := blk_frozen BKS.out 1; have hfrBKS_2 := blk_frozen BKS.out 2; have hfrBKT_0 := blk_frozen BKT.out 0; have hfrBKT_1 := blk_frozen BKT.out 1; have hfrBKT_2 := blk_frozen BKT.out 2; have hfrBKT_3 := blk_frozen BKT.out 3; have hfrBKT_4 := blk_frozen BKT.out 4; have hfrBKT_5 := blk_frozen BKT.out 5; have hfrBKT_6 := blk_frozen BKT.out 6; have hfrBKT_7 := blk_frozen BKT.out 7
      by_cases hlt : bit < 4
      · have h0 : 0 ≤ bit := HI.out.1
        obtain ⟨hd1, hd2⟩ := impl_Floor_leads.tab BKT.out bit h0 hlt
        have hx := pw_cell_below HB.out HX.out
        have hgo := HGO.out
        have HLT := Aside0.mk (show (bit + 1).toNat = bit.toNat + 1 ∧ bit < 4 by omega)
        rw [show 4 - bit.toNat = (4 - (bit + 1).toNat) + 1 by omega] at hgo
        rw [impl_Floor_leads.go] at hgo
        clear HGO
        have hw1 : wrap64 (bit + 1) = bit + 1 := by unfold wrap64; omega
        have HW := Aside0.mk hw1
        clear hw1
        generalize impl_Floor_leads.dx bit = dxv at hd1 hgo
        generalize impl_Floor_leads.dy bit = dyv at hd2 hgo
        have d0 : decide (bit < 4) = true := decide_eq_true hlt
        have d1 : decide (0 ≤ bit) = true := decide_eq_true h0
        obtain ⟨ji, hji⟩ : ∃ j, shr .i64 (rd ways p) bit = j := ⟨_, rfl⟩
        rw [hji] at hgo
        have hji_ : (rd ways p) / 2 ^ min bit.toNat 64 = ji := hji
        have hjiz : bit ≤ 64 → (rd ways p) / 2 ^ bit.toNat = ji := shr_small hji
        have h64 := eq_true (show bit ≤ 64 by omega)
        replace h0 := eq_true h0
        replace hlt := eq_true hlt
        have HG := Aside0.mk hgo
        clear hgo
        have q1 : IntKind.i64.wrap (x + dxv) = wrap64 (x + dxv) := IntWalk.i64_left _
        have q2 : IntKind.i64.wrap (y + dyv) = wrap64 (y + dyv) := IntWalk.i64_left _
        go_upto_region 7 with (first | ((with_reducible refine gate_dst (N := 9) rfl ?_); refine box_event ?hg (N := 9) ?hd (cs := #[.int .i64 0, .int .i64 0]) (t := 44) ?hr ?_; (case hd => rfl); (case hg => rfl); (case hr => first | (go_simp; done) | (go_simp; rfl)); intro gd hg w4 hbox hb; have HTD := Aside0.mk (show gt ≠ gd by rw [hg]; exact Nat.ne_of_lt (blk_lt (by (with_reducible repeat (first | refine blk_drewN ?_ _ | refine blk_drew ?_ | refine blk_alloc ?_ _)); exact BKT.out))); have HSD := Aside0.mk (show gs ≠ gd by rw [hg]; exact Nat.ne_of_lt (blk_lt (by (with_reducible repeat (first | refine blk_drewN ?_ _ | refine blk_drew ?_ | refine blk_alloc ?_ _)); exact BKS.out))); have HR4 := Aside0.mk (Kd.R_below HRO.out hb); clear HRO; have HRO := HR4; clear HR4; have GBKD := Aside0.mk (show w.heap.size ≤ gd by rw [hg]; exact below_size (by repeat (first | (with_reducible first | exact HB.out | apply below_alloc | apply pw_below_drewN | apply below_drew1) | exact HB.out))); have BKD := Aside0.mk hbox; have n0_ := Aside0.mk (below_step (by repeat (first | (with_reducible first | exact HB.out | apply below_alloc | apply pw_below_drewN | apply below_drew1) | exact HB.out)) hb); have n1_ := Aside0.mk (blk_below (g := gs) (o := .cells #[.int .i64 a0, .int .i64 a1, .slice (some ad) ways.length c2] 28 (0, 0)) (by (with_reducible repeat (first | refine blk_drewN ?_ _ | refine blk_drew ?_ | refine blk_alloc ?_ _)); exact BKS.out) hb); have n2_ := Aside0.mk (blk_below (g := gt) (o := .cells #[.int .i64 1, .int .i64 0, .int .i64 0, .int .i64 1, .int .i64 (-1), .int .i64 0, .int .i64 0, .int .i64 (-1)] 44 (0, 0)) (by (with_reducible repeat (first | refine blk_drewN ?_ _ | refine blk_drew ?_ | refine blk_alloc ?_ _)); exact BKT.out) hb); clear HB BKS BKT; have HB := n0_; have BKS := n1_; have BKT := n2_; clear n0_ n1_ n2_; clear hb hbox hg; have hcw4BKS_0 : w4.cell? ⟨gs, 0, none⟩ = some (.int .i64 a0) := (blk_cell BKS.out 0).trans rfl; have hcw4BKS_1 : w4.cell? ⟨gs, 1, none⟩ = some (.int .i64 a1) := (blk_cell BKS.out 1).trans rfl; have hcw4BKS_2 : w4.cell? ⟨gs, 2, none⟩ = some (.slice (some ad) ways.length c2) := (blk_cell BKS.out 2).trans rfl; have hcw4BKT_0 : w4.cell? ⟨gt, 0, none⟩ = some (.int .i64 1) := (blk_cell BKT.out 0).trans rfl; have hcw4BKT_1 : w4.cell? ⟨gt, 1, none⟩ = some (.int .i64 0) := (blk_cell BKT.out 1).trans rfl; have hcw4BKT_2 : w4.cell? ⟨gt, 2, none⟩ = some (.int .i64 0) := (blk_cell BKT.out 2).trans rfl; have hcw4BKT_3 : w4.cell? ⟨gt, 3, none⟩ = some (.int .i64 1) := (blk_cell BKT.out 3).trans rfl; have hcw4BKT_4 : w4.cell? ⟨gt, 4, none⟩ = some (.int .i64 (-1)) := (blk_cell BKT.out 4).trans rfl; have hcw4BKT_5 : w4.cell? ⟨gt, 5, none⟩ = some (.int .i64 0) := (blk_cell BKT.out 5).trans rfl; have hcw4BKT_6 : w4.cell? ⟨gt, 6, none⟩ = some (.int .i64 0) := (blk_cell BKT.out 6).trans rfl; have hcw4BKT_7 : w4.cell? ⟨gt, 7, none⟩ = some (.int .i64 (-1)) := (blk_cell BKT.out 7).trans rfl; have hcw4BKD_0 : w4.cell? ⟨gd, 0, none⟩ = some (.int .i64 0) := (blk_cell BKD.out 0).trans rfl; have hcw4BKD_1 : w4.cell? ⟨gd, 1, none⟩ = some (.int .i64 0) := (blk_cell BKD.out 1).trans rfl; have hfw4BKS_0 := blk_frozen BKS.out 0; have hfw4BKS_1 := blk_frozen BKS.out 1; have hfw4BKS_2 := blk_frozen BKS.out 2; have hfw4BKT_0 := blk_frozen BKT.out 0; have hfw4BKT_1 := blk_frozen BKT.out 1; have hfw4BKT_2 := blk_frozen BKT.out 2; have hfw4BKT_3 := blk_frozen BKT.out 3; have hfw4BKT_4 := blk_frozen BKT.out 4; have hfw4BKT_5 := blk_frozen BKT.out 5; have hfw4BKT_6 := blk_frozen BKT.out 6; have hfw4BKT_7 := blk_frozen BKT.out 7; have hfw4BKD_0 := blk_frozen BKD.out 0; have hfw4BKD_1 := blk_frozen BKD.out 1) | ((with_reducible refine gate_store (t := 44) (p := 9) rfl ?_); refine store_event (t := 44) (p := 9) (v := ?vo_w5) (w1 := ((w4.setCell ⟨gd, 0, none⟩ (.int .i64 dxv)).setCell ⟨gd, 1, none⟩ (.int .i64 dyv))) ?hg ?ho ?hn ?hr ?_; (case ho => rfl); (case hg => rfl); (case hn => rfl); (case hr => first | (go_simp; done) | (go_simp; rfl)); intro w5 hw; have n0_ : Aside0 (Kd.R (Kd.int .i64) 3 w5 w.heap.size (fun _ => True) u5 out) := Aside0.mk (by rw [hw]; exact Kd.R_mono (Kd.R_far (Kd.R_far (Kd.R_types HRO.out BKD.out (by decide)) (p := ⟨gd, 0, none⟩) (fun k hk => hk.2) (.int .i64 dxv)) (p := ⟨gd, 1, none⟩) (fun k hk => hk.2) (.int .i64 dyv)) (fun _ _ => trivial)); clear HRO; have HRO := n0_; clear n0_; have n0_ : Aside0 (w5.heap[gd]? = some (.cells #[.int .i64 dxv, .int .i64 dyv] 44 (0, 0))) := Aside0.mk (by rw [hw]; exact (blk_put (cs := #[.int .i64 dxv, .int .i64 0]) (cs' := #[.int .i64 dxv, .int .i64 dyv]) (blk_put (cs := #[.int .i64 0, .int .i64 0]) (cs' := #[.int .i64 dxv, .int .i64 0]) BKD.out 0 (.int .i64 dxv) rfl) 1 (.int .i64 dyv) rfl)); have n1_ : Aside0 (Below w.heap.size w w5) := Aside0.mk (by rw [hw]; exact (below_set (below_set HB.out GBKD.out) GBKD.out)); have n2_ : Aside0 (w5.heap[gs]? = some (.cells #[.int .i64 a0, .int .i64 a1, .slice (some ad) ways.length c2] 28 (0, 0))) := Aside0.mk (by rw [hw]; exact (blk_far (blk_far BKS.out (p := ⟨gd, 0, none⟩) HSD.out (.int .i64 dxv)) (p := ⟨gd, 1, none⟩) HSD.out (.int .i64 dyv))); have n3_ : Aside0 (w5.heap[gt]? = some (.cells #[.int .i64 1, .int .i64 0, .int .i64 0, .int .i64 1, .int .i64 (-1), .int .i64 0, .int .i64 0, .int .i64 (-1)] 44 (0, 0))) := Aside0.mk (by rw [hw]; exact (blk_far (blk_far BKT.out (p := ⟨gd, 0, none⟩) HTD.out (.int .i64 dxv)) (p := ⟨gd, 1, none⟩) HTD.out (.int .i64 dyv))); clear HB BKD BKS BKT hw; have BKD := n0_; have HB := n1_; have BKS := n2_; have BKT := n3_; clear n0_ n1_ n2_ n3_; have hcw5BKS_0 : w5.cell? ⟨gs, 0, none⟩ = some (.int .i64 a0) := (blk_cell BKS.out 0).trans rfl; have hcw5BKS_1 : w5.cell? ⟨gs, 1, none⟩ = some (.int .i64 a1) := (blk_cell BKS.out 1).trans rfl; have hcw5BKS_2 : w5.cell? ⟨gs, 2, none⟩ = some (.slice (some ad) ways.length c2) := (blk_cell BKS.out 2).trans rfl; have hcw5BKT_0 : w5.cell? ⟨gt, 0, none⟩ = some (.int .i64 1) := (blk_cell BKT.out 0).trans rfl; have hcw5BKT_1 : w5.cell? ⟨gt, 1, none⟩ = some (.int .i64 0) := (blk_cell BKT.out 1).trans rfl; have hcw5BKT_2 : w5.cell? ⟨gt, 2, none⟩ = some (.int .i64 0) := (blk_cell BKT.out 2).trans rfl; have hcw5BKT_3 : w5.cell? ⟨gt, 3, none⟩ = some (.int .i64 1) := (blk_cell BKT.out 3).trans rfl; have hcw5BKT_4 : w5.cell? ⟨gt, 4, none⟩ = some (.int .i64 (-1)) := (blk_cell BKT.out 4).trans rfl; have hcw5BKT_5 : w5.cell? ⟨gt, 5, none⟩ = some (.int .i64 0) := (blk_cell BKT.out 5).trans rfl; have hcw5BKT_6 : w5.cell? ⟨gt, 6, none⟩ = some (.int .i64 0) := (blk_cell BKT.out 6).trans rfl; have hcw5BKT_7 : w5.cell? ⟨gt, 7, none⟩ = some (.int .i64 (-1)) := (blk_cell BKT.out 7).trans rfl; have hcw5BKD_0 : w5.cell? ⟨gd, 0, none⟩ = some (.int .i64 dxv) := (blk_cell BKD.out 0).trans rfl; have hcw5BKD_1 : w5.cell? ⟨gd, 1, none⟩ = some (.int .i64 dyv) := (blk_cell BKD.out 1).trans rfl; have hfw5BKS_0 := blk_frozen BKS.out 0; have hfw5BKS_1 := blk_frozen BKS.out 1; have hfw5BKS_2 := blk_frozen BKS.out 2; have hfw5BKT_0 := blk_frozen BKT.out 0; have hfw5BKT_1 := blk_frozen BKT.out 1; have hfw5BKT_2 := blk_frozen BKT.out 2; have hfw5BKT_3 := blk_frozen BKT.out 3; have hfw5BKT_4 := blk_frozen BKT.out 4; have hfw5BKT_5 := blk_frozen BKT.out 5; have hfw5BKT_6 := blk_frozen BKT.out 6; have hfw5BKT_7 := blk_frozen BKT.out 7; have hfw5BKD_0 := blk_frozen BKD.out 0; have hfw5BKD_1 := blk_frozen BKD.out 1))
        go_quiet (fail)
        go_upto_region 7 with (fail)
        clear q1 q2 hd1 hd2
        have hx2 := pw_cell_below HB.out HX.out
        clear hx
        have hgo := HG.out
        clear HG
        generalize wrap64 (x + dxv) = av at hgo ⊢
        generalize wrap64 (y + dyv) = bv at hgo ⊢
        cases c1 : Go.bits .and .i64 ji 1 == 1 with
        | false =>
          rw [c1, Bool.false_and, if_neg (by decide)] at hgo
          have HGO := Aside0.mk hgo
          clear hgo
          go_wp2
          go_roundg (4 - (bit + 1).toNat)
          case measure => have := HI.out; have := HLT.out; omega
          case rel => exact ⟨bit + 1, out, (by first | rfl | (rw [HW.out]) | (simp [HW.out])), ⟨by have := HI.out; have := HLT.out; omega⟩, HGO, HRO, ⟨by have := HOL.out; have := HLT.out; omega⟩, BKS, BKT, ⟨(by repeat (first | (with_reducible first | exact HB.out | apply below_alloc | apply pw_below_drewN | apply below_drew1) | exact HB.out))⟩⟩
        | true =>
        cases c2_ : impl_Floor_leads.inr av a0 with
        | false =>
          rw [c1, c2_, Bool.false_and, Bool.and_false, if_neg (by decide)] at hgo
          have HGO := Aside0.mk hgo
          have HI1 := Aside0.mk ((impl_in.eq av 0 (wrap64 (a0 - 1))).trans (congrArg some c2_))
          clear hgo c2_
          go_wp2_with (first | (go_at_call 24; (with_reducible refine (impl_in.calls _ _ _ _ _ HI1.out).mono ?_); rintro e w6 ⟨rfl, ⟨nd6, rfl⟩⟩))
          go_roundg (4 - (bit + 1).toNat)
          case measure => have := HI.out; have := HLT.out; omega
          case rel => exact ⟨bit + 1, out, (by first | rfl | (rw [HW.out]) | (simp [HW.out])), ⟨by have := HI.out; have := HLT.out; omega⟩, HGO, HRO, ⟨by have := HOL.out; have := HLT.out; omega⟩, BKS, BKT, ⟨(by repeat (first | (with_reducible first | exact HB.out | apply below_alloc | apply pw_below_drewN | apply below_drew1) | exact HB.out))⟩⟩
        | true =>
        cases c3_ : impl_Floor_leads.inr bv a1 with
        | false =>
          rw [c1, c2_, c3_, Bool.and_false, Bool.and_false, if_neg (by decide)] at hgo
          have HGO := Aside0.mk hgo
          have HI1 := Aside0.mk ((impl_in.eq av 0 (wrap64 (a0 - 1))).trans (congrArg some c2_))
          have HI2 := Aside0.mk ((impl_in.eq bv 0 (wrap64 (a1 - 1))).trans (congrArg some c3_))
          clear hgo c2_ c3_
          go_wp2_with (first | (go_at_call 24; (with_reducible refine (impl_in.calls _ _ _ _ _ HI1.out).mono ?_); rintro e w6 ⟨rfl, ⟨nd6, rfl⟩⟩) | (go_at_call 24; (with_reducible refine (impl_in.calls _ _ _ _ _ HI2.out).mono ?_); rintro e w7 ⟨rfl, ⟨nd7, rfl⟩⟩))
          go_roundg (4 - (bit + 1).toNat)
          case measure => have := HI.out; have := HLT.out; omega
          case rel => exact ⟨bit + 1, out, (by first | rfl | (rw [HW.out]) | (simp [HW.out])), ⟨by have := HI.out; have := HLT.out; omega⟩, HGO, HRO, ⟨by have := HOL.out; have := HLT.out; omega⟩, BKS, BKT, ⟨(by repeat (first | (with_reducible first | exact HB.out | apply below_alloc | apply pw_below_drewN | apply below_drew1) | exact HB.out))⟩⟩
        | true =>
          rw [c1, c2_, c3_, if_pos (by decide)] at hgo
          have HI1 := Aside0.mk ((impl_in.eq av 0 (wrap64 (a0 - 1))).trans (congrArg some c2_))
          have HI2 := Aside0.mk ((impl_in.eq bv 0 (wrap64 (a1 - 1))).trans (congrArg some c3_))
          obtain ⟨val, hval⟩ : ∃ z, z = wrap64 (wrap64 (bv * a0) + av) := ⟨_, rfl⟩
          rw [← hval] at hgo
          have HGO := Aside0.mk hgo
          clear hgo c2_ c3_
          have hval2 := hval.symm
          clear hval
          go_wp2_with (first | (go_at_call 24; (with_reducible refine (impl_in.calls _ _ _ _ _ HI1.out).mono ?_); rintro e w6 ⟨rfl, ⟨nd6, rfl⟩⟩) | (go_at_call 24; (with_reducible refine (impl_in.calls _ _ _ _ _ HI2.out).mono ?_); rintro e w7 ⟨rfl, ⟨nd7, rfl⟩⟩) | ((with_reducible refine gate_builtin (b := .append) (xs := #[.tmp 62, .tmp 69]) rfl ?_); at_builtin; refine Kd.R_append (Kd.int .i64) (w0 := w) w.heap.size rfl (.tmp 62) (.tmp 69) 22 3 (.int .i64 0) 8 rfl Try.underlying22 info3 rfl (by decide) (by omega) u5 out val [.int .i64 val] (fun _ => True) (fun _ => False) rfl rfl ?aP (fun _ hk => hk.elim) ?aF ?aO ?aB ?aS ?aL ?_; (case aP => exact rfl); (case aF => exact (fun _ _ => trivial)); (case aO => exact (by (with_reducible repeat (first | apply Kd.R_alloc | apply Kd.R_drewN | apply Kd.R_drew)); exact HRO.out)); (case aB => exact (by repeat (first | (with_reducible first | exact HB.out | apply below_alloc | apply pw_below_drewN | apply below_drew1) | exact HB.out))); (case aS => exact below_size (by repeat (first | (with_reducible first | exact HB.out | apply below_alloc | apply pw_below_drewN | apply below_drew1) | exact HB.out))); (case aL => have := HOL.out; have := HLT.out; omega); intro v8 w8 ho hb hg hat; have n0_ := Aside0.mk (blk_grown (g := gs) (o := .cells #[.int .i64 a0, .int .i64 a1, .slice (some ad) ways.length c2] 28 (0, 0)) (by (with_reducible repeat (first | refine blk_drewN ?_ _ | refine blk_drew ?_ | refine blk_alloc ?_ _)); exact BKS.out) hg (Kd.R_ne HRO.out BKS.out (by decide))); have n1_ := Aside0.mk (blk_grown (g := gt) (o := .cells #[.int .i64 1, .int .i64 0, .int .i64 0, .int .i64 1, .int .i64 (-1), .int .i64 0, .int .i64 0, .int .i64 (-1)] 44 (0, 0)) (by (with_reducible repeat (first | refine blk_drewN ?_ _ | refine blk_drew ?_ | refine blk_alloc ?_ _)); exact BKT.out) hg (Kd.R_ne HRO.out BKT.out (by decide))); have n2_ := Aside0.mk hb; have n3_ := Aside0.mk ho; clear BKS BKT HB HRO ho hb hg hat; have BKS := n0_; have BKT := n1_; have HB := n2_; have HRO := n3_; clear n0_ n1_ n2_ n3_))
          go_roundg (4 - (bit + 1).toNat)
          case measure => have := HI.out; have := HLT.out; omega
          case rel => exact ⟨bit + 1, out ++ [val], (by first | rfl | (rw [HW.out]) | (simp [HW.out])), ⟨by have := HI.out; have := HLT.out; omega⟩, HGO, HRO, ⟨by have := HOL.out; have := HLT.out; simp; omega⟩, BKS, BKT, HB⟩
      · have d0 : decide (bit < 4) = false := decide_eq_false hlt
        have hgo := HGO.out
        rw [show 4 - bit.toNat = 0 by have := HI.out; omega] at hgo
        rw [impl_Floor_leads.go] at hgo
        clear hlt HGO
        have HGO := Aside0.mk hgo
        clear hgo
        go_wp2
        go_ret
        exact ⟨_, rfl, by rw [← HGO.out]; exact HRO.out, (by repeat (first | (with_reducible first | exact HB.out | apply below_alloc | apply pw_below_drewN | apply below_drew1) | exact HB.out))⟩
  · rw [if_neg hp] at h; cases h
/-! ### impl_Hops: function 7 -/
def impl_Hops.row (a0 a1 : Int) (ways : List Int) (n : Int) : Nat → Int → List Int × Bool → Option (List Int × Bool)
  | 0, _, s => some s
  | m + 1, p, s => if rd s.1 p < 0 then (impl_Floor_leads.f a0 a1 ways p).bind fun qs => if qs.all (fun q => decide (0 ≤ q) && decide (q < (ways.length : Int))) = true then (if qs.any (fun q => rd s.1 q == n) = true then impl_Hops.row a0 a1 ways n m (p + 1) (s.1.set p.toNat (wrap64 (n + 1)), true) else impl_Hops.row a0 a1 ways n m (p + 1) s) else none else impl_Hops.row a0 a1 ways n m (p + 1) s
def impl_Hops.loop (a0 a1 : Int) (ways : List Int) : Nat → Int → List Int → Option (List Int)
  | 0, _, _ => none
  | m + 1, n, o => (impl_Hops.row a0 a1 ways n ways.length 0 (o, false)).bind fun s => if s.2 = true then impl_Hops.loop a0 a1 ways m (wrap64 (n + 1)) s.1 else some s.1
def impl_Hops.f (k : Nat) (a0 a1 : Int) (ways : List Int) (a : Int) : Option (List Int × Bool) := (impl_FloorOk.f a0 a1 ways).bind fun t => if t = true then ((impl_Floor_place.f a0 a1 ways a).bind fun t => if t = true then (if ways.length ≤ 1000000 ∧ 0 ≤ a ∧ a < (ways.length : Int) then (impl_Hops.loop a0 a1 ways k 0 ((List.replicate ways.length (-1)).set a.toNat 0)).bind fun o => some (o, true) else none) else some ([], false)) else some ([], false)
theorem impl_Hops.mono_loop (a0 a1 : Int) (ways : List Int) : ∀ m n o, LeO (impl_Hops.loop a0 a1 ways m n o) (impl_Hops.loop a0 a1 ways (m + 1) n o)
  | 0, _, _ => LeO.none _
  | m + 1, n, o => by
    unfold impl_Hops.loop
    exact LeO.bind (LeO.refl _) fun _ => LeO.ite (impl_Hops.mono_loop a0 a1 ways m _ _) (LeO.refl _)
theorem impl_Hops.mono : ∀ a0 a1 a2 a3 k, LeO (impl_Hops.f k a0 a1 a2 a3) (impl_Hops.f (k + 1) a0 a1 a2 a3) := by
  intro a0 a1 a2 a3 k
  unfold impl_Hops.f
  exact LeO.bind (LeO.refl _) fun _ => LeO.ite (LeO.bind (LeO.refl _) fun _ => LeO.ite (LeO.ite (LeO.bind (impl_Hops.mono_loop _ _ _ _ _ _) fun _ => LeO.refl _) (LeO.refl _)) (LeO.refl _)) (LeO.refl _)
theorem impl_Hops.fill (i n : Nat) (h : i < n) : (List.replicate i (-1 : Int) ++ List.replicate (n - i) 0).set i (-1) = List.replicate (i + 1) (-1) ++ List.replicate (n - (i + 1)) 0 := by
  rw [List.set_append_right _ _ (by simp), List.length_replicate, Nat.sub_self, show n - i = (n - (i + 1)) + 1 by omega, List.replicate_succ, List.set_cons_zero, List.replicate_succ' (n := i), List.append_assoc]
  rfl
set_option maxHeartbeats 8000000 in
set_option maxRecDepth 100000 in
theorem impl_Hops.calls (k : Nat) (a0 a1 : Int) (A2 : Option Addr) (c2 : Nat) (ways : List Int) (a : Int) (r1 : List Int) (r2 : Bool) (w : World) (hr2 : Kd.C (Kd.int .i64) w A2 ways.length ways) (hc2 : ways.length ≤ c2) (h : impl_Hops.f k a0 a1 ways a = some (r1, r2)) :
    Calls Try.prog 7 #[.agg #[.int .i64 a0, .int .i64 a1, .slice A2 ways.length c2], .int .i64 a] w fun e w' => ∃ v0_ : Value, e = .returned (.tuple #[v0_, .bool r2]) ∧ Kd.R (Kd.int .i64) 3 w' w.heap.size (fun _ => True) v0_ r1 ∧ Below w.heap.size w w' := by
  have hu28 := Try.underlying28
  have hu22 := Try.underlying22
  have hmf : ∀ (fn : Fn) (first cap : Array Value) (w : World), (Instr.makeFunc fn first cap).run Try.prog w = .ok (.func fn first cap) w := fun _ _ _ _ => rfl
  have HK1 : Aside0 (∀ (W : World) (t : Bool), Below w.heap.size w W → impl_FloorOk.f a0 a1 ways = some t → Calls Try.prog 18 #[.agg #[.int .i64 a0, .int .i64 a1, .slice A2 ways.length c2]] W fun e w' => e = .returned (.bool t) ∧ Below W.heap.size W w') := ⟨fun W t hb ht => impl_FloorOk.calls a0 a1 A2 c2 ways t W (Kd.C_below hr2 hb) hc2 ht⟩
  have HK2 : Aside0 (∀ (W : World) (t : Bool), Below w.heap.size w W → impl_Floor_place.f a0 a1 ways a = some t → Calls Try.prog 19 #[.agg #[.int .i64 a0, .int .i64 a1, .slice A2 ways.length c2], .int .i64 a] W fun e w' => e = .returned (.bool t) ∧ Below W.heap.size W w') := ⟨fun W t hb ht => impl_Floor_place.calls a0 a1 A2 c2 ways a t W (Kd.C_below hr2 hb) hc2 ht⟩
  have HK3 : Aside0 (∀ (W : World) (p : Int) (qs : List Int), Below w.heap.size w W → impl_Floor_leads.f a0 a1 ways p = some qs → Calls Try.prog 21 #[.agg #[.int .i64 a0, .int .i64 a1, .slice A2 ways.length c2], .int .i64 p] W fun e w' => ∃ v0_ : Value, e = .returned v0_ ∧ Kd.R (Kd.int .i64) 3 w' W.heap.size (fun _ => True) v0_ qs ∧ Below W.heap.size W w') := ⟨fun W p qs hb ht => impl_Floor_leads.calls a0 a1 A2 c2 ways p qs W (Kd.C_below hr2 hb) hc2 ht⟩
  have HK4 : Aside0 (∀ (W : World) (gb gn go : Nat) (o : List Int) (n : Int) (qs : List Int) (A : Option Addr) (c : Nat), o.length = ways.length → W.heap[gb]? = some (.cells #[.slice (some ⟨go, 0, none⟩) ways.length ways.length] 22 (0, 0)) → W.heap[gn]? = some (.cells #[.int .i64 n] 3 (0, 0)) → Rw.Row Rw.I W 3 go o → qs.all (fun q => decide (0 ≤ q) && decide (q < (ways.length : Int))) = true → Kd.C (Kd.int .i64) W A qs.length qs → Calls Try.prog 20 #[.slice A qs.length c, .func (.func 22) #[] #[.pointer (some ⟨gb, 0, none⟩), .pointer (some ⟨gn, 0, none⟩)]] W fun e w' => e = .returned (.bool (qs.any fun q => rd o q == n)) ∧ Below W.heap.size W w') := ⟨fun W gb gn go o n qs A c hl hb hn hR hq hC =>
    slices_ContainsFunc_int_int.callsP 22 #[.pointer (some ⟨gb, 0, none⟩), .pointer (some ⟨gn, 0, none⟩)] (fun q => rd o q == n) A c qs W (enters_of Try.func22 (by kernel_rfl) rfl)
      (fun W2 x hx hb2 => by
        have h1 := List.all_eq_true.1 hq x hx
        rw [Bool.and_eq_true, decide_eq_true_iff, decide_eq_true_iff] at h1
        exact impl_Hops_1.lit x n o gb gn go ways.length ways.length hl W2 (blk_below hb hb2) (blk_below hn hb2) (hR.below hb2) h1.1 h1.2) hC⟩
  clear hr2 hc2
  have HB := Aside0.mk (Below.refl w.heap.size w)
  unfold impl_Hops.f at h
  obtain ⟨t1, ht1, h⟩ := Option.bind_eq_some_iff.mp h
  have HT1 := Aside0.mk ht1
  clear ht1
  cases t1 with
  | false =>
    rw [if_neg (by decide)] at h
    obtain ⟨rfl, rfl⟩ := Prod.mk.inj (Option.some.inj h)
    clear h
    go_enter Try.func7, Try.ntmps7
    go_wp2_with (first | ((with_reducible refine gate_dst (N := 2) rfl ?_); refine box_event ?hg (N := 2) ?hd (cs := #[.int .i64 a0, .int .i64 a1, .slice A2 ways.length c2]) (t := 28) ?hr ?_; (case hd => rfl); (case hg => rfl); (case hr => first | (go_simp; done) | (go_simp; rfl)); intro gs hg w2 hbox hb; have GBKS := Aside0.mk (show w.heap.size ≤ gs by rw [hg]; exact below_size (by repeat (first | (with_reducible first | exact HB.out | apply below_alloc | apply pw_below_drewN | apply below_drew1) | exact HB.out))); have BKS := Aside0.mk hbox; have n0_ := Aside0.mk (below_step (by repeat (first | (with_reducible first | exact HB.out | apply below_alloc | apply pw_below_drewN | apply below_drew1) | exact HB.out)) hb); clear HB ; have HB := n0_; clear n0_; clear hb hbox hg; have hcw2BKS_0 : w2.cell? ⟨gs, 0, none⟩ = some (.int .i64 a0) := (blk_cell BKS.out 0).trans rfl; have hcw2BKS_1 : w2.cell? ⟨gs, 1, none⟩ = some (.int .i64 a1) := (blk_cell BKS.out 1).trans rfl; have hcw2BKS_2 : w2.cell? ⟨gs, 2, none⟩ = some (.slice A2 ways.length c2) := (blk_cell BKS.out 2).trans rfl; have hfw2BKS_0 := blk_frozen BKS.out 0; have hfw2BKS_1 := blk_frozen BKS.out 1; have hfw2BKS_2 := blk_frozen BKS.out 2) | (go_at_call 18; refine (HK1.out _ _ (by repeat (first | (with_reducible first | exact HB.out | apply below_alloc | apply pw_below_drewN | apply below_drew1) | exact HB.out)) HT1.out).mono ?_; rintro e w3 ⟨rfl, hb⟩; have n0_ := Aside0.mk (below_step (by repeat (first | (with_reducible first | exact HB.out | apply below_alloc | apply pw_below_drewN | apply below_drew1) | exact HB.out)) hb); have n1_ := Aside0.mk (blk_below (g := gs) (o := .cells #[.int .i64 a0, .int .i64 a1, .slice A2 ways.length c2] 28 (0, 0)) (by (with_reducible repeat (first | refine blk_drewN ?_ _ | refine blk_drew ?_ | refine blk_alloc ?_ _)); exact BKS.out) hb); clear HB BKS; have HB := n0_; have BKS := n1_; clear n0_ n1_; clear hb; have hcw3BKS_0 : w3.cell? ⟨gs, 0, none⟩ = some (.int .i64 a0) := (blk_cell BKS.out 0).trans rfl; have hcw3BKS_1 : w3.cell? ⟨gs, 1, none⟩ = some (.int .i64 a1) := (blk_cell BKS.out 1).trans rfl; have hcw3BKS_2 : w3.cell? ⟨gs, 2, none⟩ = some (.slice A2 ways.length c2) := (blk_cell BKS.out 2).trans rfl; have hfw3BKS_0 := blk_frozen BKS.out 0; have hfw3BKS_1 := blk_frozen BKS.out 1; have hfw3BKS_2 := blk_frozen BKS.out 2))
    go_ret2
    exact ⟨_, rfl, Kd.R_nil _ _ _ _ _, (by repeat (first | (with_reducible first | exact HB.out | apply below_alloc | apply pw_below_drewN | apply below_drew1) | exact HB.out))⟩
  | true =>
  rw [if_pos rfl] at h
  obtain ⟨t2, ht2, h⟩ := Option.bind_eq_some_iff.mp h
  have HT2 := Aside0.mk ht2
  clear ht2
  cases t2 with
  | false =>
    rw [if_neg (by decide)] at h
    obtain ⟨rfl, rfl⟩ := Prod.mk.inj (Option.some.inj h)
    clear h
    go_enter Try.func7, Try.ntmps7
    go_wp2_with (first | ((with_reducible refine gate_dst (N := 2) rfl ?_); refine box_event ?hg (N := 2) ?hd (cs := #[.int .i64 a0, .int .i64 a1, .slice A2 ways.length c2]) (t := 28) ?hr ?_; (case hd => rfl); (case hg => rfl); (case hr => first | (go_simp; done) | (go_simp; rfl)); intro gs hg w2 hbox hb; have GBKS := Aside0.mk (show w.heap.size ≤ gs by rw [hg]; exact below_size (by repeat (first | (with_reducible first | exact HB.out | apply below_alloc | apply pw_below_drewN | apply below_drew1) | exact HB.out))); have BKS := Aside0.mk hbox; have n0_ := Aside0.mk (below_step (by repeat (first | (with_reducible first | exact HB.out | apply below_alloc | apply pw_below_drewN | apply below_drew1) | exact HB.out)) hb); clear HB ; have HB := n0_; clear n0_; clear hb hbox hg; have hcw2BKS_0 : w2.cell? ⟨gs, 0, none⟩ = some (.int .i64 a0) := (blk_cell BKS.out 0).trans rfl; have hcw2BKS_1 : w2.cell? ⟨gs, 1, none⟩ = some (.int .i64 a1) := (blk_cell BKS.out 1).trans rfl; have hcw2BKS_2 : w2.cell? ⟨gs, 2, none⟩ = some (.slice A2 ways.length c2) := (blk_cell BKS.out 2).trans rfl; have hfw2BKS_0 := blk_frozen BKS.out 0; have hfw2BKS_1 := blk_frozen BKS.out 1; have hfw2BKS_2 := blk_frozen BKS.out 2) | (go_at_call 18; refine (HK1.out _ _ (by repeat (first | (with_reducible first | exact HB.out | apply below_alloc | apply pw_below_drewN | apply below_drew1) | exact HB.out)) HT1.out).mono ?_; rintro e w3 ⟨rfl, hb⟩; have n0_ := Aside0.mk (below_step (by repeat (first | (with_reducible first | exact HB.out | apply below_alloc | apply pw_below_drewN | apply below_drew1) | exact HB.out)) hb); have n1_ := Aside0.mk (blk_below (g := gs) (o := .cells #[.int .i64 a0, .int .i64 a1, .slice A2 ways.length c2] 28 (0, 0)) (by (with_reducible repeat (first | refine blk_drewN ?_ _ | refine blk_drew ?_ | refine blk_alloc ?_ _)); exact BKS.out) hb); clear HB BKS; have HB := n0_; have BKS := n1_; clear n0_ n1_; clear hb; have hcw3BKS_0 : w3.cell? ⟨gs, 0, none⟩ = some (.int .i64 a0) := (blk_cell BKS.out 0).trans rfl; have hcw3BKS_1 : w3.cell? ⟨gs, 1, none⟩ = some (.int .i64 a1) := (blk_cell BKS.out 1).trans rfl; have hcw3BKS_2 : w3.cell? ⟨gs, 2, none⟩ = some (.slice A2 ways.length c2) := (blk_cell BKS.out 2).trans rfl; have hfw3BKS_0 := blk_frozen BKS.out 0; have hfw3BKS_1 := blk_frozen BKS.out 1; have hfw3BKS_2 := blk_frozen BKS.out 2) | (go_at_call 19; refine (HK2.out _ _ (by repeat (first | (with_reducible first | exact HB.out | apply below_alloc | apply pw_below_drewN | apply below_drew1) | exact HB.out)) HT2.out).mono ?_; rintro e w4 ⟨rfl, hb⟩; have n0_ := Aside0.mk (below_step (by repeat (first | (with_reducible first | exact HB.out | apply below_alloc | apply pw_below_drewN | apply below_drew1) | exact HB.out)) hb); have n1_ := Aside0.mk (blk_below (g := gs) (o := .cells #[.int .i64 a0, .int .i64 a1, .slice A2 ways.length c2] 28 (0, 0)) (by (with_reducible repeat (first | refine blk_drewN ?_ _ | refine blk_drew ?_ | refine blk_alloc ?_ _)); exact BKS.out) hb); clear HB BKS; have HB := n0_; have BKS := n1_; clear n0_ n1_; clear hb; have hcw4BKS_0 : w4.cell? ⟨gs, 0, none⟩ = some (.int .i64 a0) := (blk_cell BKS.out 0).trans rfl; have hcw4BKS_1 : w4.cell? ⟨gs, 1, none⟩ = some (.int .i64 a1) := (blk_cell BKS.out 1).trans rfl; have hcw4BKS_2 : w4.cell? ⟨gs, 2, none⟩ = some (.slice A2 ways.length c2) := (blk_cell BKS.out 2).trans rfl; have hfw4BKS_0 := blk_frozen BKS.out 0; have hfw4BKS_1 := blk_frozen BKS.out 1; have hfw4BKS_2 := blk_frozen BKS.out 2))
    go_ret2
    exact ⟨_, rfl, Kd.R_nil _ _ _ _ _, (by repeat (first | (with_reducible first | exact HB.out | apply below_alloc | apply pw_below_drewN | apply below_drew1) | exact HB.out))⟩
  | true =>
  rw [if_pos rfl] at h
  by_cases hn : ways.length ≤ 1000000 ∧ 0 ≤ a ∧ a < (ways.length : Int)
  · rw [if_pos hn] at h
    obtain ⟨ro, hl, h⟩ := Option.bind_eq_some_iff.mp h
    obtain ⟨rfl, rfl⟩ := Prod.mk.inj (Option.some.inj h)
    have HN := Aside0.mk hn
    have HL := Aside0.mk hl
    clear h hn hl
    go_enter Try.func7, Try.ntmps7
    go_wp2_with (first | ((with_reducible refine gate_dst (N := 2) rfl ?_); refine box_event ?hg (N := 2) ?hd (cs := #[.int .i64 a0, .int .i64 a1, .slice A2 ways.length c2]) (t := 28) ?hr ?_; (case hd => rfl); (case hg => rfl); (case hr => first | (go_simp; done) | (go_simp; rfl)); intro gs hg w2 hbox hb; have GBKS := Aside0.mk (show w.heap.size ≤ gs by rw [hg]; exact below_size (by repeat (first | (with_reducible first | exact HB.out | apply below_alloc | apply pw_below_drewN | apply below_drew1) | exact HB.out))); have BKS := Aside0.mk hbox; have n0_ := Aside0.mk (below_step (by repeat (first | (with_reducible first | exact HB.out | apply below_alloc | apply pw_below_drewN | apply below_drew1) | exact HB.out)) hb); clear HB ; have HB := n0_; clear n0_; clear hb hbox hg; have hcw2BKS_0 : w2.cell? ⟨gs, 0, none⟩ = some (.int .i64 a0) := (blk_cell BKS.out 0).trans rfl; have hcw2BKS_1 : w2.cell? ⟨gs, 1, none⟩ = some (.int .i64 a1) := (blk_cell BKS.out 1).trans rfl; have hcw2BKS_2 : w2.cell? ⟨gs, 2, none⟩ = some (.slice A2 ways.length c2) := (blk_cell BKS.out 2).trans rfl; have hfw2BKS_0 := blk_frozen BKS.out 0; have hfw2BKS_1 := blk_frozen BKS.out 1; have hfw2BKS_2 := blk_frozen BKS.out 2) | (go_at_call 18; refine (HK1.out _ _ (by repeat (first | (with_reducible first | exact HB.out | apply below_alloc | apply pw_below_drewN | apply below_drew1) | exact HB.out)) HT1.out).mono ?_; rintro e w3 ⟨rfl, hb⟩; have n0_ := Aside0.mk (below_step (by repeat (first | (with_reducible first | exact HB.out | apply below_alloc | apply pw_below_drewN | apply below_drew1) | exact HB.out)) hb); have n1_ := Aside0.mk (blk_below (g := gs) (o := .cells #[.int .i64 a0, .int .i64 a1, .slice A2 ways.length c2] 28 (0, 0)) (by (with_reducible repeat (first | refine blk_drewN ?_ _ | refine blk_drew ?_ | refine blk_alloc ?_ _)); exact BKS.out) hb); clear HB BKS; have HB := n0_; have BKS := n1_; clear n0_ n1_; clear hb; have hcw3BKS_0 : w3.cell? ⟨gs, 0, none⟩ = some (.int .i64 a0) := (blk_cell BKS.out 0).trans rfl; have hcw3BKS_1 : w3.cell? ⟨gs, 1, none⟩ = some (.int .i64 a1) := (blk_cell BKS.out 1).trans rfl; have hcw3BKS_2 : w3.cell? ⟨gs, 2, none⟩ = some (.slice A2 ways.length c2) := (blk_cell BKS.out 2).trans rfl; have hfw3BKS_0 := blk_frozen BKS.out 0; have hfw3BKS_1 := blk_frozen BKS.out 1; have hfw3BKS_2 := blk_frozen BKS.out 2) | (go_at_call 19; refine (HK2.out _ _ (by repeat (first | (with_reducible first | exact HB.out | apply below_alloc | apply pw_below_drewN | apply below_drew1) | exact HB.out)) HT2.out).mono ?_; rintro e w4 ⟨rfl, hb⟩; have n0_ := Aside0.mk (below_step (by repeat (first | (with_reducible first | exact HB.out | apply below_alloc | apply pw_below_drewN | apply below_drew1) | exact HB.out)) hb); have n1_ := Aside0.mk (blk_below (g := gs) (o := .cells #[.int .i64 a0, .int .i64 a1, .slice A2 ways.length c2] 28 (0, 0)) (by (with_reducible repeat (first | refine blk_drewN ?_ _ | refine blk_drew ?_ | refine blk_alloc ?_ _)); exact BKS.out) hb); clear HB BKS; have HB := n0_; have BKS := n1_; clear n0_ n1_; clear hb; have hcw4BKS_0 : w4.cell? ⟨gs, 0, none⟩ = some (.int .i64 a0) := (blk_cell BKS.out 0).trans rfl; have hcw4BKS_1 : w4.cell? ⟨gs, 1, none⟩ = some (.int .i64 a1) := (blk_cell BKS.out 1).trans rfl; have hcw4BKS_2 : w4.cell? ⟨gs, 2, none⟩ = some (.slice A2 ways.length c2) := (blk_cell BKS.out 2).trans rfl; have hfw4BKS_0 := blk_frozen BKS.out 0; have hfw4BKS_1 := blk_frozen BKS.out 1; have hfw4BKS_2 := blk_frozen BKS.out 2) | ((with_reducible refine gate_dst (N := 23) rfl ?_); refine Rw.make Rw.I 0 rfl (N := 23) rfl rfl ways.length rfl rfl Try.underlying22 8 info3 rfl (by have := HN.out; omega) (by have := HN.out; omega) ?_; intro go hgo w5 hrow hb; have GO := Aside0.mk (show w.heap.size ≤ go by rw [hgo]; exact below_size (by repeat (first | (with_reducible first | exact HB.out | apply below_alloc | apply pw_below_drewN | apply below_drew1) | exact HB.out))); have HNE := Aside0.mk (show gs ≠ go by rw [hgo]; exact Nat.ne_of_lt (blk_lt (by (with_reducible repeat (first | refine blk_drewN ?_ _ | refine blk_drew ?_ | refine blk_alloc ?_ _)); exact BKS.out))); have n0_ := Aside0.mk (below_step (by repeat (first | (with_reducible first | exact HB.out | apply below_alloc | apply pw_below_drewN | apply below_drew1) | exact HB.out)) hb); have n1_ := Aside0.mk (blk_below (g := gs) (o := .cells #[.int .i64 a0, .int .i64 a1, .slice A2 ways.length c2] 28 (0, 0)) (by (with_reducible repeat (first | refine blk_drewN ?_ _ | refine blk_drew ?_ | refine blk_alloc ?_ _)); exact BKS.out) hb); clear HB BKS; have HB := n0_; have BKS := n1_; clear n0_ n1_; have RW := Aside0.mk hrow; clear hrow hgo hb; have hcw5BKS_0 : w5.cell? ⟨gs, 0, none⟩ = some (.int .i64 a0) := (blk_cell BKS.out 0).trans rfl; have hcw5BKS_1 : w5.cell? ⟨gs, 1, none⟩ = some (.int .i64 a1) := (blk_cell BKS.out 1).trans rfl; have hcw5BKS_2 : w5.cell? ⟨gs, 2, none⟩ = some (.slice A2 ways.length c2) := (blk_cell BKS.out 2).trans rfl; have hfw5BKS_0 := blk_frozen BKS.out 0; have hfw5BKS_1 := blk_frozen BKS.out 1; have hfw5BKS_2 := blk_frozen BKS.out 2) | ((with_reducible refine gate_dst (N := 6) rfl ?_); refine box_event ?hg (N := 6) ?hd (cs := #[.slice none 0 0]) (t := 22) ?hr ?_; (case hd => rfl); (case hg => rfl); (case hr => first | (go_simp; done) | (go_simp; rfl)); intro gb hg w6 hbox hb; have GBKO := Aside0.mk (show w.heap.size ≤ gb by rw [hg]; exact below_size (by repeat (first | (with_reducible first | exact HB.out | apply below_alloc | apply pw_below_drewN | apply below_drew1) | exact HB.out))); have BKO := Aside0.mk hbox; have tR_ := Aside0.mk (RW.out.below hb); clear RW; have RW := tR_; clear tR_; have n0_ := Aside0.mk (below_step (by repeat (first | (with_reducible first | exact HB.out | apply below_alloc | apply pw_below_drewN | apply below_drew1) | exact HB.out)) hb); have n1_ := Aside0.mk (blk_below (g := gs) (o := .cells #[.int .i64 a0, .int .i64 a1, .slice A2 ways.length c2] 28 (0, 0)) (by (with_reducible repeat (first | refine blk_drewN ?_ _ | refine blk_drew ?_ | refine blk_alloc ?_ _)); exact BKS.out) hb); clear HB BKS; have HB := n0_; have BKS := n1_; clear n0_ n1_; clear hb hbox hg; have hcw6BKS_0 : w6.cell? ⟨gs, 0, none⟩ = some (.int .i64 a0) := (blk_cell BKS.out 0).trans rfl; have hcw6BKS_1 : w6.cell? ⟨gs, 1, none⟩ = some (.int .i64 a1) := (blk_cell BKS.out 1).trans rfl; have hcw6BKS_2 : w6.cell? ⟨gs, 2, none⟩ = some (.slice A2 ways.length c2) := (blk_cell BKS.out 2).trans rfl; have hcw6BKO_0 : w6.cell? ⟨gb, 0, none⟩ = some (.slice none 0 0) := (blk_cell BKO.out 0).trans rfl; have hfw6BKS_0 := blk_frozen BKS.out 0; have hfw6BKS_1 := blk_frozen BKS.out 1; have hfw6BKS_2 := blk_frozen BKS.out 2; have hfw6BKO_0 := blk_frozen BKO.out 0) | ((with_reducible refine gate_store (t := 22) (p := 6) rfl ?_); refine store_event (t := 22) (p := 6) (v := ?vo_w7) (w1 := (w6.setCell ⟨gb, 0, none⟩ (.slice (some ⟨go, 0, none⟩) ways.length ways.length))) ?hg ?ho ?hn ?hr ?_; (case ho => rfl); (case hg => rfl); (case hn => rfl); (case hr => first | (go_simp; done) | (go_simp; rfl)); intro w7 hw; have tR_ := RW.out.far (p := ⟨gb, 0, none⟩) (RW.out.ne BKO.out (by decide)) (.slice (some ⟨go, 0, none⟩) ways.length ways.length); rw [← hw] at tR_; have tR2_ := Aside0.mk tR_; clear RW tR_; have RW := tR2_; clear tR2_; have n0_ : Aside0 (w7.heap[gb]? = some (.cells #[.slice (some ⟨go, 0, none⟩) ways.length ways.length] 22 (0, 0))) := Aside0.mk (by rw [hw]; exact (blk_put (cs := #[.slice none 0 0]) (cs' := #[.slice (some ⟨go, 0, none⟩) ways.length ways.length]) BKO.out 0 (.slice (some ⟨go, 0, none⟩) ways.length ways.length) rfl)); have n1_ : Aside0 (Below w.heap.size w w7) := Aside0.mk (by rw [hw]; exact (below_set HB.out GBKO.out)); have n2_ : Aside0 (w7.heap[gs]? = some (.cells #[.int .i64 a0, .int .i64 a1, .slice A2 ways.length c2] 28 (0, 0))) := Aside0.mk (by rw [hw]; exact (blk_far BKS.out (p := ⟨gb, 0, none⟩) (blk_ne BKS.out BKO.out (by decide)) (.slice (some ⟨go, 0, none⟩) ways.length ways.length))); clear HB BKO BKS hw; have BKO := n0_; have HB := n1_; have BKS := n2_; clear n0_ n1_ n2_; have hcw7BKS_0 : w7.cell? ⟨gs, 0, none⟩ = some (.int .i64 a0) := (blk_cell BKS.out 0).trans rfl; have hcw7BKS_1 : w7.cell? ⟨gs, 1, none⟩ = some (.int .i64 a1) := (blk_cell BKS.out 1).trans rfl; have hcw7BKS_2 : w7.cell? ⟨gs, 2, none⟩ = some (.slice A2 ways.length c2) := (blk_cell BKS.out 2).trans rfl; have hcw7BKO_0 : w7.cell? ⟨gb, 0, none⟩ = some (.slice (some ⟨go, 0, none⟩) ways.length ways.length) := (blk_cell BKO.out 0).trans rfl; have hfw7BKS_0 := blk_frozen BKS.out 0; have hfw7BKS_1 := blk_frozen BKS.out 1; have hfw7BKS_2 := blk_frozen BKS.out 2; have hfw7BKO_0 := blk_frozen BKO.out 0; have HNO := Aside0.mk (show gb ≠ go from fun e => (RW.out.ne BKO.out (by decide)) e.symm)))
    go_loopg [26] ways.length (fun gg v26 wr => ∃ i : Int, v26 = .int .i64 i ∧ Aside0 (0 ≤ i ∧ i ≤ ways.length ∧ ways.length - i.toNat ≤ gg) ∧ Aside0 (Rw.Row Rw.I wr 3 go (List.replicate i.toNat (-1) ++ List.replicate (ways.length - i.toNat) 0)) ∧ Aside0 (wr.heap[gs]? = some (.cells #[.int .i64 a0, .int .i64 a1, .slice A2 ways.length c2] 28 (0, 0))) ∧ Aside0 (wr.heap[gb]? = some (.cells #[.slice (some ⟨go, 0, none⟩) ways.length ways.length] 22 (0, 0))) ∧ Aside0 (Below w.heap.size w wr))
    case atStart => exact ⟨0, rfl, ⟨by omega⟩, ⟨by simpa using RW.out⟩, BKS, BKO, HB⟩
    case round =>
      clear HB BKS BKO RW
      obtain ⟨i, rfl, HI, RW, BKS, BKO, HB⟩ := hrel
      have hcrBKS_0 : wr.cell? ⟨gs, 0, none⟩ = some (.int .i64 a0) := (blk_cell BKS.out 0).trans rfl; have hcrBKS_1 : wr.cell? ⟨gs, 1, none⟩ = some (.int .i64 a1) := (blk_cell BKS.out 1).trans rfl; have hcrBKS_2 : wr.cell? ⟨gs, 2, none⟩ = some (.slice A2 ways.length c2) := (blk_cell BKS.out 2).trans rfl; have hcrBKO_0 : wr.cell? ⟨gb, 0, none⟩ = some (.slice (some ⟨go, 0, none⟩) ways.length ways.length) := (blk_cell BKO.out 0).trans rfl; have hfrBKS_0 := blk_frozen BKS.out 0; have hfrBKS_1 := blk_frozen BKS.out 1; have hfrBKS_2 := blk_frozen BKS.out 2; have hfrBKO_0 := blk_frozen BKO.out 0
      by_cases hlt : i < (ways.length : Int)
      · have h0 : 0 ≤ i := HI.out.1
        have HLT := Aside0.mk (show i.toNat < ways.length ∧ (i + 1).toNat = i.toNat + 1 by omega)
        have hw1 : wrap64 (i + 1) = i + 1 := by unfold wrap64; have := HN.out; omega
        have HW := Aside0.mk hw1
        clear hw1
        have hcx := RW.out.rd i h0 (by simp; omega)
        have hfx := RW.out.frozen i.toNat
        have d0 : decide (i < (ways.length : Int)) = true := decide_eq_true hlt
        have d1 : decide (0 ≤ i) = true := decide_eq_true h0
        replace h0 := eq_true h0
        replace hlt := eq_true hlt
        go_wp2
        go_roundg (ways.length - (i + 1).toNat)
        case measure => have := HI.out; have := HLT.out; omega
        case rel =>
          refine ⟨i + 1, (by first | rfl | (rw [HW.out]) | (simp [HW.out])), ⟨by have := HI.out; have := HLT.out; omega⟩, ⟨?_⟩, ⟨blk_far BKS.out (p := ⟨go, i.toNat, none⟩) HNE.out _⟩, ⟨blk_far BKO.out (p := ⟨go, i.toNat, none⟩) HNO.out _⟩, ⟨below_set HB.out GO.out⟩⟩
          rw [HLT.out.2, ← impl_Hops.fill i.toNat ways.length HLT.out.1]
          exact RW.out.set i.toNat (-1)
      · have hii : i.toNat = ways.length := by have := HI.out; omega
        have d0 : decide (i < (ways.length : Int)) = false := decide_eq_false hlt
        have RW2 : Aside0 (Rw.Row Rw.I wr 3 go (List.replicate ways.length (-1))) := Aside0.mk (by have h1 := RW.out; rw [hii, Nat.sub_self] at h1; simpa using h1)
        clear hii hlt RW
        have ha0 := HN.out.2.1
        have ha1 := HN.out.2.2
        have d1 : decide (0 ≤ a) = true := decide_eq_true ha0
        have d2 : decide (a < (ways.length : Int)) = true := decide_eq_true ha1
        have hcx := RW2.out.rd a ha0 (by simpa using ha1)
        have hfx := RW2.out.frozen a.toNat
        replace ha0 := eq_true ha0
        replace ha1 := eq_true ha1
        have RW := Aside0.mk (RW2.out.set a.toNat 0)
        clear RW2
        go_upto_region 10 with (fail)
        have BKS2 := Aside0.mk (blk_far BKS.out (p := ⟨go, a.toNat, none⟩) HNE.out (.int .i64 0))
        have BKO2 := Aside0.mk (blk_far BKO.out (p := ⟨go, a.toNat, none⟩) HNO.out (.int .i64 0))
        have HB2 : Aside0 (Below w.heap.size w (wr.setCell ⟨go, a.toNat, none⟩ (.int .i64 0))) := Aside0.mk (below_set HB.out GO.out)
        clear BKS BKO HB hcx hfx
        rename Aside0 (Below w.heap.size w (wr.setCell ⟨go, a.toNat, none⟩ (.int .i64 0))) => HB
        have BKS := BKS2
        have BKO := BKO2
        clear BKS2 BKO2
        have HLO : Aside0 (((List.replicate ways.length (-1)).set a.toNat 0).length = ways.length) := ⟨by simp⟩
        have HV : Aside0 (impl_Hops.loop a0 a1 ways k 0 ((List.replicate ways.length (-1)).set a.toNat 0) = some ro) := HL
        clear HL
        generalize (List.replicate ways.length (-1 : Int)).set a.toNat 0 = o0 at RW HLO HV
        generalize wr.setCell ⟨go, a.toNat, none⟩ (.int .i64 0) = wq at RW BKS BKO HB ⊢
        go_wp2_with (first | ((with_reducible refine gate_dst (N := 8) rfl ?_); refine box_event ?hg (N := 8) ?hd (cs := #[.int .i64 0]) (t := 3) ?hr ?_; (case hd => rfl); (case hg => rfl); (case hr => first | (go_simp; done) | (go_simp; rfl)); intro gn hg w8 hbox hb; have HGN := Aside0.mk (show go ≠ gn by rw [hg]; exact Nat.ne_of_lt RW.out.lt); have GBKN := Aside0.mk (show w.heap.size ≤ gn by rw [hg]; exact below_size (by repeat (first | (with_reducible first | exact HB.out | apply below_alloc | apply pw_below_drewN | apply below_drew1) | exact HB.out))); have BKN := Aside0.mk hbox; have tR_ := Aside0.mk (RW.out.below hb); clear RW; have RW := tR_; clear tR_; have n0_ := Aside0.mk (below_step (by repeat (first | (with_reducible first | exact HB.out | apply below_alloc | apply pw_below_drewN | apply below_drew1) | exact HB.out)) hb); have n1_ := Aside0.mk (blk_below (g := gs) (o := .cells #[.int .i64 a0, .int .i64 a1, .slice A2 ways.length c2] 28 (0, 0)) (by (with_reducible repeat (first | refine blk_drewN ?_ _ | refine blk_drew ?_ | refine blk_alloc ?_ _)); exact BKS.out) hb); have n2_ := Aside0.mk (blk_below (g := gb) (o := .cells #[.slice (some ⟨go, 0, none⟩) ways.length ways.length] 22 (0, 0)) (by (with_reducible repeat (first | refine blk_drewN ?_ _ | refine blk_drew ?_ | refine blk_alloc ?_ _)); exact BKO.out) hb); clear HB BKS BKO; have HB := n0_; have BKS := n1_; have BKO := n2_; clear n0_ n1_ n2_; clear hb hbox hg; have hcw8BKS_0 : w8.cell? ⟨gs, 0, none⟩ = some (.int .i64 a0) := (blk_cell BKS.out 0).trans rfl; have hcw8BKS_1 : w8.cell? ⟨gs, 1, none⟩ = some (.int .i64 a1) := (blk_cell BKS.out 1).trans rfl; have hcw8BKS_2 : w8.cell? ⟨gs, 2, none⟩ = some (.slice A2 ways.length c2) := (blk_cell BKS.out 2).trans rfl; have hcw8BKO_0 : w8.cell? ⟨gb, 0, none⟩ = some (.slice (some ⟨go, 0, none⟩) ways.length ways.length) := (blk_cell BKO.out 0).trans rfl; have hcw8BKN_0 : w8.cell? ⟨gn, 0, none⟩ = some (.int .i64 0) := (blk_cell BKN.out 0).trans rfl; have hfw8BKS_0 := blk_frozen BKS.out 0; have hfw8BKS_1 := blk_frozen BKS.out 1; have hfw8BKS_2 := blk_frozen BKS.out 2; have hfw8BKO_0 := blk_frozen BKO.out 0; have hfw8BKN_0 := blk_frozen BKN.out 0) | ((with_reducible refine gate_store (t := 3) (p := 8) rfl ?_); refine store_event (t := 3) (p := 8) (v := ?vo_w9) (w1 := (w8.setCell ⟨gn, 0, none⟩ (.int .i64 0))) ?hg ?ho ?hn ?hr ?_; (case ho => rfl); (case hg => rfl); (case hn => rfl); (case hr => first | (go_simp; done) | (go_simp; rfl)); intro w9 hw; have tR_ := RW.out.far (p := ⟨gn, 0, none⟩) HGN.out (.int .i64 0); rw [← hw] at tR_; have tR2_ := Aside0.mk tR_; clear RW tR_; have RW := tR2_; clear tR2_; have n0_ : Aside0 (w9.heap[gn]? = some (.cells #[.int .i64 0] 3 (0, 0))) := Aside0.mk (by rw [hw]; exact (blk_put (cs := #[.int .i64 0]) (cs' := #[.int .i64 0]) BKN.out 0 (.int .i64 0) rfl)); have n1_ : Aside0 (Below w.heap.size w w9) := Aside0.mk (by rw [hw]; exact (below_set HB.out GBKN.out)); have n2_ : Aside0 (w9.heap[gs]? = some (.cells #[.int .i64 a0, .int .i64 a1, .slice A2 ways.length c2] 28 (0, 0))) := Aside0.mk (by rw [hw]; exact (blk_far BKS.out (p := ⟨gn, 0, none⟩) (blk_ne BKS.out BKN.out (by decide)) (.int .i64 0))); have n3_ : Aside0 (w9.heap[gb]? = some (.cells #[.slice (some ⟨go, 0, none⟩) ways.length ways.length] 22 (0, 0))) := Aside0.mk (by rw [hw]; exact (blk_far BKO.out (p := ⟨gn, 0, none⟩) (blk_ne BKO.out BKN.out (by decide)) (.int .i64 0))); clear HB BKN BKS BKO hw; have BKN := n0_; have HB := n1_; have BKS := n2_; have BKO := n3_; clear n0_ n1_ n2_ n3_; have hcw9BKS_0 : w9.cell? ⟨gs, 0, none⟩ = some (.int .i64 a0) := (blk_cell BKS.out 0).trans rfl; have hcw9BKS_1 : w9.cell? ⟨gs, 1, none⟩ = some (.int .i64 a1) := (blk_cell BKS.out 1).trans rfl; have hcw9BKS_2 : w9.cell? ⟨gs, 2, none⟩ = some (.slice A2 ways.length c2) := (blk_cell BKS.out 2).trans rfl; have hcw9BKO_0 : w9.cell? ⟨gb, 0, none⟩ = some (.slice (some ⟨go, 0, none⟩) ways.length ways.length) := (blk_cell BKO.out 0).trans rfl; have hcw9BKN_0 : w9.cell? ⟨gn, 0, none⟩ = some (.int .i64 0) := (blk_cell BKN.out 0).trans rfl; have hfw9BKS_0 := blk_frozen BKS.out 0; have hfw9BKS_1 := blk_frozen BKS.out 1; have hfw9BKS_2 := blk_frozen BKS.out 2; have hfw9BKO_0 := blk_frozen BKO.out 0; have hfw9BKN_0 := blk_frozen BKN.out 0))
        go_loopg [8, 9] k (fun gg v8 v9 wr => ∃ (gn : Nat) (ag : Bool) (n : Int) (o : List Int) (m : Nat), v8 = .pointer (some ⟨gn, 0, none⟩) ∧ v9 = .bool ag ∧ Aside0 (m ≤ gg) ∧ Aside0 (ag = true → impl_Hops.loop a0 a1 ways m n o = some ro) ∧ Aside0 (ag = false → o = ro) ∧ Aside0 (o.length = ways.length) ∧ Aside0 (go ≠ gn ∧ w.heap.size ≤ gn) ∧ Aside0 (Rw.Row Rw.I wr 3 go o) ∧ Aside0 (wr.heap[gn]? = some (.cells #[.int .i64 n] 3 (0, 0))) ∧ Aside0 (wr.heap[gs]? = some (.cells #[.int .i64 a0, .int .i64 a1, .slice A2 ways.length c2] 28 (0, 0))) ∧ Aside0 (wr.heap[gb]? = some (.cells #[.slice (some ⟨go, 0, none⟩) ways.length ways.length] 22 (0, 0))) ∧ Aside0 (Below w.heap.size w wr))
        case atStart => exact ⟨gn, true, 0, o0, k, rfl, rfl, ⟨Nat.le_refl _⟩, ⟨fun _ => HV.out⟩, ⟨fun h => by cases h⟩, HLO, ⟨HGN.out, GBKN.out⟩, RW, BKN, BKS, BKO, HB⟩
        case round =>
          clear HB BKS BKO RW BKN HV HLO HGN GBKN
          obtain ⟨gn, ag, n, o, m, rfl, rfl, HM, HV, HOR, HLO, HGN, RW, BKN, BKS, BKO, HB⟩ := hrel
          have hcsBKS_0 : wr.cell? ⟨gs, 0, none⟩ = some (.int .i64 a0) := (blk_cell BKS.out 0).trans rfl; have hcsBKS_1 : wr.cell? ⟨gs, 1, none⟩ = some (.int .i64 a1) := (blk_cell BKS.out 1).trans rfl; have hcsBKS_2 : wr.cell? ⟨gs, 2, none⟩ = some (.slice A2 ways.length c2) := (blk_cell BKS.out 2).trans rfl; have hcsBKO_0 : wr.cell? ⟨gb, 0, none⟩ = some (.slice (some ⟨go, 0, none⟩) ways.length ways.length) := (blk_cell BKO.out 0).trans rfl; have hcsBKN_0 : wr.cell? ⟨gn, 0, none⟩ = some (.int .i64 n) := (blk_cell BKN.out 0).trans rfl; have hfsBKS_0 := blk_frozen BKS.out 0; have hfsBKS_1 := blk_frozen BKS.out 1; have hfsBKS_2 := blk_frozen BKS.out 2; have hfsBKO_0 := blk_frozen BKO.out 0; have hfsBKN_0 := blk_frozen BKN.out 0
          cases ag with
          | false =>
            have ho := HOR.out rfl
            subst ho
            go_wp2
            go_ret2
            exact ⟨_, rfl, by have h1 := RW.out.R (base := w.heap.size) (ok := fun _ => True) GO.out (by unfold maxLen; have := HN.out; have := HLO.out; omega) trivial; rw [HLO.out] at h1; exact h1, (by repeat (first | (with_reducible first | exact HB.out | apply below_alloc | apply pw_below_drewN | apply below_drew1) | exact HB.out))⟩
          | true =>
            have hl := HV.out rfl
            clear HV HOR
            cases m with
            | zero => simp [impl_Hops.loop] at hl
            | succ m =>
            unfold impl_Hops.loop at hl
            obtain ⟨s1, hrow, hl⟩ := Option.bind_eq_some_iff.mp hl
            have HS1 := Aside0.mk hl
            have HROW := Aside0.mk hrow
            clear hl hrow
            go_wp2
            go_loopg [9, 41] ways.length (fun gg v9 v41 wr => ∃ (ag : Bool) (p : Int) (o : List Int), v9 = .bool ag ∧ v41 = .int .i64 p ∧ Aside0 (0 ≤ p ∧ p ≤ ways.length ∧ ways.length - p.toNat ≤ gg) ∧ Aside0 (impl_Hops.row a0 a1 ways n (ways.length - p.toNat) p (o, ag) = some s1) ∧ Aside0 (o.length = ways.length) ∧ Aside0 (Rw.Row Rw.I wr 3 go o) ∧ Aside0 (wr.heap[gn]? = some (.cells #[.int .i64 n] 3 (0, 0))) ∧ Aside0 (wr.heap[gs]? = some (.cells #[.int .i64 a0, .int .i64 a1, .slice A2 ways.length c2] 28 (0, 0))) ∧ Aside0 (wr.heap[gb]? = some (.cells #[.slice (some ⟨go, 0, none⟩) ways.length ways.length] 22 (0, 0))) ∧ Aside0 (Below w.heap.size w wr))
            case atStart => exact ⟨false, 0, o, rfl, rfl, ⟨by omega⟩, HROW, HLO, RW, BKN, BKS, BKO, HB⟩
            case round =>
              clear HB BKS BKO RW BKN HROW HLO
              obtain ⟨ag, p, o, rfl, rfl, HP, HROW, HLO, RW, BKN, BKS, BKO, HB⟩ := hrel
              have hctBKS_0 : wr.cell? ⟨gs, 0, none⟩ = some (.int .i64 a0) := (blk_cell BKS.out 0).trans rfl; have hctBKS_1 : wr.cell? ⟨gs, 1, none⟩ = some (.int .i64 a1) := (blk_cell BKS.out 1).trans rfl; have hctBKS_2 : wr.cell? ⟨gs, 2, none⟩ = some (.slice A2 ways.length c2) := (blk_cell BKS.out 2).trans rfl; have hctBKO_0 : wr.cell? ⟨gb, 0, none⟩ = some (.slice (some ⟨go, 0, none⟩) ways.length ways.length) := (blk_cell BKO.out 0).trans rfl; have hctBKN_0 : wr.cell? ⟨gn, 0, none⟩ = some (.int .i64 n) := (blk_cell BKN.out 0).trans rfl; have hftBKS_0 := blk_frozen BKS.out 0; have hftBKS_1 := blk_frozen BKS.out 1; have hftBKS_2 := blk_frozen BKS.out 2; have hftBKO_0 := blk_frozen BKO.out 0; have hftBKN_0 := blk_frozen BKN.out 0
              by_cases hlt : p < (ways.length : Int)
              · have h0 : 0 ≤ p := HP.out.1
                have HLT := Aside0.mk (show p.toNat < ways.length ∧ (p + 1).toNat = p.toNat + 1 ∧ ways.length - p.toNat = (ways.length - (p + 1).toNat) + 1 by omega)
                have HPB := Aside0.mk (And.intro h0 hlt)
                have hw1 : wrap64 (p + 1) = p + 1 := by unfold wrap64; have := HN.out; omega
                have HW := Aside0.mk hw1
                clear hw1
                have hcx := RW.out.rd p h0 (by rw [HLO.out]; exact hlt)
                have d0 : decide (p < (ways.length : Int)) = true := decide_eq_true hlt
                have d1 : decide (0 ≤ p) = true := decide_eq_true h0
                replace h0 := eq_true h0
                replace hlt := eq_true hlt
                have hr := HROW.out
                rw [HLT.out.2.2] at hr
                unfold impl_Hops.row at hr
                by_cases hd : rd o p < 0
                · rw [if_pos hd] at hr
                  obtain ⟨qs, hqs, hr⟩ := Option.bind_eq_some_iff.mp hr
                  by_cases hall : qs.all (fun q => decide (0 ≤ q) && decide (q < (ways.length : Int))) = true
                  · rw [if_pos hall] at hr
                    have HQ := Aside0.mk hqs
                    have HAL := Aside0.mk hall
                    have d2 : decide (rd o p < 0) = true := decide_eq_true hd
                    clear hd hqs hall
                    generalize hdd : rd o p = dd at hcx d2
                    clear hdd
                    cases hany : qs.any (fun q => rd o q == n) with
                    | true =>
                      rw [if_pos hany] at hr
                      have HR := Aside0.mk hr
                      have HA := Aside0.mk hany
                      clear hr hany HROW
                      go_wp2_with (first | (go_at_call 21; refine (HK3.out _ p qs (by repeat (first | (with_reducible first | exact HB.out | apply below_alloc | apply pw_below_drewN | apply below_drew1) | exact HB.out)) HQ.out).mono ?_; rintro e w12 ⟨v12, rfl, hr12, hb⟩; obtain ⟨A12, c12, rfl⟩ := Kd.R_slice hr12; have HC12 := Aside0.mk (Kd.R_reads' hr12).2.2; clear hr12; have tR_ := Aside0.mk (RW.out.below hb); clear RW; have RW := tR_; clear tR_; have n0_ := Aside0.mk (below_step (by repeat (first | (with_reducible first | exact HB.out | apply below_alloc | apply pw_below_drewN | apply below_drew1) | exact HB.out)) hb); have n1_ := Aside0.mk (blk_below (g := gs) (o := .cells #[.int .i64 a0, .int .i64 a1, .slice A2 ways.length c2] 28 (0, 0)) (by (with_reducible repeat (first | refine blk_drewN ?_ _ | refine blk_drew ?_ | refine blk_alloc ?_ _)); exact BKS.out) hb); have n2_ := Aside0.mk (blk_below (g := gb) (o := .cells #[.slice (some ⟨go, 0, none⟩) ways.length ways.length] 22 (0, 0)) (by (with_reducible repeat (first | refine blk_drewN ?_ _ | refine blk_drew ?_ | refine blk_alloc ?_ _)); exact BKO.out) hb); have n3_ := Aside0.mk (blk_below (g := gn) (o := .cells #[.int .i64 n] 3 (0, 0)) (by (with_reducible repeat (first | refine blk_drewN ?_ _ | refine blk_drew ?_ | refine blk_alloc ?_ _)); exact BKN.out) hb); clear HB BKS BKO BKN; have HB := n0_; have BKS := n1_; have BKO := n2_; have BKN := n3_; clear n0_ n1_ n2_ n3_; clear hb; have hckBKS_0 : w12.cell? ⟨gs, 0, none⟩ = some (.int .i64 a0) := (blk_cell BKS.out 0).trans rfl; have hckBKS_1 : w12.cell? ⟨gs, 1, none⟩ = some (.int .i64 a1) := (blk_cell BKS.out 1).trans rfl; have hckBKS_2 : w12.cell? ⟨gs, 2, none⟩ = some (.slice A2 ways.length c2) := (blk_cell BKS.out 2).trans rfl; have hckBKO_0 : w12.cell? ⟨gb, 0, none⟩ = some (.slice (some ⟨go, 0, none⟩) ways.length ways.length) := (blk_cell BKO.out 0).trans rfl; have hckBKN_0 : w12.cell? ⟨gn, 0, none⟩ = some (.int .i64 n) := (blk_cell BKN.out 0).trans rfl; have hfkBKS_0 := blk_frozen BKS.out 0; have hfkBKS_1 := blk_frozen BKS.out 1; have hfkBKS_2 := blk_frozen BKS.out 2; have hfkBKO_0 := blk_frozen BKO.out 0; have hfkBKN_0 := blk_frozen BKN.out 0) | (go_at_call 20; refine (HK4.out _ gb gn go o n qs A12 c12 HLO.out (by (with_reducible repeat (first | refine blk_drewN ?_ _ | refine blk_drew ?_ | refine blk_alloc ?_ _)); exact BKO.out) (by (with_reducible repeat (first | refine blk_drewN ?_ _ | refine blk_drew ?_ | refine blk_alloc ?_ _)); exact BKN.out) RW.out HAL.out HC12.out).mono ?_; rw [HA.out]; rintro e w13 ⟨rfl, hb⟩; have tR_ := Aside0.mk (RW.out.below hb); clear RW; have RW := tR_; clear tR_; have n0_ := Aside0.mk (below_step (by repeat (first | (with_reducible first | exact HB.out | apply below_alloc | apply pw_below_drewN | apply below_drew1) | exact HB.out)) hb); have n1_ := Aside0.mk (blk_below (g := gs) (o := .cells #[.int .i64 a0, .int .i64 a1, .slice A2 ways.length c2] 28 (0, 0)) (by (with_reducible repeat (first | refine blk_drewN ?_ _ | refine blk_drew ?_ | refine blk_alloc ?_ _)); exact BKS.out) hb); have n2_ := Aside0.mk (blk_below (g := gb) (o := .cells #[.slice (some ⟨go, 0, none⟩) ways.length ways.length] 22 (0, 0)) (by (with_reducible repeat (first | refine blk_drewN ?_ _ | refine blk_drew ?_ | refine blk_alloc ?_ _)); exact BKO.out) hb); have n3_ := Aside0.mk (blk_below (g := gn) (o := .cells #[.int .i64 n] 3 (0, 0)) (by (with_reducible repeat (first | refine blk_drewN ?_ _ | refine blk_drew ?_ | refine blk_alloc ?_ _)); exact BKN.out) hb); clear HB BKS BKO BKN; have HB := n0_; have BKS := n1_; have BKO := n2_; have BKN := n3_; clear n0_ n1_ n2_ n3_; clear hb HC12; have hclBKS_0 : w13.cell? ⟨gs, 0, none⟩ = some (.int .i64 a0) := (blk_cell BKS.out 0).trans rfl; have hclBKS_1 : w13.cell? ⟨gs, 1, none⟩ = some (.int .i64 a1) := (blk_cell BKS.out 1).trans rfl; have hclBKS_2 : w13.cell? ⟨gs, 2, none⟩ = some (.slice A2 ways.length c2) := (blk_cell BKS.out 2).trans rfl; have hclBKO_0 : w13.cell? ⟨gb, 0, none⟩ = some (.slice (some ⟨go, 0, none⟩) ways.length ways.length) := (blk_cell BKO.out 0).trans rfl; have hclBKN_0 : w13.cell? ⟨gn, 0, none⟩ = some (.int .i64 n) := (blk_cell BKN.out 0).trans rfl; have hflBKS_0 := blk_frozen BKS.out 0; have hflBKS_1 := blk_frozen BKS.out 1; have hflBKS_2 := blk_frozen BKS.out 2; have hflBKO_0 := blk_frozen BKO.out 0; have hflBKN_0 := blk_frozen BKN.out 0; have hcx2 := RW.out.rd p HPB.out.1 (by rw [HLO.out]; exact HPB.out.2); have hfx2 := RW.out.frozen p.toNat))
                      go_roundg (ways.length - (p + 1).toNat)
                      case measure => have := HP.out; have := HLT.out; omega
                      case rel => exact ⟨true, p + 1, o.set p.toNat (wrap64 (n + 1)), rfl, (by first | rfl | (rw [HW.out]) | (simp [HW.out])), ⟨by have := HP.out; have := HLT.out; omega⟩, HR, ⟨by rw [List.length_set]; exact HLO.out⟩, ⟨RW.out.set p.toNat (wrap64 (n + 1))⟩, ⟨blk_far BKN.out (p := ⟨go, p.toNat, none⟩) HGN.out.1.symm _⟩, ⟨blk_far BKS.out (p := ⟨go, p.toNat, none⟩) HNE.out _⟩, ⟨blk_far BKO.out (p := ⟨go, p.toNat, none⟩) HNO.out _⟩, ⟨below_set HB.out GO.out⟩⟩
                    | false =>
                      rw [if_neg (by rw [hany]; decide)] at hr
                      have HR := Aside0.mk hr
                      have HA := Aside0.mk hany
                      clear hr hany HROW
                      go_wp2_with (first | (go_at_call 21; refine (HK3.out _ p qs (by repeat (first | (with_reducible first | exact HB.out | apply below_alloc | apply pw_below_drewN | apply below_drew1) | exact HB.out)) HQ.out).mono ?_; rintro e w12 ⟨v12, rfl, hr12, hb⟩; obtain ⟨A12, c12, rfl⟩ := Kd.R_slice hr12; have HC12 := Aside0.mk (Kd.R_reads' hr12).2.2; clear hr12; have tR_ := Aside0.mk (RW.out.below hb); clear RW; have RW := tR_; clear tR_; have n0_ := Aside0.mk (below_step (by repeat (first | (with_reducible first | exact HB.out | apply below_alloc | apply pw_below_drewN | apply below_drew1) | exact HB.out)) hb); have n1_ := Aside0.mk (blk_below (g := gs) (o := .cells #[.int .i64 a0, .int .i64 a1, .slice A2 ways.length c2] 28 (0, 0)) (by (with_reducible repeat (first | refine blk_drewN ?_ _ | refine blk_drew ?_ | refine blk_alloc ?_ _)); exact BKS.out) hb); have n2_ := Aside0.mk (blk_below (g := gb) (o := .cells #[.slice (some ⟨go, 0, none⟩) ways.length ways.length] 22 (0, 0)) (by (with_reducible repeat (first | refine blk_drewN ?_ _ | refine blk_drew ?_ | refine blk_alloc ?_ _)); exact BKO.out) hb); have n3_ := Aside0.mk (blk_below (g := gn) (o := .cells #[.int .i64 n] 3 (0, 0)) (by (with_reducible repeat (first | refine blk_drewN ?_ _ | refine blk_drew ?_ | refine blk_alloc ?_ _)); exact BKN.out) hb); clear HB BKS BKO BKN; have HB := n0_; have BKS := n1_; have BKO := n2_; have BKN := n3_; clear n0_ n1_ n2_ n3_; clear hb; have hckBKS_0 : w12.cell? ⟨gs, 0, none⟩ = some (.int .i64 a0) := (blk_cell BKS.out 0).trans rfl; have hckBKS_1 : w12.cell? ⟨gs, 1, none⟩ = some (.int .i64 a1) := (blk_cell BKS.out 1).trans rfl; have hckBKS_2 : w12.cell? ⟨gs, 2, none⟩ = some (.slice A2 ways.length c2) := (blk_cell BKS.out 2).trans rfl; have hckBKO_0 : w12.cell? ⟨gb, 0, none⟩ = some (.slice (some ⟨go, 0, none⟩) ways.length ways.length) := (blk_cell BKO.out 0).trans rfl; have hckBKN_0 : w12.cell? ⟨gn, 0, none⟩ = some (.int .i64 n) := (blk_cell BKN.out 0).trans rfl; have hfkBKS_0 := blk_frozen BKS.out 0; have hfkBKS_1 := blk_frozen BKS.out 1; have hfkBKS_2 := blk_frozen BKS.out 2; have hfkBKO_0 := blk_frozen BKO.out 0; have hfkBKN_0 := blk_frozen BKN.out 0) | (go_at_call 20; refine (HK4.out _ gb gn go o n qs A12 c12 HLO.out (by (with_reducible repeat (first | refine blk_drewN ?_ _ | refine blk_drew ?_ | refine blk_alloc ?_ _)); exact BKO.out) (by (with_reducible repeat (first | refine blk_drewN ?_ _ | refine blk_drew ?_ | refine blk_alloc ?_ _)); exact BKN.out) RW.out HAL.out HC12.out).mono ?_; rw [HA.out]; rintro e w13 ⟨rfl, hb⟩; have tR_ := Aside0.mk (RW.out.below hb); clear RW; have RW := tR_; clear tR_; have n0_ := Aside0.mk (below_step (by repeat (first | (with_reducible first | exact HB.out | apply below_alloc | apply pw_below_drewN | apply below_drew1) | exact HB.out)) hb); have n1_ := Aside0.mk (blk_below (g := gs) (o := .cells #[.int .i64 a0, .int .i64 a1, .slice A2 ways.length c2] 28 (0, 0)) (by (with_reducible repeat (first | refine blk_drewN ?_ _ | refine blk_drew ?_ | refine blk_alloc ?_ _)); exact BKS.out) hb); have n2_ := Aside0.mk (blk_below (g := gb) (o := .cells #[.slice (some ⟨go, 0, none⟩) ways.length ways.length] 22 (0, 0)) (by (with_reducible repeat (first | refine blk_drewN ?_ _ | refine blk_drew ?_ | refine blk_alloc ?_ _)); exact BKO.out) hb); have n3_ := Aside0.mk (blk_below (g := gn) (o := .cells #[.int .i64 n] 3 (0, 0)) (by (with_reducible repeat (first | refine blk_drewN ?_ _ | refine blk_drew ?_ | refine blk_alloc ?_ _)); exact BKN.out) hb); clear HB BKS BKO BKN; have HB := n0_; have BKS := n1_; have BKO := n2_; have BKN := n3_; clear n0_ n1_ n2_ n3_; clear hb HC12; have hclBKS_0 : w13.cell? ⟨gs, 0, none⟩ = some (.int .i64 a0) := (blk_cell BKS.out 0).trans rfl; have hclBKS_1 : w13.cell? ⟨gs, 1, none⟩ = some (.int .i64 a1) := (blk_cell BKS.out 1).trans rfl; have hclBKS_2 : w13.cell? ⟨gs, 2, none⟩ = some (.slice A2 ways.length c2) := (blk_cell BKS.out 2).trans rfl; have hclBKO_0 : w13.cell? ⟨gb, 0, none⟩ = some (.slice (some ⟨go, 0, none⟩) ways.length ways.length) := (blk_cell BKO.out 0).trans rfl; have hclBKN_0 : w13.cell? ⟨gn, 0, none⟩ = some (.int .i64 n) := (blk_cell BKN.out 0).trans rfl; have hflBKS_0 := blk_frozen BKS.out 0; have hflBKS_1 := blk_frozen BKS.out 1; have hflBKS_2 := blk_frozen BKS.out 2; have hflBKO_0 := blk_frozen BKO.out 0; have hflBKN_0 := blk_frozen BKN.out 0; have hcx2 := RW.out.rd p HPB.out.1 (by rw [HLO.out]; exact HPB.out.2); have hfx2 := RW.out.frozen p.toNat))
                      go_roundg (ways.length - (p + 1).toNat)
                      case measure => have := HP.out; have := HLT.out; omega
                      case rel => exact ⟨ag, p + 1, o, rfl, (by first | rfl | (rw [HW.out]) | (simp [HW.out])), ⟨by have := HP.out; have := HLT.out; omega⟩, HR, HLO, RW, BKN, BKS, BKO, HB⟩
                  · rw [if_neg hall] at hr; cases hr
                · rw [if_neg hd] at hr
                  have HR := Aside0.mk hr
                  have d2 : decide (rd o p < 0) = false := decide_eq_false hd
                  clear hr hd HROW
                  go_wp2
                  go_roundg (ways.length - (p + 1).toNat)
                  case measure => have := HP.out; have := HLT.out; omega
                  case rel => exact ⟨ag, p + 1, o, rfl, (by first | rfl | (rw [HW.out]) | (simp [HW.out])), ⟨by have := HP.out; have := HLT.out; omega⟩, HR, HLO, RW, BKN, BKS, BKO, HB⟩
              · have d0 : decide (p < (ways.length : Int)) = false := decide_eq_false hlt
                have hpp : p.toNat = ways.length := by have := HP.out; omega
                have hr := HROW.out
                rw [hpp, Nat.sub_self] at hr
                unfold impl_Hops.row at hr
                obtain rfl := Option.some.inj hr
                clear hr hpp hlt HROW
                have HL2 : Aside0 (ag = true → impl_Hops.loop a0 a1 ways m (wrap64 (n + 1)) o = some ro) := ⟨fun e => by have h1 := HS1.out; rw [if_pos e] at h1; exact h1⟩
                have HO2 : Aside0 (ag = false → o = ro) := ⟨fun e => by have h1 := HS1.out; subst e; rw [if_neg (by simp)] at h1; exact Option.some.inj h1⟩
                go_wp2_with (first | ((with_reducible refine gate_dst (N := 8) rfl ?_); refine box_event ?hg (N := 8) ?hd (cs := #[.int .i64 0]) (t := 3) ?hr ?_; (case hd => rfl); (case hg => rfl); (case hr => first | (go_simp; done) | (go_simp; rfl)); intro gm hg w14 hbox hb; have HGM := Aside0.mk (show go ≠ gm by rw [hg]; exact Nat.ne_of_lt RW.out.lt); have GBKM := Aside0.mk (show w.heap.size ≤ gm by rw [hg]; exact below_size (by repeat (first | (with_reducible first | exact HB.out | apply below_alloc | apply pw_below_drewN | apply below_drew1) | exact HB.out))); have BKM := Aside0.mk hbox; have tR_ := Aside0.mk (RW.out.below hb); clear RW; have RW := tR_; clear tR_; have n0_ := Aside0.mk (below_step (by repeat (first | (with_reducible first | exact HB.out | apply below_alloc | apply pw_below_drewN | apply below_drew1) | exact HB.out)) hb); have n1_ := Aside0.mk (blk_below (g := gs) (o := .cells #[.int .i64 a0, .int .i64 a1, .slice A2 ways.length c2] 28 (0, 0)) (by (with_reducible repeat (first | refine blk_drewN ?_ _ | refine blk_drew ?_ | refine blk_alloc ?_ _)); exact BKS.out) hb); have n2_ := Aside0.mk (blk_below (g := gb) (o := .cells #[.slice (some ⟨go, 0, none⟩) ways.length ways.length] 22 (0, 0)) (by (with_reducible repeat (first | refine blk_drewN ?_ _ | refine blk_drew ?_ | refine blk_alloc ?_ _)); exact BKO.out) hb); clear HB BKS BKO; have HB := n0_; have BKS := n1_; have BKO := n2_; clear n0_ n1_ n2_; clear hb hbox hg; have hcw14BKS_0 : w14.cell? ⟨gs, 0, none⟩ = some (.int .i64 a0) := (blk_cell BKS.out 0).trans rfl; have hcw14BKS_1 : w14.cell? ⟨gs, 1, none⟩ = some (.int .i64 a1) := (blk_cell BKS.out 1).trans rfl; have hcw14BKS_2 : w14.cell? ⟨gs, 2, none⟩ = some (.slice A2 ways.length c2) := (blk_cell BKS.out 2).trans rfl; have hcw14BKO_0 : w14.cell? ⟨gb, 0, none⟩ = some (.slice (some ⟨go, 0, none⟩) ways.length ways.length) := (blk_cell BKO.out 0).trans rfl; have hcw14BKM_0 : w14.cell? ⟨gm, 0, none⟩ = some (.int .i64 0) := (blk_cell BKM.out 0).trans rfl; have hfw14BKS_0 := blk_frozen BKS.out 0; have hfw14BKS_1 := blk_frozen BKS.out 1; have hfw14BKS_2 := blk_frozen BKS.out 2; have hfw14BKO_0 := blk_frozen BKO.out 0; have hfw14BKM_0 := blk_frozen BKM.out 0) | ((with_reducible refine gate_store (t := 3) (p := 8) rfl ?_); refine store_event (t := 3) (p := 8) (v := ?vo_w15) (w1 := (w14.setCell ⟨gm, 0, none⟩ (.int .i64 n))) ?hg ?ho ?hn ?hr ?_; (case ho => rfl); (case hg => rfl); (case hn => rfl); (case hr => first | (go_simp; done) | (go_simp; rfl)); intro w15 hw; have tR_ := RW.out.far (p := ⟨gm, 0, none⟩) HGM.out (.int .i64 n); rw [← hw] at tR_; have tR2_ := Aside0.mk tR_; clear RW tR_; have RW := tR2_; clear tR2_; have n0_ : Aside0 (w15.heap[gm]? = some (.cells #[.int .i64 n] 3 (0, 0))) := Aside0.mk (by rw [hw]; exact (blk_put (cs := #[.int .i64 0]) (cs' := #[.int .i64 n]) BKM.out 0 (.int .i64 n) rfl)); have n1_ : Aside0 (Below w.heap.size w w15) := Aside0.mk (by rw [hw]; exact (below_set HB.out GBKM.out)); have n2_ : Aside0 (w15.heap[gs]? = some (.cells #[.int .i64 a0, .int .i64 a1, .slice A2 ways.length c2] 28 (0, 0))) := Aside0.mk (by rw [hw]; exact (blk_far BKS.out (p := ⟨gm, 0, none⟩) (blk_ne BKS.out BKM.out (by decide)) (.int .i64 n))); have n3_ : Aside0 (w15.heap[gb]? = some (.cells #[.slice (some ⟨go, 0, none⟩) ways.length ways.length] 22 (0, 0))) := Aside0.mk (by rw [hw]; exact (blk_far BKO.out (p := ⟨gm, 0, none⟩) (blk_ne BKO.out BKM.out (by decide)) (.int .i64 n))); clear HB BKM BKS BKO hw; have BKM := n0_; have HB := n1_; have BKS := n2_; have BKO := n3_; clear n0_ n1_ n2_ n3_; have hcw15BKS_0 : w15.cell? ⟨gs, 0, none⟩ = some (.int .i64 a0) := (blk_cell BKS.out 0).trans rfl; have hcw15BKS_1 : w15.cell? ⟨gs, 1, none⟩ = some (.int .i64 a1) := (blk_cell BKS.out 1).trans rfl; have hcw15BKS_2 : w15.cell? ⟨gs, 2, none⟩ = some (.slice A2 ways.length c2) := (blk_cell BKS.out 2).trans rfl; have hcw15BKO_0 : w15.cell? ⟨gb, 0, none⟩ = some (.slice (some ⟨go, 0, none⟩) ways.length ways.length) := (blk_cell BKO.out 0).trans rfl; have hcw15BKM_0 : w15.cell? ⟨gm, 0, none⟩ = some (.int .i64 n) := (blk_cell BKM.out 0).trans rfl; have hfw15BKS_0 := blk_frozen BKS.out 0; have hfw15BKS_1 := blk_frozen BKS.out 1; have hfw15BKS_2 := blk_frozen BKS.out 2; have hfw15BKO_0 := blk_frozen BKO.out 0; have hfw15BKM_0 := blk_frozen BKM.out 0))
                go_roundg m
                case measure => have := HM.out; omega
                case rel => exact ⟨gm, ag, wrap64 (n + 1), o, m, rfl, rfl, ⟨Nat.le_refl _⟩, HL2, HO2, HLO, ⟨HGM.out, GBKM.out⟩, ⟨RW.out.far (p := ⟨gm, 0, none⟩) HGM.out _⟩, ⟨blk_put BKM.out 0 _ rfl⟩, ⟨blk_far BKS.out (p := ⟨gm, 0, none⟩) (blk_ne BKS.out BKM.out (by decide)) _⟩, ⟨blk_far BKO.out (p := ⟨gm, 0, none⟩) (blk_ne BKO.out BKM.out (by decide)) _⟩, ⟨below_set HB.out GBKM.out⟩⟩
  · rw [if_neg hn] at h; cases h


end Go.Proofs.Ythbmpegaogfibab.PA
