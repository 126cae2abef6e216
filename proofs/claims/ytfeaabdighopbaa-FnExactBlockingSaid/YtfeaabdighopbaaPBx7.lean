/- What Go's functions that the laws reach come to: laid by a program of this session over the print's words. -/
import Derived.Test.YtfeaabdighopbaaPBx0
namespace Go.Proofs.Ytfeaabdighopbaa.PB
open Go.RowKit Go.Proofs.YtfeaabdighopbaaW.PrintWords Go.Proofs.YtfeaabdighopbaaW.PrintLast Go.Proofs.YtfeaabdighopbaaW.PrintMore
attribute [local go_sem] max2_int min2_int max_two min_two max_three min_three max_four min_four   -- for this text's walks alone
set_option linter.unusedVariables false
set_option linter.unusedSimpArgs false

/-! ### impl_in: function 54 -/
def impl_in.f (a0 : Int) (a1 : Int) (a2 : Int) : Option (Bool) := if a0 ≥ a1 then (some (decide (a0 ≤ a2))) else (some false)
set_option maxHeartbeats 8000000 in
set_option maxRecDepth 100000 in
theorem impl_in.calls (a0 : Int) (a1 : Int) (a2 : Int) (r : Bool) (w : World) (h : impl_in.f a0 a1 a2 = some r) :
    Calls Try.prog 54 #[.int .i64 a0, .int .i64 a1, .int .i64 a2] w fun e w' => e = .returned (.bool r) ∧ Drawn0 w w' := by
  have H : (if a0 ≥ a1 then (some (decide (a0 ≤ a2))) else (some false)) = some r := h
  clear h
  by_cases c4 : a0 ≥ a1
  · rw [if_pos c4] at H
    have c4b0 : decide (a1 ≤ a0) = true := decide_eq_true c4
    clear c4
    obtain rfl := Option.some.inj H
    go_enter Try.func54, Try.ntmps54
    go_wp2
    go_ret
    exact ⟨by first | rfl | (simp; done) | (simp [*]; done), by repeat (first | exact Drawn0.refl _ | apply Drawn0.step)⟩
  · rw [if_neg c4] at H
    have c4b0 : decide (a1 ≤ a0) = false := decide_eq_false c4
    clear c4
    obtain rfl := Option.some.inj H
    go_enter Try.func54, Try.ntmps54
    go_wp2
    go_ret
    exact ⟨by first | rfl | (simp; done) | (simp [*]; done), by repeat (first | exact Drawn0.refl _ | apply Drawn0.step)⟩

/-! ### impl_idRight: function 87 -/
def impl_idRight.f (a0 : Int) : Option (Bool) := (impl_in.f a0 1 1000000).bind fun t165 => (some t165)
set_option maxHeartbeats 8000000 in
set_option maxRecDepth 100000 in
theorem impl_idRight.calls (a0 : Int) (r : Bool) (w : World) (h : impl_idRight.f a0 = some r) :
    Calls Try.prog 87 #[.int .i64 a0] w fun e w' => e = .returned (.bool r) ∧ Drawn0 w w' := by
  have H : ((impl_in.f a0 1 1000000).bind fun t165 => (some t165)) = some r := h
  clear h
  replace H := Option.bind_eq_some_iff.mp H
  obtain ⟨t165, A20, H⟩ := H
  replace H : (some t165) = some r := H
  have A2 := Aside0.mk A20
  clear A20
  obtain rfl := Option.some.inj H
  go_enter Try.func87, Try.ntmps87
  go_wp2_with (first | ((with_reducible refine gate_callee (f := 54) rfl ?_); refine goesL_ (some 4) rfl rfl Try.func54 (by kernel_rfl) rfl #[.int .i64 a0, .int .i64 1, .int .i64 1000000] rfl (by (try simp only [List.map_toArray, List.map_cons, List.map_nil]); first | done | rfl | (simp only [List.length_drop, List.length_take]; rfl)) ?_; (with_reducible refine (impl_in.calls a0 1 1000000 t165 _ A2.out).mono ?_); rintro e w' ⟨rfl, ⟨nd, rfl⟩⟩; refine ⟨_, rfl, ?_⟩))
  go_ret
  exact ⟨by first | rfl | (simp; done) | (simp [*]; done), by repeat (first | exact Drawn0.refl _ | apply Drawn0.step)⟩

/-! ### impl_YardOk: function 98 -/
def impl_YardOk.idOk (b : Int) : Bool := decide (1 ≤ b) && decide (b ≤ 1000000)
def impl_YardOk.row : List Int → List Int → Option (List Int)
  | acc, [] => some acc
  | acc, b :: s => if (impl_YardOk.idOk b && !acc.contains b) = true then impl_YardOk.row (b :: acc) s else none
def impl_YardOk.rows (a0 : Int) : List Int → List (List Int) → Bool
  | _, [] => true
  | acc, s :: ls => if (s.length : Int) > a0 then false else match impl_YardOk.row acc s with
    | none => false
    | some acc' => impl_YardOk.rows a0 acc' ls
def impl_YardOk.f (a0 : Int) (ls : List (List Int)) : Option Bool := some (if (decide (1 ≤ a0) && decide (a0 ≤ 6) && decide (1 ≤ ls.length) && decide (ls.length ≤ 12)) = true then impl_YardOk.rows a0 [] ls else false)
theorem impl_YardOk.id_eq (b : Int) : impl_idRight.f b = some (impl_YardOk.idOk b) := by
  unfold impl_idRight.f impl_in.f impl_YardOk.idOk
  by_cases h : b ≥ 1
  · rw [if_pos h]; simp [show 1 ≤ b from h]
  · rw [if_neg h]; simp [show ¬ 1 ≤ b from h]
theorem impl_YardOk.in_eq (a b c : Int) : impl_in.f a b c = some (decide (b ≤ a) && decide (a ≤ c)) := by
  unfold impl_in.f
  by_cases h : a ≥ b
  · rw [if_pos h]; simp [show b ≤ a from h]
  · rw [if_neg h]; simp [show ¬ b ≤ a from h]
set_option maxHeartbeats 8000000 in
set_option maxRecDepth 100000 in
theorem impl_YardOk.calls (a0 : Int) (A1 : Option Addr) (c1 : Nat) (ls : List (List Int)) (r : Bool) (w : World) (hr1 : Kd.C (Kd.slice 3 (Kd.int .i64)) w A1 ls.length ls) (hc1 : ls.length ≤ c1) (h : impl_YardOk.f a0 ls = some r) :
    Calls Try.prog 98 #[.agg #[.int .i64 a0, .slice A1 ls.length c1]] w fun e w' => e = .returned (.bool r) ∧ Below w.heap.size w w' := by
  have hu84 := Try.underlying84
  have hmm := @run_makeMap Try.prog
  have HR1 := Aside0.mk hr1
  clear hr1 hc1
  obtain rfl := Option.some.inj h
  clear h
  have A1_ := Aside0.mk (impl_YardOk.in_eq a0 1 6)
  have A2_ := Aside0.mk (impl_YardOk.in_eq (ls.length : Int) 1 12)
  have HB := Aside0.mk (Below.refl w.heap.size w)
  have e2 : (decide (1 ≤ (ls.length : Int)) && decide ((ls.length : Int) ≤ 12)) = (decide (1 ≤ ls.length) && decide (ls.length ≤ 12)) := by
    rw [Bool.eq_iff_iff]; simp only [Bool.and_eq_true, decide_eq_true_eq]; omega
  rw [e2] at A2_
  clear e2
  cases h1 : (decide (1 ≤ a0) && decide (a0 ≤ 6)) with
  | false =>
    rw [h1] at A1_
    simp only [Bool.false_and, Bool.false_eq_true, if_false]
    clear h1 A2_
    go_enter Try.func98, Try.ntmps98
    go_wp2_with (first | ((with_reducible refine gate_dst (N := 1) rfl ?_); refine box_event ?hg (N := 1) ?hd (cs := #[.int .i64 a0, .slice A1 ls.length c1]) (t := 84) ?hr ?_; (case hd => rfl); (case hg => rfl); (case hr => first | (go_simp; done) | (go_simp; rfl)); intro gy hg w2 hbox hb; have GBKY := Aside0.mk (show w.heap.size ≤ gy by rw [hg]; exact below_size (by repeat (first | (with_reducible first | exact HB.out | apply below_alloc | apply pw_below_drewN | apply below_drew1) | exact HB.out))); have BKY := Aside0.mk hbox; have n0_ := Aside0.mk (below_step (by repeat (first | (with_reducible first | exact HB.out | apply below_alloc | apply pw_below_drewN | apply below_drew1) | exact HB.out)) hb); clear HB ; have HB := n0_; clear n0_; clear hb hbox hg; have hcw2BKY_0 : w2.cell? ⟨gy, 0, none⟩ = some (.int .i64 a0) := (blk_cell BKY.out 0).trans rfl; have hcw2BKY_1 : w2.cell? ⟨gy, 1, none⟩ = some (.slice A1 ls.length c1) := (blk_cell BKY.out 1).trans rfl; have hfw2BKY_0 := blk_frozen BKY.out 0; have hfw2BKY_1 := blk_frozen BKY.out 1) | (go_at_call 54; (with_reducible refine (impl_in.calls a0 1 6 _ _ A1_.out).mono ?_); rintro e w' ⟨rfl, ⟨nd, rfl⟩⟩))
    go_ret
    exact ⟨by first | rfl | (simp; done) | (simp [*]; done), (by repeat (first | (with_reducible first | exact HB.out | apply below_alloc | apply pw_below_drewN | apply below_drew1) | exact HB.out))⟩
  | true =>
  cases h2 : (decide (1 ≤ ls.length) && decide (ls.length ≤ 12)) with
  | false =>
    rw [h1] at A1_
    rw [h2] at A2_
    rw [Bool.and_assoc, h2]
    simp only [Bool.and_false, Bool.false_eq_true, if_false]
    clear h1 h2
    go_enter Try.func98, Try.ntmps98
    go_wp2_with (first | ((with_reducible refine gate_dst (N := 1) rfl ?_); refine box_event ?hg (N := 1) ?hd (cs := #[.int .i64 a0, .slice A1 ls.length c1]) (t := 84) ?hr ?_; (case hd => rfl); (case hg => rfl); (case hr => first | (go_simp; done) | (go_simp; rfl)); intro gy hg w2 hbox hb; have GBKY := Aside0.mk (show w.heap.size ≤ gy by rw [hg]; exact below_size (by repeat (first | (with_reducible first | exact HB.out | apply below_alloc | apply pw_below_drewN | apply below_drew1) | exact HB.out))); have BKY := Aside0.mk hbox; have n0_ := Aside0.mk (below_step (by repeat (first | (with_reducible first | exact HB.out | apply below_alloc | apply pw_below_drewN | apply below_drew1) | exact HB.out)) hb); clear HB ; have HB := n0_; clear n0_; clear hb hbox hg; have hcw2BKY_0 : w2.cell? ⟨gy, 0, none⟩ = some (.int .i64 a0) := (blk_cell BKY.out 0).trans rfl; have hcw2BKY_1 : w2.cell? ⟨gy, 1, none⟩ = some (.slice A1 ls.length c1) := (blk_cell BKY.out 1).trans rfl; have hfw2BKY_0 := blk_frozen BKY.out 0; have hfw2BKY_1 := blk_frozen BKY.out 1) | (go_at_call 54; (with_reducible refine (impl_in.calls a0 1 6 _ _ A1_.out).mono ?_); rintro e w' ⟨rfl, ⟨nd, rfl⟩⟩) | (go_at_call 54; (with_reducible refine (impl_in.calls (ls.length : Int) 1 12 _ _ A2_.out).mono ?_); rintro e w' ⟨rfl, ⟨nd, rfl⟩⟩))
    go_ret
    exact ⟨by first | rfl | (simp; done) | (simp [*]; done), (by repeat (first | (with_reducible first | exact HB.out | apply below_alloc | apply pw_below_drewN | apply below_drew1) | exact HB.out))⟩
  | true =>
    rw [Bool.and_assoc, h2]
    simp only [Bool.and_true, if_true]
    have HN := Aside0.mk (And.intro (of_decide_eq_true (Bool.and_eq_true_iff.1 h1).2) (of_decide_eq_true (Bool.and_eq_true_iff.1 h2).2))
    rw [h1] at A1_
    rw [h2] at A2_
    clear h1 h2
    generalize hv : impl_YardOk.rows a0 [] ls = r
    have HV := Aside0.mk hv
    clear hv
    go_enter Try.func98, Try.ntmps98
    go_wp2_with (first | ((with_reducible refine gate_dst (N := 1) rfl ?_); refine box_event ?hg (N := 1) ?hd (cs := #[.int .i64 a0, .slice A1 ls.length c1]) (t := 84) ?hr ?_; (case hd => rfl); (case hg => rfl); (case hr => first | (go_simp; done) | (go_simp; rfl)); intro gy hg w2 hbox hb; have GBKY := Aside0.mk (show w.heap.size ≤ gy by rw [hg]; exact below_size (by repeat (first | (with_reducible first | exact HB.out | apply below_alloc | apply pw_below_drewN | apply below_drew1) | exact HB.out))); have BKY := Aside0.mk hbox; have n0_ := Aside0.mk (below_step (by repeat (first | (with_reducible first | exact HB.out | apply below_alloc | apply pw_below_drewN | apply below_drew1) | exact HB.out)) hb); clear HB ; have HB := n0_; clear n0_; clear hb hbox hg; have hcw2BKY_0 : w2.cell? ⟨gy, 0, none⟩ = some (.int .i64 a0) := (blk_cell BKY.out 0).trans rfl; have hcw2BKY_1 : w2.cell? ⟨gy, 1, none⟩ = some (.slice A1 ls.length c1) := (blk_cell BKY.out 1).trans rfl; have hfw2BKY_0 := blk_frozen BKY.out 0; have hfw2BKY_1 := blk_frozen BKY.out 1) | (go_at_call 54; (with_reducible refine (impl_in.calls a0 1 6 _ _ A1_.out).mono ?_); rintro e w' ⟨rfl, ⟨nd, rfl⟩⟩) | (go_at_call 54; (with_reducible refine (impl_in.calls (ls.length : Int) 1 12 _ _ A2_.out).mono ?_); rintro e w' ⟨rfl, ⟨nd, rfl⟩⟩) | ((with_reducible refine gate_dst (N := 19) rfl ?_); refine Mp.make (K := 3) (E := 4) (T := 150) rfl (N := 19) rfl rfl ?_; intro bm hbm w3 hset hb; have GM := Aside0.mk (show w.heap.size ≤ bm by rw [hbm]; exact below_size (by repeat (first | (with_reducible first | exact HB.out | apply below_alloc | apply pw_below_drewN | apply below_drew1) | exact HB.out))); have n0_ := Aside0.mk (below_step (by repeat (first | (with_reducible first | exact HB.out | apply below_alloc | apply pw_below_drewN | apply below_drew1) | exact HB.out)) hb); have n1_ := Aside0.mk (blk_below (g := gy) (o := .cells #[.int .i64 a0, .slice A1 ls.length c1] 84 (0, 0)) (by (with_reducible repeat (first | refine blk_drewN ?_ _ | refine blk_drew ?_ | refine blk_alloc ?_ _)); exact BKY.out) hb); clear HB BKY; have HB := n0_; have BKY := n1_; clear n0_ n1_; have SM := Aside0.mk hset; clear hset hbm hb; have hcmBKY_0 : w3.cell? ⟨gy, 0, none⟩ = some (.int .i64 a0) := (blk_cell BKY.out 0).trans rfl; have hcmBKY_1 : w3.cell? ⟨gy, 1, none⟩ = some (.slice A1 ls.length c1) := (blk_cell BKY.out 1).trans rfl; have hfmBKY_0 := blk_frozen BKY.out 0; have hfmBKY_1 := blk_frozen BKY.out 1))
    go_loopg [23] ls.length (fun gg v23 wr => ∃ (i : Int) (acc : List Int), v23 = .int .i64 i ∧ Aside0 (0 ≤ i ∧ i ≤ ls.length ∧ ls.length - i.toNat ≤ gg) ∧ Aside0 (impl_YardOk.rows a0 acc (ls.drop i.toNat) = r) ∧ Aside0 (Mp.SetIs Try.prog 3 4 wr bm (6 * i.toNat) acc) ∧ Aside0 (wr.heap[gy]? = some (.cells #[.int .i64 a0, .slice A1 ls.length c1] 84 (0, 0))) ∧ Aside0 (Below w.heap.size w wr))
    case atStart => exact ⟨0, [], rfl, ⟨by omega⟩, HV, SM, BKY, HB⟩
    case round =>
      clear HB BKY SM HV
      obtain ⟨i, acc, rfl, HI, HV, SM, BKY, HB⟩ := hrel
      have hcrBKY_0 : wr.cell? ⟨gy, 0, none⟩ = some (.int .i64 a0) := (blk_cell BKY.out 0).trans rfl; have hcrBKY_1 : wr.cell? ⟨gy, 1, none⟩ = some (.slice A1 ls.length c1) := (blk_cell BKY.out 1).trans rfl; have hfrBKY_0 := blk_frozen BKY.out 0; have hfrBKY_1 := blk_frozen BKY.out 1
      by_cases hlt : i < (ls.length : Int)
      · have h0 : 0 ≤ i := HI.out.1
        obtain ⟨ad, A2, c2, e_, hx, hl, hi⟩ := at_L1 HR1.out i h0 hlt
        cases e_
        have hd : ls.drop i.toNat = rd_L1 ls i :: ls.drop (i.toNat + 1) := by
          rw [List.drop_eq_getElem_cons (by omega)]
          congr 1
          simp [rd_L1, List.getD, show i.toNat < ls.length by omega]
        have hv := HV.out
        rw [hd] at hv
        clear hd
        generalize hs : rd_L1 ls i = s at hx hl hi hv
        clear hs
        have HR2 := Aside0.mk hi
        have HX := Aside0.mk hx
        clear hx hl hi
        have hw1 : wrap64 (i + 1) = i + 1 := by unfold wrap64; have := HN.out; omega
        have HW := Aside0.mk hw1
        have HLT := Aside0.mk (show i.toNat < ls.length ∧ (i + 1).toNat = i.toNat + 1 ∧ i.toNat < 12 by have := HN.out; omega)
        clear hw1
        have c0b : decide (i < (ls.length : Int)) = true := decide_eq_true hlt
        have c1b : decide (0 ≤ i) = true := decide_eq_true h0
        replace h0 := eq_true h0
        replace hlt := eq_true hlt
        have hx := pw_cell_below HB.out HX.out
        simp only [impl_YardOk.rows] at hv
        by_cases hgt : (s.length : Int) > a0
        · rw [if_pos hgt] at hv
          subst hv
          have c2b : decide ((s.length : Int) > a0) = true := decide_eq_true hgt
          clear hgt
          go_wp2
          go_ret
          exact ⟨by first | rfl | (simp; done) | (simp [*]; done), (by repeat (first | (with_reducible first | exact HB.out | apply below_alloc | apply pw_below_drewN | apply below_drew1) | exact HB.out))⟩
        · rw [if_neg hgt] at hv
          have HS := Aside0.mk (show s.length ≤ 6 by have := HN.out; omega)
          have c2b : decide ((s.length : Int) > a0) = false := decide_eq_false hgt
          clear hgt
          have HV2 := Aside0.mk hv
          clear hv
          generalize hq : impl_YardOk.row acc s = q at HV2
          have HQ := Aside0.mk hq
          clear hq
          go_wp2
          go_loopg [34] s.length (fun gg v34 wr => ∃ (j : Int) (acc : List Int), v34 = .int .i64 j ∧ Aside0 (0 ≤ j ∧ j ≤ s.length ∧ s.length - j.toNat ≤ gg) ∧ Aside0 (impl_YardOk.row acc (s.drop j.toNat) = q) ∧ Aside0 (Mp.SetIs Try.prog 3 4 wr bm (6 * i.toNat + j.toNat) acc) ∧ Aside0 (wr.heap[gy]? = some (.cells #[.int .i64 a0, .slice (some ad) ls.length c1] 84 (0, 0))) ∧ Aside0 (Below w.heap.size w wr))
          case atStart => exact ⟨0, acc, rfl, ⟨by omega⟩, HQ, SM, BKY, HB⟩
          case round =>
            clear HB BKY SM HQ hx
            obtain ⟨j, acc2, rfl, HJ, HV3, SM, BKY, HB⟩ := hrel
            have hcsBKY_0 : wr.cell? ⟨gy, 0, none⟩ = some (.int .i64 a0) := (blk_cell BKY.out 0).trans rfl; have hcsBKY_1 : wr.cell? ⟨gy, 1, none⟩ = some (.slice (some ad) ls.length c1) := (blk_cell BKY.out 1).trans rfl; have hfsBKY_0 := blk_frozen BKY.out 0; have hfsBKY_1 := blk_frozen BKY.out 1
            by_cases hjl : j < (s.length : Int)
            · have hj0 : 0 ≤ j := HJ.out.1
              obtain ⟨ad2, e2_, hx2⟩ := Kd.at_int HR2.out j hj0 hjl
              cases e2_
              replace hx2 := pw_cell_below HB.out hx2
              have hd : s.drop j.toNat = rd s j :: s.drop (j.toNat + 1) := by
                rw [List.drop_eq_getElem_cons (by omega)]
                congr 1
                simp [rd, List.getD, show j.toNat < s.length by omega]
              have hv := HV3.out
              rw [hd] at hv
              clear hd
              simp only [impl_YardOk.row] at hv
              generalize hb_ : rd s j = b at hx2 hv
              clear hb_
              have A3_ := Aside0.mk (impl_YardOk.id_eq b)
              have hw2 : wrap64 (j + 1) = j + 1 := by unfold wrap64; have := HS.out; omega
              have HW2 := Aside0.mk hw2
              have HLT2 := Aside0.mk (show j.toNat < s.length ∧ (j + 1).toNat = j.toNat + 1 by omega)
              clear hw2
              have d0b : decide (j < (s.length : Int)) = true := decide_eq_true hjl
              have d1b : decide (0 ≤ j) = true := decide_eq_true hj0
              replace hj0 := eq_true hj0
              replace hjl := eq_true hjl
              cases h3 : impl_YardOk.idOk b with
              | false =>
                rw [h3] at hv A3_
                rw [Bool.false_and, if_neg (by decide)] at hv
                clear h3
                have hvv := HV2.out
                rw [← hv] at hvv
                dsimp only at hvv
                subst hvv
                clear hv
                go_wp2_with (go_at_call 87; (with_reducible refine (impl_idRight.calls b _ _ A3_.out).mono ?_); rintro e w' ⟨rfl, ⟨nd, rfl⟩⟩)
                go_ret
                exact ⟨by first | rfl | (simp; done) | (simp [*]; done), (by repeat (first | (with_reducible first | exact HB.out | apply below_alloc | apply pw_below_drewN | apply below_drew1) | exact HB.out))⟩
              | true =>
                have HWF := Aside0.mk (Mp.wf_of (x := b) (by
                  have h5 := h3
                  simp only [impl_YardOk.idOk, Bool.and_eq_true, decide_eq_true_eq] at h5
                  omega))
                rw [h3] at hv A3_
                rw [Bool.true_and] at hv
                clear h3
                cases h4 : acc2.contains b with
                | true =>
                  rw [h4] at hv
                  rw [if_neg (by decide)] at hv
                  have C4 := Aside0.mk h4
                  clear h4
                  have hvv := HV2.out
                  rw [← hv] at hvv
                  dsimp only at hvv
                  subst hvv
                  clear hv
                  go_wp2_with (first | (go_at_call 87; (with_reducible refine (impl_idRight.calls b _ _ A3_.out).mono ?_); rintro e w' ⟨rfl, ⟨nd, rfl⟩⟩) | (at_lookup; (try (refine gate_guard (by rfl) ?_; dsimp only)); refine Mp.look (K := 3) (E := 4) (T := 150) SM.out rfl _ _ rfl Try.underlying3 Try.underlying150 Try.underlying4 (by kernel_rfl) rfl b rfl HWF.out ?_; rw [C4.out]))
                  go_ret
                  exact ⟨by first | rfl | (simp; done) | (simp [*]; done), (by repeat (first | (with_reducible first | exact HB.out | apply below_alloc | apply pw_below_drewN | apply below_drew1) | exact HB.out))⟩
                | false =>
                  rw [h4] at hv
                  rw [if_pos (by decide)] at hv
                  have C4 := Aside0.mk h4
                  clear h4
                  have HV4 := Aside0.mk hv
                  clear hv
                  go_wp2_with (first | (go_at_call 87; (with_reducible refine (impl_idRight.calls b _ _ A3_.out).mono ?_); rintro e w' ⟨rfl, ⟨nd, rfl⟩⟩) | (at_lookup; (try (refine gate_guard (by rfl) ?_; dsimp only)); refine Mp.look (K := 3) (E := 4) (T := 150) SM.out rfl _ _ rfl Try.underlying3 Try.underlying150 Try.underlying4 (by kernel_rfl) rfl b rfl HWF.out ?_; rw [C4.out]) | (at_mapUpdate; refine Mp.put (K := 3) (E := 4) (T := 150) SM.out rfl _ _ _ rfl Try.underlying3 Try.underlying150 Try.underlying4 (by unfold maxLen; have := HLT.out; have := HLT2.out; have := HS.out; omega) rfl b rfl rfl HWF.out ?_; intro w5 hset hgr; have n0_ := Aside0.mk (pw_below_grown (by repeat (first | (with_reducible first | exact HB.out | apply below_alloc | apply pw_below_drewN | apply below_drew1) | exact HB.out)) (some bm) (below_size (by repeat (first | (with_reducible first | exact HB.out | apply below_alloc | apply pw_below_drewN | apply below_drew1) | exact HB.out))) hgr (fun k e => by cases e; exact GM.out)); have n1_ := Aside0.mk (blk_grown (g := gy) (o := .cells #[.int .i64 a0, .slice (some ad) ls.length c1] 84 (0, 0)) (by (with_reducible repeat (first | refine blk_drewN ?_ _ | refine blk_drew ?_ | refine blk_alloc ?_ _)); exact BKY.out) hgr (SM.out.ne BKY.out)); have n2_ := Aside0.mk hset; clear HB BKY SM hset hgr; have HB := n0_; have BKY := n1_; have SM := n2_; clear n0_ n1_ n2_))
                  go_roundg (s.length - (j + 1).toNat)
                  case measure => have := HJ.out; have := HLT2.out; omega
                  case rel =>
                    refine ⟨j + 1, b :: acc2, (by first | rfl | (rw [HW2.out]) | (simp [HW2.out])), ⟨by have := HJ.out; have := HLT2.out; omega⟩, ⟨by rw [HLT2.out.2]; exact HV4.out⟩, ⟨by rw [HLT2.out.2]; exact SM.out⟩, BKY, HB⟩
            · have d0b : decide (j < (s.length : Int)) = false := decide_eq_false hjl
              have hjj : j.toNat = s.length := by have := HJ.out; omega
              have hv := HV3.out
              rw [hjj, List.drop_of_length_le (Nat.le_refl _)] at hv
              simp only [impl_YardOk.row] at hv
              have hvv := HV2.out
              rw [← hv] at hvv
              dsimp only at hvv
              have HV4 := Aside0.mk hvv
              have SM2 := Aside0.mk (SM.out.mono (n' := 6 * (i + 1).toNat) (by have := HLT.out; have := HS.out; have := HI.out; omega))
              clear hv hvv hjj hjl
              go_wp2
              go_roundg (ls.length - (i + 1).toNat)
              case measure => have := HI.out; have := HLT.out; omega
              case rel =>
                refine ⟨i + 1, acc2, (by first | rfl | (rw [HW.out]) | (simp [HW.out])), ⟨by have := HI.out; have := HLT.out; omega⟩, ⟨by rw [HLT.out.2.1]; exact HV4.out⟩, SM2, BKY, HB⟩
      · have c0b : decide (i < (ls.length : Int)) = false := decide_eq_false hlt
        have hii : i.toNat = ls.length := by have := HI.out; omega
        have hv := HV.out
        rw [hii, List.drop_of_length_le (Nat.le_refl _)] at hv
        simp only [impl_YardOk.rows] at hv
        subst hv
        clear hii hlt
        go_wp2
        go_ret
        exact ⟨by first | rfl | (simp; done) | (simp [*]; done), (by repeat (first | (with_reducible first | exact HB.out | apply below_alloc | apply pw_below_drewN | apply below_drew1) | exact HB.out))⟩


-- NOT PRINTED: function 99 (impl_Blocking_1)

-- NOT PRINTED: function 100 (impl_Blocking_2)

end Go.Proofs.Ytfeaabdighopbaa.PB
