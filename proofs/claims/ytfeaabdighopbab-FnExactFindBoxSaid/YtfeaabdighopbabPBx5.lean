/- What Go's functions that the laws reach come to: laid by a program of this session over the print's words. -/
import Derived.Test.YtfeaabdighopbabPBx0
import Derived.Test.YtfeaabdighopbabPBx4
namespace Go.Proofs.Ytfeaabdighopbab.PB
open Go.RowKit Go.Proofs.YtfeaabdighopbabW.PrintWords Go.Proofs.YtfeaabdighopbabW.PrintLast Go.Proofs.YtfeaabdighopbabW.PrintMore
attribute [local go_sem] max2_int min2_int max_two min_two max_three min_three max_four min_four   -- for this text's walks alone
set_option linter.unusedVariables false
set_option linter.unusedSimpArgs false

/-! ### impl_YardOk: function 33 -/
def impl_YardOk.idOk (b : Int) : Bool := decide (1 ≤ b) && decide (b ≤ 1000000)
def impl_YardOk.row : List Int → List Int → Option (List Int)
  | acc, [] => some acc
  | acc, b :: s => if (impl_YardOk.idOk b && !acc.contains b) = true then impl_YardOk.row (b :: acc) s else none
def impl_YardOk.rows (a0 : Int) : List Int → List (List Int) → Bool
  | _, [] => true
  | acc, s :: ls => if (s.length : Int) > a0 then false else match impl_YardOk.row acc s with
    | none => false
    | some acc' => impl_YardOk.rows a0 acc' ls
def impl_YardOk.f (a0 : Int) (ls : List (List Int)) : Option Bool := some (if (decide (1 ≤ a0) && decide (a0 ≤ 6) && decide (1 ≤ ls.length) && decide (ls.length ≤ 12)) = true then impl_YardOk.rows a0 [] ls else false)
theorem impl_YardOk.id_eq (b : Int) : impl_idRight.f b = some (impl_YardOk.idOk b) := by
  unfold impl_idRight.f impl_in.f impl_YardOk.idOk
  by_cases h : b ≥ 1
  · rw [if_pos h]; simp [show 1 ≤ b from h]
  · rw [if_neg h]; simp [show ¬ 1 ≤ b from h]
theorem impl_YardOk.in_eq (a b c : Int) : impl_in.f a b c = some (decide (b ≤ a) && decide (a ≤ c)) := by
  unfold impl_in.f
  by_cases h : a ≥ b
  · rw [if_pos h]; simp [show b ≤ a from h]
  · rw [if_neg h]; simp [show ¬ b ≤ a from h]
set_option maxHeartbeats 8000000 in
set_option maxRecDepth 100000 in
theorem impl_YardOk.calls (a0 : Int) (A1 : Option Addr) (c1 : Nat) (ls : List (List Int)) (r : Bool) (w : World) (hr1 : Kd.C (Kd.slice 3 (Kd.int .i64)) w A1 ls.length ls) (hc1 : ls.length ≤ c1) (h : impl_YardOk.f a0 ls = some r) :
    Calls Try.prog 33 #[.agg #[.int .i64 a0, .slice A1 ls.length c1]] w fun e w' => e = .returned (.bool r) ∧ Below w.heap.size w w' := by
  have hu59 := Try.underlying59
  have hmm := @run_makeMap Try.prog
  have HR1 := Aside0.mk hr1
  clear hr1 hc1
  obtain rfl := Option.some.inj h
  clear h
  have A1_ := Aside0.mk (impl_YardOk.in_eq a0 1 6)
  have A2_ := Aside0.mk (impl_YardOk.in_eq (ls.length : Int) 1 12)
  have HB := Aside0.mk (Below.refl w.heap.size w)
  have e2 : (decide (1 ≤ (ls.length : Int)) && decide ((ls.length : Int) ≤ 12)) = (decide (1 ≤ ls.length) && decide (ls.length ≤ 12)) := by
    rw [Bool.eq_iff_iff]; simp only [Bool.and_eq_true, decide_eq_true_eq]; omega
  rw [e2] at A2_
  clear e2
  cases h1 : (decide (1 ≤ a0) && decide (a0 ≤ 6)) with
  | false =>
    rw [h1] at A1_
    simp only [Bool.false_and, Bool.false_eq_true, if_false]
    clear h1 A2_
    go_enter Try.func33, Try.ntmps33
    go_wp2_with (first | ((with_reducible refine gate_dst (N := 1) rfl ?_); refine box_event ?hg (N := 1) ?hd (cs := #[.int .i64 a0, .slice A1 ls.length c1]) (t := 59) ?hr ?_; (case hd => rfl); (case hg => rfl); (case hr => first | (go_simp; done) | (go_simp; rfl)); intro gy hg w2 hbox hb; have GBKY := Aside0.mk (show w.heap.size ≤ gy by rw [hg]; exact below_size (by repeat (first | (with_reducible first | exact HB.out | apply below_alloc | apply pw_below_drewN | apply below_drew1) | exact HB.out))); have BKY := Aside0.mk hbox; have n0_ := Aside0.mk (below_step (by repeat (first | (with_reducible first | exact HB.out | apply below_alloc | apply pw_below_drewN | apply below_drew1) | exact HB.out)) hb); clear HB ; have HB := n0_; clear n0_; clear hb hbox hg; have hcw2BKY_0 : w2.cell? ⟨gy, 0, none⟩ = some (.int .i64 a0) := (blk_cell BKY.out 0).trans rfl; have hcw2BKY_1 : w2.cell? ⟨gy, 1, none⟩ = some (.slice A1 ls.length c1) := (blk_cell BKY.out 1).trans rfl; have hfw2BKY_0 := blk_frozen BKY.out 0; have hfw2BKY_1 := blk_frozen BKY.out 1) | (go_at_call 48; (with_reducible refine (impl_in.calls a0 1 6 _ _ A1_.out).mono ?_); rintro e w' ⟨rfl, ⟨nd, rfl⟩⟩))
    go_ret
    exact ⟨by first | rfl | (simp; done) | (simp [*]; done), (by repeat (first | (with_reducible first | exact HB.out | apply below_alloc | apply pw_below_drewN | apply below_drew1) | exact HB.out))⟩
  | true =>
  cases h2 : (decide (1 ≤ ls.length) && decide (ls.length ≤ 12)) with
  | false =>
    rw [h1] at A1_
    rw [h2] at A2_
    rw [Bool.and_assoc, h2]
    simp only [Bool.and_false, Bool.false_eq_true, if_false]
    clear h1 h2
    go_enter Try.func33, Try.ntmps33
    go_wp2_with (first | ((with_reducible refine gate_dst (N := 1) rfl ?_); refine box_event ?hg (N := 1) ?hd (cs := #[.int .i64 a0, .slice A1 ls.length c1]) (t := 59) ?hr ?_; (case hd => rfl); (case hg => rfl); (case hr => first | (go_simp; done) | (go_simp; rfl)); intro gy hg w2 hbox hb; have GBKY := Aside0.mk (show w.heap.size ≤ gy by rw [hg]; exact below_size (by repeat (first | (with_reducible first | exact HB.out | apply below_alloc | apply pw_below_drewN | apply below_drew1) | exact HB.out))); have BKY := Aside0.mk hbox; have n0_ := Aside0.mk (below_step (by repeat (first | (with_reducible first | exact HB.out | apply below_alloc | apply pw_below_drewN | apply below_drew1) | exact HB.out)) hb); clear HB ; have HB := n0_; clear n0_; clear hb hbox hg; have hcw2BKY_0 : w2.cell? ⟨gy, 0, none⟩ = some (.int .i64 a0) := (blk_cell BKY.out 0).trans rfl; have hcw2BKY_1 : w2.cell? ⟨gy, 1, none⟩ = some (.slice A1 ls.length c1) := (blk_cell BKY.out 1).trans rfl; have hfw2BKY_0 := blk_frozen BKY.out 0; have hfw2BKY_1 := blk_frozen BKY.out 1) | (go_at_call 48; (with_reducible refine (impl_in.calls a0 1 6 _ _ A1_.out).mono ?_); rintro e w' ⟨rfl, ⟨nd, rfl⟩⟩) | (go_at_call 48; (with_reducible refine (impl_in.calls (ls.length : Int) 1 12 _ _ A2_.out).mono ?_); rintro e w' ⟨rfl, ⟨nd, rfl⟩⟩))
    go_ret
    exact ⟨by first | rfl | (simp; done) | (simp [*]; done), (by repeat (first | (with_reducible first | exact HB.out | apply below_alloc | apply pw_below_drewN | apply below_drew1) | exact HB.out))⟩
  | true =>
    rw [Bool.and_assoc, h2]
    simp only [Bool.and_true, if_true]
    have HN := Aside0.mk (And.intro (of_decide_eq_true (Bool.and_eq_true_iff.1 h1).2) (of_decide_eq_true (Bool.and_eq_true_iff.1 h2).2))
    rw [h1] at A1_
    rw [h2] at A2_
    clear h1 h2
    generalize hv : impl_YardOk.rows a0 [] ls = r
    have HV := Aside0.mk hv
    clear hv
    go_enter Try.func33, Try.ntmps33
    go_wp2_with (first | ((with_reducible refine gate_dst (N := 1) rfl ?_); refine box_event ?hg (N := 1) ?hd (cs := #[.int .i64 a0, .slice A1 ls.length c1]) (t := 59) ?hr ?_; (case hd => rfl); (case hg => rfl); (case hr => first | (go_simp; done) | (go_simp; rfl)); intro gy hg w2 hbox hb; have GBKY := Aside0.mk (show w.heap.size ≤ gy by rw [hg]; exact below_size (by repeat (first | (with_reducible first | exact HB.out | apply below_alloc | apply pw_below_drewN | apply below_drew1) | exact HB.out))); have BKY := Aside0.mk hbox; have n0_ := Aside0.mk (below_step (by repeat (first | (with_reducible first | exact HB.out | apply below_alloc | apply pw_below_drewN | apply below_drew1) | exact HB.out)) hb); clear HB ; have HB := n0_; clear n0_; clear hb hbox hg; have hcw2BKY_0 : w2.cell? ⟨gy, 0, none⟩ = some (.int .i64 a0) := (blk_cell BKY.out 0).trans rfl; have hcw2BKY_1 : w2.cell? ⟨gy, 1, none⟩ = some (.slice A1 ls.length c1) := (blk_cell BKY.out 1).trans rfl; have hfw2BKY_0 := blk_frozen BKY.out 0; have hfw2BKY_1 := blk_frozen BKY.out 1) | (go_at_call 48; (with_reducible refine (impl_in.calls a0 1 6 _ _ A1_.out).mono ?_); rintro e w' ⟨rfl, ⟨nd, rfl⟩⟩) | (go_at_call 48; (with_reducible refine (impl_in.calls (ls.length : Int) 1 12 _ _ A2_.out).mono ?_); rintro e w' ⟨rfl, ⟨nd, rfl⟩⟩) | ((with_reducible refine gate_dst (N := 19) rfl ?_); refine Mp.make (K := 3) (E := 4) (T := 127) rfl (N := 19) rfl rfl ?_; intro bm hbm w3 hset hb; have GM := Aside0.mk (show w.heap.size ≤ bm by rw [hbm]; exact below_size (by repeat (first | (with_reducible first | exact HB.out | apply below_alloc | apply pw_below_drewN | apply below_drew1) | exact HB.out))); have n0_ := Aside0.mk (below_step (by repeat (first | (with_reducible first | exact HB.out | apply below_alloc | apply pw_below_drewN | apply below_drew1) | exact HB.out)) hb); have n1_ := Aside0.mk (blk_below (g := gy) (o := .cells #[.int .i64 a0, .slice A1 ls.length c1] 59 (0, 0)) (by (with_reducible repeat (first | refine blk_drewN ?_ _ | refine blk_drew ?_ | refine blk_alloc ?_ _)); exact BKY.out) hb); clear HB BKY; have HB := n0_; have BKY := n1_; clear n0_ n1_; have SM := Aside0.mk hset; clear hset hbm hb; have hcmBKY_0 : w3.cell? ⟨gy, 0, none⟩ = some (.int .i64 a0) := (blk_cell BKY.out 0).trans rfl; have hcmBKY_1 : w3.cell? ⟨gy, 1, none⟩ = some (.slice A1 ls.length c1) := (blk_cell BKY.out 1).trans rfl; have hfmBKY_0 := blk_frozen BKY.out 0; have hfmBKY_1 := blk_frozen BKY.out 1))
    go_loopg [23] ls.length (fun gg v23 wr => ∃ (i : Int) (acc : List Int), v23 = .int .i64 i ∧ Aside0 (0 ≤ i ∧ i ≤ ls.length ∧ ls.length - i.toNat ≤ gg) ∧ Aside0 (impl_YardOk.rows a0 acc (ls.drop i.toNat) = r) ∧ Aside0 (Mp.SetIs Try.prog 3 4 wr bm (6 * i.toNat) acc) ∧ Aside0 (wr.heap[gy]? = some (.cells #[.int .i64 a0, .slice A1 ls.length c1] 59 (0, 0))) ∧ Aside0 (Below w.heap.size w wr))
    case atStart => exact ⟨0, [], rfl, ⟨by omega⟩, HV, SM, BKY, HB⟩
    case round =>
      clear HB BKY SM HV
      obtain ⟨i, acc, rfl, HI, HV, SM, BKY, HB⟩ := hrel
      have hcrBKY_0 : wr.cell? ⟨gy, 0, none⟩ = some (.int .i64 a0) := (blk_cell BKY.out 0).trans rfl; have hcrBKY_1 : wr.cell? ⟨gy, 1, none⟩ = some (.slice A1 ls.length c1) := (blk_cell BKY.out 1).trans rfl; have hfrBKY_0 := blk_frozen BKY.out 0; have hfrBKY_1 := blk_frozen BKY.out 1
      by_cases hlt : i < (ls.length : Int)
      · have h0 : 0 ≤ i := HI.out.1
        obtain ⟨ad, A2, c2, e_, hx, hl, hi⟩ := at_L1 HR1.out i h0 hlt
        cases e_
        have hd : ls.drop i.toNat = rd_L1 ls i :: ls.drop (i.toNat + 1) := by
          rw [List.drop_eq_getElem_cons (by omega)]
          congr 1
          simp [rd_L1, List.getD, show i.toNat < ls.length by omega]
        have hv := HV.out
        rw [hd] at hv
        clear hd
        generalize hs : rd_L1 ls i = s at hx hl hi hv
        clear hs
        have HR2 := Aside0.mk hi
        have HX := Aside0.mk hx
        clear hx hl hi
        have hw1 : wrap64 (i + 1) = i + 1 := by unfold wrap64; have := HN.out; omega
        have HW := Aside0.mk hw1
        have HLT := Aside0.mk (show i.toNat < ls.length ∧ (i + 1).toNat = i.toNat + 1 ∧ i.toNat < 12 by have := HN.out; omega)
        clear hw1
        have c0b : decide (i < (ls.length : Int)) = true := decide_eq_true hlt
        have c1b : decide (0 ≤ i) = true := decide_eq_true h0
        replace h0 := eq_true h0
        replace hlt := eq_true hlt
        have hx := pw_cell_below HB.out HX.out
        simp only [impl_YardOk.rows] at hv
        by_cases hgt : (s.length : Int) > a0
        · rw [if_pos hgt] at hv
          subst hv
          have c2b : decide ((s.length : Int) > a0) = true := decide_eq_true hgt
          clear hgt
          go_wp2
          go_ret
          exact ⟨by first | rfl | (simp; done) | (simp [*]; done), (by repeat (first | (with_reducible first | exact HB.out | apply below_alloc | apply pw_below_drewN | apply below_drew1) | exact HB.out))⟩
        · rw [if_neg hgt] at hv
          have HS := Aside0.mk (show s.length ≤ 6 by have := HN.out; omega)
          have c2b : decide ((s.length : Int) > a0) = false := decide_eq_false hgt
          clear hgt
          have HV2 := Aside0.mk hv
          clear hv
          generalize hq : impl_YardOk.row acc s = q at HV2
          have HQ := Aside0.mk hq
          clear hq
          go_wp2
          go_loopg [34] s.length (fun gg v34 wr => ∃ (j : Int) (acc : List Int), v34 = .int .i64 j ∧ Aside0 (0 ≤ j ∧ j ≤ s.length ∧ s.length - j.toNat ≤ gg) ∧ Aside0 (impl_YardOk.row acc (s.drop j.toNat) = q) ∧ Aside0 (Mp.SetIs Try.prog 3 4 wr bm (6 * i.toNat + j.toNat) acc) ∧ Aside0 (wr.heap[gy]? = some (.cells #[.int .i64 a0, .slice (some ad) ls.length c1] 59 (0, 0))) ∧ Aside0 (Below w.heap.size w wr))
          case atStart => exact ⟨0, acc, rfl, ⟨by omega⟩, HQ, SM, BKY, HB⟩
          case round =>
            clear HB BKY SM HQ hx
            obtain ⟨j, acc2, rfl, HJ, HV3, SM, BKY, HB⟩ := hrel
            have hcsBKY_0 : wr.cell? ⟨gy, 0, none⟩ = some (.int .i64 a0) := (blk_cell BKY.out 0).trans rfl; have hcsBKY_1 : wr.cell? ⟨gy, 1, none⟩ = some (.slice (some ad) ls.length c1) := (blk_cell BKY.out 1).trans rfl; have hfsBKY_0 := blk_frozen BKY.out 0; have hfsBKY_1 := blk_frozen BKY.out 1
            by_cases hjl : j < (s.length : Int)
            · have hj0 : 0 ≤ j := HJ.out.1
              obtain ⟨ad2, e2_, hx2⟩ := Kd.at_int HR2.out j hj0 hjl
              cases e2_
              replace hx2 := pw_cell_below HB.out hx2
              have hd : s.drop j.toNat = rd s j :: s.drop (j.toNat + 1) := by
                rw [List.drop_eq_getElem_cons (by omega)]
                congr 1
                simp [rd, List.getD, show j.toNat < s.length by omega]
              have hv := HV3.out
              rw [hd] at hv
              clear hd
              simp only [impl_YardOk.row] at hv
              generalize hb_ : rd s j = b at hx2 hv
              clear hb_
              have A3_ := Aside0.mk (impl_YardOk.id_eq b)
              have hw2 : wrap64 (j + 1) = j + 1 := by unfold wrap64; have := HS.out; omega
              have HW2 := Aside0.mk hw2
              have HLT2 := Aside0.mk (show j.toNat < s.length ∧ (j + 1).toNat = j.toNat + 1 by omega)
              clear hw2
              have d0b : decide (j < (s.length : Int)) = true := decide_eq_true hjl
              have d1b : decide (0 ≤ j) = true := decide_eq_true hj0
              replace hj0 := eq_true hj0
              replace hjl := eq_true hjl
              cases h3 : impl_YardOk.idOk b with
              | false =>
                rw [h3] at hv A3_
                rw [Bool.false_and, if_neg (by decide)] at hv
                clear h3
                have hvv := HV2.out
                rw [← hv] at hvv
                dsimp only at hvv
                subst hvv
                clear hv
                go_wp2_with (go_at_call 90; (with_reducible refine (impl_idRight.calls b _ _ A3_.out).mono ?_); rintro e w' ⟨rfl, ⟨nd, rfl⟩⟩)
                go_ret
                exact ⟨by first | rfl | (simp; done) | (simp [*]; done), (by repeat (first | (with_reducible first | exact HB.out | apply below_alloc | apply pw_below_drewN | apply below_drew1) | exact HB.out))⟩
              | true =>
                have HWF := Aside0.mk (Mp.wf_of (x := b) (by
                  have h5 := h3
                  simp only [impl_YardOk.idOk, Bool.and_eq_true, decide_eq_true_eq] at h5
                  omega))
                rw [h3] at hv A3_
                rw [Bool.true_and] at hv
                clear h3
                cases h4 : acc2.contains b with
                | true =>
                  rw [h4] at hv
                  rw [if_neg (by decide)] at hv
                  have C4 := Aside0.mk h4
                  clear h4
                  have hvv := HV2.out
                  rw [← hv] at hvv
                  dsimp only at hvv
                  subst hvv
                  clear hv
                  go_wp2_with (first | (go_at_call 90; (with_reducible refine (impl_idRight.calls b _ _ A3_.out).mono ?_); rintro e w' ⟨rfl, ⟨nd, rfl⟩⟩) | (at_lookup; (try (refine gate_guard (by rfl) ?_; dsimp only)); refine Mp.look (K := 3) (E := 4) (T := 127) SM.out rfl _ _ rfl Try.underlying3 Try.underlying127 Try.underlying4 (by kernel_rfl) rfl b rfl HWF.out ?_; rw [C4.out]))
                  go_ret
                  exact ⟨by first | rfl | (simp; done) | (simp [*]; done), (by repeat (first | (with_reducible first | exact HB.out | apply below_alloc | apply pw_below_drewN | apply below_drew1) | exact HB.out))⟩
                | false =>
                  rw [h4] at hv
                  rw [if_pos (by decide)] at hv
                  have C4 := Aside0.mk h4
                  clear h4
                  have HV4 := Aside0.mk hv
                  clear hv
                  go_wp2_with (first | (go_at_call 90; (with_reducible refine (impl_idRight.calls b _ _ A3_.out).mono ?_); rintro e w' ⟨rfl, ⟨nd, rfl⟩⟩) | (at_lookup; (try (refine gate_guard (by rfl) ?_; dsimp only)); refine Mp.look (K := 3) (E := 4) (T := 127) SM.out rfl _ _ rfl Try.underlying3 Try.underlying127 Try.underlying4 (by kernel_rfl) rfl b rfl HWF.out ?_; rw [C4.out]) | (at_mapUpdate; refine Mp.put (K := 3) (E := 4) (T := 127) SM.out rfl _ _ _ rfl Try.underlying3 Try.underlying127 Try.underlying4 (by unfold maxLen; have := HLT.out; have := HLT2.out; have := HS.out; omega) rfl b rfl rfl HWF.out ?_; intro w5 hset hgr; have n0_ := Aside0.mk (pw_below_grown (by repeat (first | (with_reducible first | exact HB.out | apply below_alloc | apply pw_below_drewN | apply below_drew1) | exact HB.out)) (some bm) (below_size (by repeat (first | (with_reducible first | exact HB.out | apply below_alloc | apply pw_below_drewN | apply below_drew1) | exact HB.out))) hgr (fun k e => by cases e; exact GM.out)); have n1_ := Aside0.mk (blk_grown (g := gy) (o := .cells #[.int .i64 a0, .slice (some ad) ls.length c1] 59 (0, 0)) (by (with_reducible repeat (first | refine blk_drewN ?_ _ | refine blk_drew ?_ | refine blk_alloc ?_ _)); exact BKY.out) hgr (SM.out.ne BKY.out)); have n2_ := Aside0.mk hset; clear HB BKY SM hset hgr; have HB := n0_; have BKY := n1_; have SM := n2_; clear n0_ n1_ n2_))
                  go_roundg (s.length - (j + 1).toNat)
                  case measure => have := HJ.out; have := HLT2.out; omega
                  case rel =>
                    refine ⟨j + 1, b :: acc2, (by first | rfl | (rw [HW2.out]) | (simp [HW2.out])), ⟨by have := HJ.out; have := HLT2.out; omega⟩, ⟨by rw [HLT2.out.2]; exact HV4.out⟩, ⟨by rw [HLT2.out.2]; exact SM.out⟩, BKY, HB⟩
            · have d0b : decide (j < (s.length : Int)) = false := decide_eq_false hjl
              have hjj : j.toNat = s.length := by have := HJ.out; omega
              have hv := HV3.out
              rw [hjj, List.drop_of_length_le (Nat.le_refl _)] at hv
              simp only [impl_YardOk.row] at hv
              have hvv := HV2.out
              rw [← hv] at hvv
              dsimp only at hvv
              have HV4 := Aside0.mk hvv
              have SM2 := Aside0.mk (SM.out.mono (n' := 6 * (i + 1).toNat) (by have := HLT.out; have := HS.out; have := HI.out; omega))
              clear hv hvv hjj hjl
              go_wp2
              go_roundg (ls.length - (i + 1).toNat)
              case measure => have := HI.out; have := HLT.out; omega
              case rel =>
                refine ⟨i + 1, acc2, (by first | rfl | (rw [HW.out]) | (simp [HW.out])), ⟨by have := HI.out; have := HLT.out; omega⟩, ⟨by rw [HLT.out.2.1]; exact HV4.out⟩, SM2, BKY, HB⟩
      · have c0b : decide (i < (ls.length : Int)) = false := decide_eq_false hlt
        have hii : i.toNat = ls.length := by have := HI.out; omega
        have hv := HV.out
        rw [hii, List.drop_of_length_le (Nat.le_refl _)] at hv
        simp only [impl_YardOk.rows] at hv
        subst hv
        clear hii hlt
        go_wp2
        go_ret
        exact ⟨by first | rfl | (simp; done) | (simp [*]; done), (by repeat (first | (with_reducible first | exact HB.out | apply below_alloc | apply pw_below_drewN | apply below_drew1) | exact HB.out))⟩


/-! ### laws_eqIntS: function 13 -/
def laws_eqIntS.l0 : Nat → List Int → List Int → Int → Option (Bool)
  | 0, _, _, _ => none
  | k + 1, x0, x1, x5 => if x5 < (x0.length : Int) then (if 0 ≤ x5 then (if x5 < (x1.length : Int) then (if (rd x0 x5) = (rd x1 x5) then (laws_eqIntS.l0 k x0 x1 (wrap64 (x5 + 1))) else (some false)) else (none)) else (none)) else (some true)
def laws_eqIntS.f (k : Nat) (l0 : List Int) (l1 : List Int) : Option (Bool) := if (l0.length : Int) = (l1.length : Int) then (laws_eqIntS.l0 k l0 l1 0) else (some false)
theorem laws_eqIntS.mono_l : ∀ k, (∀ y0 y1 y2, LeO (laws_eqIntS.l0 k y0 y1 y2) (laws_eqIntS.l0 (k + 1) y0 y1 y2))
  | 0 => fun _ _ _ r h => by simp [laws_eqIntS.l0] at h
  | k + 1 => by
    have ih0 := laws_eqIntS.mono_l k
    · intro y0 y1 y2
      unfold laws_eqIntS.l0
      repeat' first
      | (with_reducible exact ih0 _ _ _)
      | (with_reducible exact LeO.refl _)
      | (with_reducible exact LeO.none _)
      | (with_reducible refine LeO.ite ?_ ?_)
      | (with_reducible refine LeO.bind ?_ (fun _ => ?_))
      | exact ih0 _ _ _
      | exact LeO.none _
      | refine LeO.ite ?_ ?_
      | refine LeO.bind ?_ (fun _ => ?_)
theorem laws_eqIntS.mono : ∀ a0 a1 k, LeO (laws_eqIntS.f k a0 a1) (laws_eqIntS.f (k + 1) a0 a1) := by
  intro a0 a1 k
  have ih0 := laws_eqIntS.mono_l k
  unfold laws_eqIntS.f
  repeat' first
      | (with_reducible exact ih0 _ _ _)
      | (with_reducible exact LeO.refl _)
      | (with_reducible exact LeO.none _)
      | (with_reducible refine LeO.ite ?_ ?_)
      | (with_reducible refine LeO.bind ?_ (fun _ => ?_))
      | exact ih0 _ _ _
      | exact LeO.none _
      | refine LeO.ite ?_ ?_
      | refine LeO.bind ?_ (fun _ => ?_)
set_option maxHeartbeats 8000000 in
set_option maxRecDepth 100000 in
theorem laws_eqIntS.calls (k : Nat) (A0 : Option Addr) (c0 : Nat) (l0 : List Int) (A1 : Option Addr) (c1 : Nat) (l1 : List Int) (r : Bool) (w : World) (hr0 : Kd.C (Kd.int .i64) w A0 l0.length l0) (hc0 : l0.length ≤ c0) (hr1 : Kd.C (Kd.int .i64) w A1 l1.length l1) (hc1 : l1.length ≤ c1) (h : laws_eqIntS.f k l0 l1 = some r) :
    Calls Try.prog 13 #[.slice A0 l0.length c0, .slice A1 l1.length c1] w fun e w' => e = .returned (.bool r) ∧ Drawn0 w w' := by
  have HR0 := Aside0.mk hr0
  have HC0 := Aside0.mk hc0
  clear hr0 hc0
  have HR1 := Aside0.mk hr1
  have HC1 := Aside0.mk hc1
  clear hr1 hc1
  have H : (if (l0.length : Int) = (l1.length : Int) then (laws_eqIntS.l0 k l0 l1 0) else (some false)) = some r := h
  clear h
  by_cases c3 : (l0.length : Int) = (l1.length : Int)
  · rw [if_pos c3] at H
    have c3b0 : ((l0.length : Int) == (l1.length : Int)) = true := beq_iff_eq.mpr c3
    have c3b1 : ((l0.length : Int) != (l1.length : Int)) = false := bne_eq_false_iff_eq.mpr c3
    have c3b2 : (l0.length == l1.length) = true := by first | simpa using c3 | (simp at c3 ⊢; omega)
    clear c3
    have H' := Aside0.mk H
    clear H
    go_enter Try.func13, Try.ntmps13
    go_wp2
    repeat (go_quiet (fail); try go_wp2)
    go_loopg [5] k (fun kq v5 w' => ∃ (x5_1 : Int), v5 = .int .i64 x5_1 ∧ Aside0 (laws_eqIntS.l0 kq l0 l1 x5_1 = some r) ∧ Aside0 (kq ≤ k) ∧ Drawn0 w w')
    case atStart => exact ⟨(0), (by first | rfl | (simp; done) | (simp [*]; done)), H', ⟨Nat.le_refl _⟩, by repeat (first | exact Drawn0.refl _ | apply Drawn0.step)⟩
    case round =>
      clear H'
      try clear c1
      try clear p2
      try clear c3
      try clear c3b0
      try clear c3b1
      try clear c3b2
      obtain ⟨x5_1, rfl, HA, HK1, ⟨m1, rfl⟩⟩ := hrel
      cases gk with
      | zero => exact absurd HA.out (by simp [laws_eqIntS.l0])
      | succ k1 =>
        have H := HA.out
        clear HA
        simp only [laws_eqIntS.l0] at H
        by_cases c4 : x5_1 < (l0.length : Int)
        · rw [if_pos c4] at H
          have c4b0 : decide (x5_1 < (l0.length : Int)) = true := decide_eq_true c4
          clear c4
          by_cases c5 : 0 ≤ x5_1
          · rw [if_pos c5] at H
            have c5b0 : decide (0 ≤ x5_1) = true := decide_eq_true c5
            clear c5
            by_cases c6 : x5_1 < (l1.length : Int)
            · rw [if_pos c6] at H
              have c6b0 : decide (x5_1 < (l1.length : Int)) = true := decide_eq_true c6
              clear c6
              by_cases c7 : (rd l0 x5_1) = (rd l1 x5_1)
              · rw [if_pos c7] at H
                have c7b0 : ((rd l0 x5_1) == (rd l1 x5_1)) = true := beq_iff_eq.mpr c7
                have c7b1 : ((rd l0 x5_1) != (rd l1 x5_1)) = false := bne_eq_false_iff_eq.mpr c7
                clear c7
                have H' := Aside0.mk H
                clear H
                have p151 : 0 ≤ (x5_1 : Int) := of_decide_eq_true (by first | (with_reducible assumption) | assumption)
                have q151 : x5_1 < (l0.length : Int) := of_decide_eq_true (by first | (with_reducible assumption) | assumption)
                obtain ⟨ad151, e151, hx151_0⟩ := Kd.at_int HR0.out x5_1 p151 q151
                cases e151
                replace p151 := eq_true p151
                replace q151 := eq_true q151
                have p152 : 0 ≤ (x5_1 : Int) := of_decide_eq_true (by first | (with_reducible assumption) | assumption)
                have q152 : x5_1 < (l1.length : Int) := of_decide_eq_true (by first | (with_reducible assumption) | assumption)
                obtain ⟨ad152, e152, hx152_0⟩ := Kd.at_int HR1.out x5_1 p152 q152
                cases e152
                replace p152 := eq_true p152
                replace q152 := eq_true q152
                go_wp2
                repeat (go_quiet (fail); try go_wp2)
                go_roundg k1
                case measure => have := HK1.out; omega
                case rel => exact ⟨(wrap64 (x5_1 + 1)), (by first | rfl | (simp; done) | (simp [*]; done)), H', ⟨by have := HK1.out; omega⟩, by repeat (first | exact Drawn0.refl _ | apply Drawn0.step)⟩
              · rw [if_neg c7] at H
                have c7b0 : ((rd l0 x5_1) == (rd l1 x5_1)) = false := beq_eq_false_iff_ne.mpr c7
                have c7b1 : ((rd l0 x5_1) != (rd l1 x5_1)) = true := bne_iff_ne.mpr c7
                obtain rfl := Option.some.inj H
                have p151 : 0 ≤ (x5_1 : Int) := of_decide_eq_true (by first | (with_reducible assumption) | assumption)
                have q151 : x5_1 < (l0.length : Int) := of_decide_eq_true (by first | (with_reducible assumption) | assumption)
                obtain ⟨ad151, e151, hx151_0⟩ := Kd.at_int HR0.out x5_1 p151 q151
                cases e151
                replace p151 := eq_true p151
                replace q151 := eq_true q151
                have p152 : 0 ≤ (x5_1 : Int) := of_decide_eq_true (by first | (with_reducible assumption) | assumption)
                have q152 : x5_1 < (l1.length : Int) := of_decide_eq_true (by first | (with_reducible assumption) | assumption)
                obtain ⟨ad152, e152, hx152_0⟩ := Kd.at_int HR1.out x5_1 p152 q152
                cases e152
                replace p152 := eq_true p152
                replace q152 := eq_true q152
                go_wp2
                repeat (go_quiet (fail); try go_wp2)
                go_ret
                exact ⟨by first | rfl | (simp; done) | (simp [*]; done), by repeat (first | exact Drawn0.refl _ | apply Drawn0.step)⟩
            · rw [if_neg c6] at H
              exact absurd H (by simp)
          · rw [if_neg c5] at H
            exact absurd H (by simp)
        · rw [if_neg c4] at H
          have c4b0 : decide (x5_1 < (l0.length : Int)) = false := decide_eq_false c4
          clear c4
          obtain rfl := Option.some.inj H
          go_wp2
          repeat (go_quiet (fail); try go_wp2)
          go_ret
          exact ⟨by first | rfl | (simp; done) | (simp [*]; done), by repeat (first | exact Drawn0.refl _ | apply Drawn0.step)⟩
  · rw [if_neg c3] at H
    have c3b0 : ((l0.length : Int) == (l1.length : Int)) = false := beq_eq_false_iff_ne.mpr c3
    have c3b1 : ((l0.length : Int) != (l1.length : Int)) = true := bne_iff_ne.mpr c3
    have c3b2 : (l0.length == l1.length) = false := by first | simpa using c3 | (simp at c3 ⊢; omega)
    obtain rfl := Option.some.inj H
    go_enter Try.func13, Try.ntmps13
    go_wp2
    repeat (go_quiet (fail); try go_wp2)
    go_ret
    exact ⟨by first | rfl | (simp; done) | (simp [*]; done), by repeat (first | exact Drawn0.refl _ | apply Drawn0.step)⟩

end Go.Proofs.Ytfeaabdighopbab.PB
