/- What Go's functions that the laws reach come to: laid by a program of this session over the print's words. -/
import Derived.Test.YthbmpegaogfibacPAx0
import Derived.Test.YthbmpegaogfibacPAx6
import Derived.Test.YthbmpegaogfibacPAx7
import Derived.Test.YthbmpegaogfibacPAx8
namespace Go.Proofs.Ythbmpegaogfibac.PA
open Go.RowKit Go.Proofs.YthbmpegaogfibacW.PrintWords Go.Proofs.YthbmpegaogfibacW.PrintLast Go.Proofs.YthbmpegaogfibacW.PrintMore
attribute [local go_sem] max2_int min2_int max_two min_two max_three min_three max_four min_four   -- for this text's walks alone
set_option linter.unusedVariables false
set_option linter.unusedSimpArgs false

/-! ### impl_RestCode: function 7 -/
theorem impl_RestCode.i3 : (Try.prog.info? 3).map (fun i => (i.zero, i.size, i.bytes)) = some (some (.int .i64 0), 1, 8) := by kernel_rfl
theorem impl_RestCode.i4 : (Try.prog.info? 4).map (fun i => (i.zero, i.size, i.bytes)) = some (some (.bool false), 1, 1) := by kernel_rfl
def impl_RestCode.cov (s : S33) (x : Int) : Bool := decide (s.f0 ≤ x) && decide (x < s.f1)
def impl_RestCode.at_ (l : List S33) (x : Int) : Bool := l.any fun s => impl_RestCode.cov s x
def impl_RestCode.W (l : List S33) : Nat → Int
  | 0 => 0
  | m + 1 => if impl_RestCode.at_ l (m : Int) = true then wrap64 (impl_RestCode.W l m + 1) else impl_RestCode.W l m
def impl_RestCode.Fr (l : List S33) : Nat → Int
  | 0 => 0
  | m + 1 => if impl_RestCode.at_ l (m : Int) = true then 0 else wrap64 (impl_RestCode.Fr l m + 1)
def impl_RestCode.rests (l : List S33) (t : Int) : Bool := (List.range 1081).any fun d => decide (impl_RestCode.Fr l ((t - 1080).toNat + d) ≥ 360)
def impl_RestCode.days (l : List S33) : Nat → Int → Int × Int
  | 0, _ => (0, -1)
  | d + 1, t => if wrap64 (impl_RestCode.W l t.toNat - impl_RestCode.W l (t - 1440).toNat) > 840 then (2, t) else if t ≥ 10080 ∧ wrap64 (impl_RestCode.W l t.toNat - impl_RestCode.W l (t - 10080).toNat) > 5460 then (3, t) else if impl_RestCode.rests l t = true then impl_RestCode.days l d (t + 1) else (4, t)
def impl_RestCode.f (k : Nat) (l : List S33) (u : Int) : Option (Int × Int) := (impl_SpellsOk.f k l).bind fun t => if t = true then ((impl_in.f u 0 30000).bind fun t => if t = true then (if (l.any fun s => decide (s.f1 > 30000)) = true then some (1, -1) else if l.all (fun s => decide (0 ≤ s.f0)) = true ∧ 0 ≤ u ∧ u ≤ 30000 ∧ l.length ≤ 1000 then some (impl_RestCode.days l (u + 1 - 1440).toNat 1440) else none) else some (1, -1)) else some (1, -1)
theorem impl_RestCode.mono : ∀ a0 a1 k, LeO (impl_RestCode.f k a0 a1) (impl_RestCode.f (k + 1) a0 a1) := by
  intro a0 a1 k
  unfold impl_RestCode.f
  exact LeO.bind (impl_SpellsOk.mono _ _) fun _ => LeO.refl _
/-- Rows told by a function of the place. -/
def impl_RestCode.row {α : Type} (n : Nat) (g : Nat → α) : List α := (List.range n).map g
theorem impl_RestCode.row_len {α : Type} (n : Nat) (g : Nat → α) : (impl_RestCode.row n g).length = n := by simp [impl_RestCode.row]
theorem impl_RestCode.row_get {α : Type} (n : Nat) (g : Nat → α) (i : Nat) (d : α) (h : i < n) : (impl_RestCode.row n g).getD i d = g i := by simp [impl_RestCode.row, List.getD, h]
theorem impl_RestCode.row_set {α : Type} (n : Nat) (g g' : Nat → α) (i : Nat) (v : α) (h : ∀ j, j < n → g' j = if j = i then v else g j) : (impl_RestCode.row n g).set i v = impl_RestCode.row n g' := by
  apply List.ext_getElem
  · simp [impl_RestCode.row]
  · intro j h1 h2
    have hj : j < n := by simpa [impl_RestCode.row] using h2
    simp only [impl_RestCode.row, List.getElem_set, List.getElem_map, List.getElem_range]
    rw [h j hj]
    by_cases c : i = j
    · rw [if_pos c, if_pos c.symm]
    · rw [if_neg c, if_neg (fun e => c e.symm)]
theorem impl_RestCode.row_congr {α : Type} (n : Nat) (g g' : Nat → α) (h : ∀ j, j < n → g j = g' j) : impl_RestCode.row n g = impl_RestCode.row n g' := List.map_congr_left fun i hi => h i (List.mem_range.1 hi)
theorem impl_RestCode.at_take (l : List S33) (i : Nat) (h : i < l.length) (x : Int) : impl_RestCode.at_ (l.take (i + 1)) x = (impl_RestCode.at_ (l.take i) x || impl_RestCode.cov l[i] x) := by
  unfold impl_RestCode.at_
  rw [List.take_add_one, List.getElem?_eq_getElem h, List.any_append]
  simp
theorem impl_RestCode.none_ (f0 x : Int) (b : Bool) : (b || (decide (f0 ≤ x) && decide (x < f0))) = b := by
  by_cases c : f0 ≤ x
  · rw [decide_eq_false (show ¬ x < f0 by omega)]; simp
  · rw [decide_eq_false c]; simp
theorem impl_RestCode.start_ (f : Nat → Int) (h : f 0 = 0) (j : Nat) : (if j ≤ (0 : Int).toNat then f j else 0) = 0 := by
  by_cases c : j ≤ (0 : Int).toNat
  · rw [if_pos c, show j = 0 by have : (0 : Int).toNat = 0 := rfl; omega, h]
  · rw [if_neg c]
theorem impl_RestCode.rd_row (n : Nat) (g : Nat → Int) (i : Int) (h0 : 0 ≤ i) (h1 : i < (n : Int)) : rd (impl_RestCode.row n g) i = g i.toNat := by
  unfold rd
  exact impl_RestCode.row_get n g i.toNat 0 (by omega)
theorem impl_RestCode.rd_set_ne (l : List Int) (i : Nat) (v : Int) (j : Int) (h : i ≠ j.toNat) : rd (l.set i v) j = rd l j := by
  simp [rd, List.getD, List.getElem?_set, h]
theorem impl_RestCode.step_ (n : Nat) (f : Nat → Int) (i : Nat) : (impl_RestCode.row n fun j => if j ≤ i then f j else 0).set (i + 1) (f (i + 1)) = impl_RestCode.row n fun j => if j ≤ i + 1 then f j else 0 := by
  refine impl_RestCode.row_set n _ _ (i + 1) _ fun j _ => ?_
  by_cases c : j = i + 1
  · rw [if_pos c, if_pos (by omega), c]
  · rw [if_neg c]
    by_cases d : j ≤ i
    · rw [if_pos d, if_pos (by omega)]
    · rw [if_neg d, if_neg (by omega)]
theorem impl_RestCode.row_const {α : Type} (n : Nat) (z : α) : List.replicate n z = impl_RestCode.row n (fun _ => z) := by
  apply List.ext_getElem
  · simp [impl_RestCode.row]
  · intro i h1 h2; simp [impl_RestCode.row]
set_option maxHeartbeats 8000000 in
set_option maxRecDepth 100000 in
theorem impl_RestCode.calls (k : Nat) (A0 : Option Addr) (c0 : Nat) (l : List (S33)) (u : Int) (r1 : Int) (r2 : Int) (w : World) (hr0 : Kd.C k33 w A0 l.length l) (hc0 : l.length ≤ c0) (h : impl_RestCode.f k l u = some (r1, r2)) :
    Calls Try.prog 7 #[.slice A0 l.length c0, .int .i64 u] w fun e w' => e = .returned (.tuple #[.int .i64 r1, .int .i64 r2]) ∧ Below w.heap.size w w' := by
  have hu33 := Try.underlying33
  have hu40 := Try.underlying40
  have hu41 := Try.underlying41
  have hu26 := Try.underlying26
  have HK1 : Aside0 (∀ (W : World) (t : Bool), Below w.heap.size w W → impl_SpellsOk.f k l = some t → Calls Try.prog 14 #[.slice A0 l.length c0] W fun e w' => e = .returned (.bool t) ∧ Below W.heap.size W w') := ⟨fun W t hb ht => impl_SpellsOk.calls k A0 c0 l t W (Kd.C_below hr0 hb) hc0 ht⟩
  have HK3 : Aside0 (∀ (W : World), Below w.heap.size w W → Calls Try.prog 16 #[.slice A0 l.length c0, .func (.func 17) #[] #[]] W fun e w' => e = .returned (.bool (l.any fun s => decide (s.f1 > 30000))) ∧ Below W.heap.size W w') := ⟨fun W hb =>
    impl_Spell_16.callsP 17 #[] (fun s => decide (s.f1 > 30000)) A0 c0 l W (enters_of Try.func17 (by kernel_rfl) rfl) (fun W2 x hx hb2 => (impl_RestCode_1.calls x.f0 x.f1 _ W2 rfl).mono fun _ _ hh => ⟨hh.1, hh.2⟩) (Kd.C_below hr0 hb)⟩
  have HR0 := Aside0.mk hr0
  clear hr0 hc0
  have HB := Aside0.mk (Below.refl w.heap.size w)
  unfold impl_RestCode.f at h
  obtain ⟨t1, ht1, h⟩ := Option.bind_eq_some_iff.mp h
  have HT1 := Aside0.mk ht1
  clear ht1
  cases t1 with
  | false =>
    rw [if_neg (by decide)] at h
    obtain ⟨rfl, rfl⟩ := Prod.mk.inj (Option.some.inj h)
    clear h
    go_enter Try.func7, Try.ntmps7
    go_wp2_with (first | (go_at_call 14; refine (HK1.out _ _ (by repeat (first | (with_reducible first | exact HB.out | apply below_alloc | apply pw_below_drewN | apply below_drew1) | exact HB.out)) HT1.out).mono ?_; rintro e w3 ⟨rfl, hb⟩; have n0_ := Aside0.mk (below_step (by repeat (first | (with_reducible first | exact HB.out | apply below_alloc | apply pw_below_drewN | apply below_drew1) | exact HB.out)) hb); clear HB hb; have HB := n0_; clear n0_))
    go_ret2
    exact ⟨by first | rfl | (simp; done) | (simp [*]; done), (by repeat (first | (with_reducible first | exact HB.out | apply below_alloc | apply pw_below_drewN | apply below_drew1) | exact HB.out))⟩
  | true =>
  rw [if_pos rfl] at h
  obtain ⟨t2, ht2, h⟩ := Option.bind_eq_some_iff.mp h
  have HT2 := Aside0.mk ht2
  clear ht2
  cases t2 with
  | false =>
    rw [if_neg (by decide)] at h
    obtain ⟨rfl, rfl⟩ := Prod.mk.inj (Option.some.inj h)
    clear h
    go_enter Try.func7, Try.ntmps7
    go_wp2_with (first | (go_at_call 14; refine (HK1.out _ _ (by repeat (first | (with_reducible first | exact HB.out | apply below_alloc | apply pw_below_drewN | apply below_drew1) | exact HB.out)) HT1.out).mono ?_; rintro e w3 ⟨rfl, hb⟩; have n0_ := Aside0.mk (below_step (by repeat (first | (with_reducible first | exact HB.out | apply below_alloc | apply pw_below_drewN | apply below_drew1) | exact HB.out)) hb); clear HB hb; have HB := n0_; clear n0_) | (go_at_call 15; refine (impl_in.calls _ _ _ _ _ HT2.out).mono ?_; rintro e w4 ⟨rfl, ⟨nd4, rfl⟩⟩))
    go_ret2
    exact ⟨by first | rfl | (simp; done) | (simp [*]; done), (by repeat (first | (with_reducible first | exact HB.out | apply below_alloc | apply pw_below_drewN | apply below_drew1) | exact HB.out))⟩
  | true =>
  rw [if_pos rfl] at h
  cases h3 : l.any fun s => decide (s.f1 > 30000) with
  | true =>
    rw [h3, if_pos rfl] at h
    obtain ⟨rfl, rfl⟩ := Prod.mk.inj (Option.some.inj h)
    have HT3 := Aside0.mk h3
    clear h h3
    go_enter Try.func7, Try.ntmps7
    go_wp2_with (first | (go_at_call 14; refine (HK1.out _ _ (by repeat (first | (with_reducible first | exact HB.out | apply below_alloc | apply pw_below_drewN | apply below_drew1) | exact HB.out)) HT1.out).mono ?_; rintro e w3 ⟨rfl, hb⟩; have n0_ := Aside0.mk (below_step (by repeat (first | (with_reducible first | exact HB.out | apply below_alloc | apply pw_below_drewN | apply below_drew1) | exact HB.out)) hb); clear HB hb; have HB := n0_; clear n0_) | (go_at_call 15; refine (impl_in.calls _ _ _ _ _ HT2.out).mono ?_; rintro e w4 ⟨rfl, ⟨nd4, rfl⟩⟩) | (go_at_call 16; refine (HK3.out _ (by repeat (first | (with_reducible first | exact HB.out | apply below_alloc | apply pw_below_drewN | apply below_drew1) | exact HB.out))).mono ?_; rw [HT3.out]; rintro e w5 ⟨rfl, hb⟩; have n0_ := Aside0.mk (below_step (by repeat (first | (with_reducible first | exact HB.out | apply below_alloc | apply pw_below_drewN | apply below_drew1) | exact HB.out)) hb); clear HB hb; have HB := n0_; clear n0_))
    go_ret2
    exact ⟨by first | rfl | (simp; done) | (simp [*]; done), (by repeat (first | (with_reducible first | exact HB.out | apply below_alloc | apply pw_below_drewN | apply below_drew1) | exact HB.out))⟩
  | false =>
  rw [h3, if_neg (by decide)] at h
  by_cases hg : l.all (fun s => decide (0 ≤ s.f0)) = true ∧ 0 ≤ u ∧ u ≤ 30000 ∧ l.length ≤ 1000
  · rw [if_pos hg] at h
    have h := Option.some.inj h
    have HN := Aside0.mk hg
    have HT3 := Aside0.mk h3
    have HV := Aside0.mk h
    clear h h3 hg
    go_enter Try.func7, Try.ntmps7
    go_wp2_with (first | (go_at_call 14; refine (HK1.out _ _ (by repeat (first | (with_reducible first | exact HB.out | apply below_alloc | apply pw_below_drewN | apply below_drew1) | exact HB.out)) HT1.out).mono ?_; rintro e w3 ⟨rfl, hb⟩; have n0_ := Aside0.mk (below_step (by repeat (first | (with_reducible first | exact HB.out | apply below_alloc | apply pw_below_drewN | apply below_drew1) | exact HB.out)) hb); clear HB hb; have HB := n0_; clear n0_) | (go_at_call 15; refine (impl_in.calls _ _ _ _ _ HT2.out).mono ?_; rintro e w4 ⟨rfl, ⟨nd4, rfl⟩⟩) | (go_at_call 16; refine (HK3.out _ (by repeat (first | (with_reducible first | exact HB.out | apply below_alloc | apply pw_below_drewN | apply below_drew1) | exact HB.out))).mono ?_; rw [HT3.out]; rintro e w5 ⟨rfl, hb⟩; have n0_ := Aside0.mk (below_step (by repeat (first | (with_reducible first | exact HB.out | apply below_alloc | apply pw_below_drewN | apply below_drew1) | exact HB.out)) hb); clear HB hb; have HB := n0_; clear n0_) | ((with_reducible refine gate_dst (N := 28) rfl ?_); refine Rw.make Rw.I 0 rfl (N := 28) rfl rfl 30001 rfl rfl Try.underlying40 8 impl_RestCode.i3 rfl (by omega) (by omega) ?_; intro gw hg w6 hrow hb; have Ggw := Aside0.mk (show w.heap.size ≤ gw by rw [hg]; exact below_size (by repeat (first | (with_reducible first | exact HB.out | apply below_alloc | apply pw_below_drewN | apply below_drew1) | exact HB.out))); have n0_ := Aside0.mk (below_step (by repeat (first | (with_reducible first | exact HB.out | apply below_alloc | apply pw_below_drewN | apply below_drew1) | exact HB.out)) hb); clear HB ; have HB := n0_; clear n0_; have RW := Aside0.mk hrow; clear hrow hg hb) | ((with_reducible refine gate_dst (N := 29) rfl ?_); refine Rw.make Rw.B false rfl (N := 29) rfl rfl 30000 rfl rfl Try.underlying41 1 impl_RestCode.i4 rfl (by omega) (by omega) ?_; intro ga hg w7 hrow hb; have Gga := Aside0.mk (show w.heap.size ≤ ga by rw [hg]; exact below_size (by repeat (first | (with_reducible first | exact HB.out | apply below_alloc | apply pw_below_drewN | apply below_drew1) | exact HB.out))); have NEgwga := Aside0.mk (show gw ≠ ga by rw [hg]; exact Nat.ne_of_lt RW.out.lt); have tRW_ := Aside0.mk (RW.out.below hb); clear RW; have RW := tRW_; clear tRW_; have n0_ := Aside0.mk (below_step (by repeat (first | (with_reducible first | exact HB.out | apply below_alloc | apply pw_below_drewN | apply below_drew1) | exact HB.out)) hb); clear HB ; have HB := n0_; clear n0_; have RA := Aside0.mk hrow; clear hrow hg hb))
    have RA2 : Aside0 (Rw.Row Rw.B w7 4 ga (impl_RestCode.row 30000 fun x : Nat => impl_RestCode.at_ (l.take (0 : Int).toNat) (x : Int))) := Aside0.mk (by rw [show (impl_RestCode.row 30000 fun x : Nat => impl_RestCode.at_ (l.take (0 : Int).toNat) (x : Int)) = List.replicate 30000 false from (impl_RestCode.row_const 30000 false).symm]; exact RA.out)
    clear RA
    go_loopg [32] l.length (fun gg v32 wr => ∃ i : Int, v32 = .int .i64 i ∧ Aside0 (0 ≤ i ∧ i ≤ l.length ∧ l.length - i.toNat ≤ gg) ∧ Aside0 (Rw.Row Rw.B wr 4 ga (impl_RestCode.row 30000 fun x : Nat => impl_RestCode.at_ (l.take i.toNat) (x : Int))) ∧ Aside0 (Rw.Row Rw.I wr 3 gw (List.replicate 30001 0)) ∧ Aside0 (Below w.heap.size w wr))
    case atStart => exact ⟨0, rfl, ⟨by omega⟩, RA2, RW, HB⟩
    case round =>
      clear RA2 RW HB
      obtain ⟨i, rfl, HI, RA, RW, HB⟩ := hrel
      by_cases hlt : i < (l.length : Int)
      · have h0 : 0 ≤ i := HI.out.1
        have HLT := Aside0.mk (show i.toNat < l.length ∧ (i + 1).toNat = i.toNat + 1 by omega)
        have hw1 : wrap64 (i + 1) = i + 1 := by unfold wrap64; have := HN.out.2.2.2; omega
        have HW := Aside0.mk hw1
        clear hw1
        obtain ⟨ad, e_, hx0, hx1⟩ := at_T33 HR0.out i h0 hlt
        cases e_
        replace hx0 := pw_cell_below HB.out hx0
        replace hx1 := pw_cell_below HB.out hx1
        have hget : l[i.toNat]'(HLT.out.1) = rd_T33 l i := by simp [rd_T33, List.getD, HLT.out.1]
        have HGET := Aside0.mk hget
        have hmem : rd_T33 l i ∈ l := by rw [← hget]; exact List.getElem_mem _
        have hf0 : 0 ≤ (rd_T33 l i).f0 := by have := List.all_eq_true.1 HN.out.1 _ hmem; simpa using this
        have hf1 : (rd_T33 l i).f1 ≤ 30000 := by
          have h4 := HT3.out
          rw [List.any_eq_false] at h4
          have := h4 _ hmem
          simpa using this
        have HF := Aside0.mk (And.intro hf0 hf1)
        clear hget hmem hf0 hf1
        have hcov : ∀ x, impl_RestCode.cov (rd_T33 l i) x = (decide ((rd_T33 l i).f0 ≤ x) && decide (x < (rd_T33 l i).f1)) := fun _ => rfl
        have HCV := Aside0.mk hcov
        clear hcov
        generalize (rd_T33 l i).f0 = f0 at hx0 HF HCV
        generalize (rd_T33 l i).f1 = f1 at hx1 HF HCV
        have d0 : decide (i < (l.length : Int)) = true := decide_eq_true hlt
        have d1 : decide (0 ≤ i) = true := decide_eq_true h0
        replace h0 := eq_true h0
        replace hlt := eq_true hlt
        go_wp2_with (first | ((with_reducible refine gate_dst (N := 9) rfl ?_); refine box_event ?hg (N := 9) ?hd (cs := #[.int .i64 0, .int .i64 0]) (t := 33) ?hr ?_; (case hd => rfl); (case hg => rfl); (case hr => first | (go_simp; done) | (go_simp; rfl)); intro gd hg w9 hbox hb; have NEgwgd := Aside0.mk (show gw ≠ gd by rw [hg]; exact Nat.ne_of_lt RW.out.lt); have NEgagd := Aside0.mk (show ga ≠ gd by rw [hg]; exact Nat.ne_of_lt RA.out.lt); have GBKD := Aside0.mk (show w.heap.size ≤ gd by rw [hg]; exact below_size (by repeat (first | (with_reducible first | exact HB.out | apply below_alloc | apply pw_below_drewN | apply below_drew1) | exact HB.out))); have BKD := Aside0.mk hbox; have tRW_ := Aside0.mk (RW.out.below hb); clear RW; have RW := tRW_; clear tRW_; have tRA_ := Aside0.mk (RA.out.below hb); clear RA; have RA := tRA_; clear tRA_; have n0_ := Aside0.mk (below_step (by repeat (first | (with_reducible first | exact HB.out | apply below_alloc | apply pw_below_drewN | apply below_drew1) | exact HB.out)) hb); clear HB ; have HB := n0_; clear n0_; clear hb hbox hg; have hcw9BKD_0 : w9.cell? ⟨gd, 0, none⟩ = some (.int .i64 0) := (blk_cell BKD.out 0).trans rfl; have hcw9BKD_1 : w9.cell? ⟨gd, 1, none⟩ = some (.int .i64 0) := (blk_cell BKD.out 1).trans rfl; have hfw9BKD_0 := blk_frozen BKD.out 0; have hfw9BKD_1 := blk_frozen BKD.out 1) | ((with_reducible refine gate_store (t := 33) (p := 9) rfl ?_); refine store_event (t := 33) (p := 9) (v := ?vo_w10) (w1 := ((w9.setCell ⟨gd, 0, none⟩ (.int .i64 f0)).setCell ⟨gd, 1, none⟩ (.int .i64 f1))) ?hg ?ho ?hn ?hr ?_; (case ho => rfl); (case hg => rfl); (case hn => rfl); (case hr => first | (go_simp; done) | (go_simp; rfl)); intro w10 hw; have tRW_ := (RW.out.far (p := ⟨gd, 0, none⟩) NEgwgd.out (.int .i64 f0)).far (p := ⟨gd, 1, none⟩) NEgwgd.out (.int .i64 f1); rw [← hw] at tRW_; have uRW_ := Aside0.mk tRW_; clear RW tRW_; have RW := uRW_; clear uRW_; have tRA_ := (RA.out.far (p := ⟨gd, 0, none⟩) NEgagd.out (.int .i64 f0)).far (p := ⟨gd, 1, none⟩) NEgagd.out (.int .i64 f1); rw [← hw] at tRA_; have uRA_ := Aside0.mk tRA_; clear RA tRA_; have RA := uRA_; clear uRA_; have n0_ : Aside0 (w10.heap[gd]? = some (.cells #[.int .i64 f0, .int .i64 f1] 33 (0, 0))) := Aside0.mk (by rw [hw]; exact (blk_put (cs := #[.int .i64 f0, .int .i64 0]) (cs' := #[.int .i64 f0, .int .i64 f1]) (blk_put (cs := #[.int .i64 0, .int .i64 0]) (cs' := #[.int .i64 f0, .int .i64 0]) BKD.out 0 (.int .i64 f0) rfl) 1 (.int .i64 f1) rfl)); have n1_ : Aside0 (Below w.heap.size w w10) := Aside0.mk (by rw [hw]; exact (below_set (below_set HB.out GBKD.out) GBKD.out)); clear HB BKD  hw; have BKD := n0_; have HB := n1_; clear n0_ n1_; have hcw10BKD_0 : w10.cell? ⟨gd, 0, none⟩ = some (.int .i64 f0) := (blk_cell BKD.out 0).trans rfl; have hcw10BKD_1 : w10.cell? ⟨gd, 1, none⟩ = some (.int .i64 f1) := (blk_cell BKD.out 1).trans rfl; have hfw10BKD_0 := blk_frozen BKD.out 0; have hfw10BKD_1 := blk_frozen BKD.out 1))
        clear hx0 hx1
        have RA2 : Aside0 (Rw.Row Rw.B w10 4 ga (impl_RestCode.row 30000 fun x : Nat => impl_RestCode.at_ (l.take i.toNat) (x : Int) || (decide (f0 ≤ (x : Int)) && decide ((x : Int) < f0)))) := Aside0.mk (by rw [impl_RestCode.row_congr 30000 _ (fun x : Nat => impl_RestCode.at_ (l.take i.toNat) (x : Int)) fun x _ => impl_RestCode.none_ f0 _ _]; exact RA.out)
        clear RA
        go_loopg [10] (f1 - f0).toNat (fun gg v10 wr => ∃ m : Int, v10 = .int .i64 m ∧ Aside0 (f0 ≤ m ∧ (m ≤ f1 ∨ m = f0) ∧ (f1 - m).toNat ≤ gg) ∧ Aside0 (Rw.Row Rw.B wr 4 ga (impl_RestCode.row 30000 fun x : Nat => impl_RestCode.at_ (l.take i.toNat) (x : Int) || (decide (f0 ≤ (x : Int)) && decide ((x : Int) < m)))) ∧ Aside0 (Rw.Row Rw.I wr 3 gw (List.replicate 30001 0)) ∧ Aside0 (wr.heap[gd]? = some (.cells #[.int .i64 f0, .int .i64 f1] 33 (0, 0))) ∧ Aside0 (Below w.heap.size w wr))
        case atStart => exact ⟨f0, rfl, ⟨Int.le_refl _, .inr rfl, Nat.le_refl _⟩, RA2, RW, BKD, HB⟩
        case round =>
          clear RA2 RW BKD HB
          obtain ⟨m, rfl, HM, RA, RW, BKD, HB⟩ := hrel
          have hcdBKD_0 : wr.cell? ⟨gd, 0, none⟩ = some (.int .i64 f0) := (blk_cell BKD.out 0).trans rfl; have hcdBKD_1 : wr.cell? ⟨gd, 1, none⟩ = some (.int .i64 f1) := (blk_cell BKD.out 1).trans rfl; have hfdBKD_0 := blk_frozen BKD.out 0; have hfdBKD_1 := blk_frozen BKD.out 1
          by_cases hml : m < f1
          · have hm0 : 0 ≤ m := by have := HM.out; have := HF.out; omega
            have hm1 : m < 30000 := by have := HF.out; omega
            have HML := Aside0.mk (And.intro hm0 (And.intro hm1 hml))
            have hw2 : wrap64 (m + 1) = m + 1 := by unfold wrap64; omega
            have HW2 := Aside0.mk hw2
            clear hw2
            have hcx := RA.out.rdB m hm0 (by rw [impl_RestCode.row_len]; omega)
            have hfx := RA.out.frozen m.toNat
            have e0 : decide (m < f1) = true := decide_eq_true hml
            have e1 : decide (0 ≤ m) = true := decide_eq_true hm0
            have e2 : decide (m < 30000) = true := decide_eq_true hm1
            replace hm0 := eq_true hm0
            replace hm1 := eq_true hm1
            replace hml := eq_true hml
            go_wp2
            go_roundg (f1 - (m + 1)).toNat
            case measure => have := HM.out; have := HML.out; omega
            case rel =>
              refine ⟨m + 1, (by first | rfl | (rw [HW2.out]) | (simp [HW2.out])), ⟨by have := HM.out; have := HML.out; omega⟩, ⟨?_⟩, ⟨RW.out.far (p := ⟨ga, m.toNat, none⟩) NEgwga.out _⟩, ⟨blk_far BKD.out (p := ⟨ga, m.toNat, none⟩) (fun e => NEgagd.out e.symm) _⟩, ⟨below_set HB.out Gga.out⟩⟩
              have h5 := RA.out.set m.toNat true
              rw [impl_RestCode.row_set 30000 _ (fun x : Nat => impl_RestCode.at_ (l.take i.toNat) (x : Int) || (decide (f0 ≤ (x : Int)) && decide ((x : Int) < m + 1))) m.toNat true fun x hx => ?_] at h5
              · exact h5
              · have h6 := HML.out
                have h7 := HM.out
                by_cases c : x = m.toNat
                · rw [if_pos c, decide_eq_true (show f0 ≤ (x : Int) by omega), decide_eq_true (show (x : Int) < m + 1 by omega)]; simp
                · rw [if_neg c]
                  congr 2
                  rw [decide_eq_decide]; omega
          · have e0 : decide (m < f1) = false := decide_eq_false hml
            have HML := Aside0.mk hml
            clear hml
            go_wp2
            go_roundg (l.length - (i + 1).toNat)
            case measure => have := HI.out; have := HLT.out; omega
            case rel =>
              refine ⟨i + 1, (by first | rfl | (rw [HW.out]) | (simp [HW.out])), ⟨by have := HI.out; have := HLT.out; omega⟩, ⟨?_⟩, RW, HB⟩
              rw [HLT.out.2, impl_RestCode.row_congr 30000 _ (fun x : Nat => impl_RestCode.at_ (l.take i.toNat) (x : Int) || (decide (f0 ≤ (x : Int)) && decide ((x : Int) < m))) fun x _ => ?_]
              · exact RA.out
              · rw [impl_RestCode.at_take l i.toNat HLT.out.1, HGET.out, HCV.out]
                have h6 := HML.out
                have h7 := HM.out
                by_cases c : f0 ≤ (x : Int)
                · have : ((x : Int) < f1) = ((x : Int) < m) := by rw [eq_iff_iff]; omega
                  simp only [this]
                · rw [decide_eq_false c]; simp
      · have hii : i.toNat = l.length := by have := HI.out; omega
        have d0 : decide (i < (l.length : Int)) = false := decide_eq_false hlt
        have RA2 : Aside0 (Rw.Row Rw.B wr 4 ga (impl_RestCode.row 30000 fun x : Nat => impl_RestCode.at_ l (x : Int))) := Aside0.mk (by have h1 := RA.out; rw [hii, List.take_length] at h1; exact h1)
        clear RA hlt hii
        rename Aside0 (Rw.Row Rw.B wr 4 ga (impl_RestCode.row 30000 fun x : Nat => impl_RestCode.at_ l (x : Int))) => RA
        go_wp2_with (first | ((with_reducible refine gate_dst (N := 48) rfl ?_); refine Rw.make Rw.I 0 rfl (N := 48) rfl rfl 30001 rfl rfl Try.underlying40 8 impl_RestCode.i3 rfl (by omega) (by omega) ?_; intro gf hg w8 hrow hb; have Ggf := Aside0.mk (show w.heap.size ≤ gf by rw [hg]; exact below_size (by repeat (first | (with_reducible first | exact HB.out | apply below_alloc | apply pw_below_drewN | apply below_drew1) | exact HB.out))); have NEgwgf := Aside0.mk (show gw ≠ gf by rw [hg]; exact Nat.ne_of_lt RW.out.lt); have NEgagf := Aside0.mk (show ga ≠ gf by rw [hg]; exact Nat.ne_of_lt RA.out.lt); have tRW_ := Aside0.mk (RW.out.below hb); clear RW; have RW := tRW_; clear tRW_; have tRA_ := Aside0.mk (RA.out.below hb); clear RA; have RA := tRA_; clear tRA_; have n0_ := Aside0.mk (below_step (by repeat (first | (with_reducible first | exact HB.out | apply below_alloc | apply pw_below_drewN | apply below_drew1) | exact HB.out)) hb); clear HB ; have HB := n0_; clear n0_; have RF := Aside0.mk hrow; clear hrow hg hb))
        have RW2 : Aside0 (Rw.Row Rw.I w8 3 gw (impl_RestCode.row 30001 fun j : Nat => if j ≤ (0 : Int).toNat then impl_RestCode.W l j else 0)) := Aside0.mk (by rw [impl_RestCode.row_congr 30001 _ (fun _ => (0 : Int)) fun j _ => impl_RestCode.start_ (impl_RestCode.W l) rfl j, ← impl_RestCode.row_const]; exact RW.out)
        have RF2 : Aside0 (Rw.Row Rw.I w8 3 gf (impl_RestCode.row 30001 fun j : Nat => if j ≤ (0 : Int).toNat then impl_RestCode.Fr l j else 0)) := Aside0.mk (by rw [impl_RestCode.row_congr 30001 _ (fun _ => (0 : Int)) fun j _ => impl_RestCode.start_ (impl_RestCode.Fr l) rfl j, ← impl_RestCode.row_const]; exact RF.out)
        clear RW RF
        go_loopg [49] 30000 (fun gg v49 wr => ∃ m : Int, v49 = .int .i64 m ∧ Aside0 (0 ≤ m ∧ m ≤ 30000 ∧ 30000 - m.toNat ≤ gg) ∧ Aside0 (Rw.Row Rw.I wr 3 gw (impl_RestCode.row 30001 fun j : Nat => if j ≤ m.toNat then impl_RestCode.W l j else 0)) ∧ Aside0 (Rw.Row Rw.I wr 3 gf (impl_RestCode.row 30001 fun j : Nat => if j ≤ m.toNat then impl_RestCode.Fr l j else 0)) ∧ Aside0 (Rw.Row Rw.B wr 4 ga (impl_RestCode.row 30000 fun x : Nat => impl_RestCode.at_ l (x : Int))) ∧ Aside0 (Below w.heap.size w wr))
        case atStart => exact ⟨0, rfl, ⟨by omega⟩, RW2, RF2, RA, HB⟩
        case round =>
          clear RW2 RF2 RA HB
          obtain ⟨m, rfl, HM, RW, RF, RA, HB⟩ := hrel
          by_cases hlt : m < 30000
          · have h0 : 0 ≤ m := HM.out.1
            have HML := Aside0.mk (And.intro h0 hlt)
            have hcw := RW.out.rd m h0 (by rw [impl_RestCode.row_len]; omega)
            have hcf := RF.out.rd m h0 (by rw [impl_RestCode.row_len]; omega)
            have hcw1 := RW.out.rd (m + 1) (by omega) (by rw [impl_RestCode.row_len]; omega)
            have hcf1 := RF.out.rd (m + 1) (by omega) (by rw [impl_RestCode.row_len]; omega)
            rw [impl_RestCode.rd_row 30001 _ m h0 (by omega), if_pos (Nat.le_refl _)] at hcw hcf
            have hfw1 := RW.out.frozen (m + 1).toNat
            have hff1 := RF.out.frozen (m + 1).toNat
            have hW := Aside0.mk (show impl_RestCode.W l (m.toNat + 1) = if impl_RestCode.at_ l (m.toNat : Int) = true then wrap64 (impl_RestCode.W l m.toNat + 1) else impl_RestCode.W l m.toNat from rfl)
            have hF := Aside0.mk (show impl_RestCode.Fr l (m.toNat + 1) = if impl_RestCode.at_ l (m.toNat : Int) = true then 0 else wrap64 (impl_RestCode.Fr l m.toNat + 1) from rfl)
            have HWE : Aside0 (impl_RestCode.W l m.toNat = impl_RestCode.W l m.toNat) := ⟨rfl⟩
            generalize hwv : impl_RestCode.W l m.toNat = wv at hcw hW HWE
            have HWV := Aside0.mk hwv
            clear hwv HWE
            generalize impl_RestCode.Fr l m.toNat = fv at hcf hF
            generalize rd (impl_RestCode.row 30001 fun j : Nat => if j ≤ m.toNat then impl_RestCode.W l j else 0) (m + 1) = z1 at hcw1
            generalize rd (impl_RestCode.row 30001 fun j : Nat => if j ≤ m.toNat then impl_RestCode.Fr l j else 0) (m + 1) = z2 at hcf1
            have hw1 : wrap64 (m + 1) = m + 1 := by unfold wrap64; omega
            have HW := Aside0.mk hw1
            have ra : IntKind.i64.wrap (m + 1) = m + 1 := by rw [IntKind.wrap_i64]; omega
            obtain ⟨iN, hiN⟩ : ∃ q, q = (m + 1).toNat := ⟨_, rfl⟩
            have ea : (m + 1).toNat = iN := hiN.symm
            have HIN := Aside0.mk hiN
            rw [ea] at hcw1 hcf1 hfw1 hff1
            have pa : (0 : Int) ≤ m + 1 := by omega
            have ba : m + 1 < 30001 := by omega
            have bb : m < 30001 := by omega
            have hne : ¬ gw = gf := NEgwgf.out
            have hne' : ¬ gf = gw := fun e => NEgwgf.out e.symm
            clear hiN
            have d0 : decide (m < 30000) = true := decide_eq_true hlt
            go_upto_region 17 with (fail)
            go_region
            have RW2 : Aside0 (Rw.Row Rw.I ((wr.setCell ⟨gw, iN, none⟩ (.int .i64 wv)).setCell ⟨gf, iN, none⟩ (.int .i64 (wrap64 (fv + 1)))).drew 3 gw _) := ⟨(RW.out.set iN wv).far (p := ⟨gf, iN, none⟩) hne (.int .i64 (wrap64 (fv + 1)))⟩
            have RF2 : Aside0 (Rw.Row Rw.I ((wr.setCell ⟨gw, iN, none⟩ (.int .i64 wv)).setCell ⟨gf, iN, none⟩ (.int .i64 (wrap64 (fv + 1)))).drew 3 gf _) := ⟨(RF.out.far (p := ⟨gw, iN, none⟩) hne' (.int .i64 wv)).set iN (wrap64 (fv + 1))⟩
            have RA2 : Aside0 (Rw.Row Rw.B ((wr.setCell ⟨gw, iN, none⟩ (.int .i64 wv)).setCell ⟨gf, iN, none⟩ (.int .i64 (wrap64 (fv + 1)))).drew 4 ga _) := ⟨(RA.out.far (p := ⟨gw, iN, none⟩) (fun e => NEgwga.out e.symm) (.int .i64 wv)).far (p := ⟨gf, iN, none⟩) NEgagf.out (.int .i64 (wrap64 (fv + 1)))⟩
            have HB2 : Aside0 (Below w.heap.size w ((wr.setCell ⟨gw, iN, none⟩ (.int .i64 wv)).setCell ⟨gf, iN, none⟩ (.int .i64 (wrap64 (fv + 1)))).drew) := ⟨below_drew (below_set (below_set HB.out Ggw.out) Ggf.out)⟩
            clear RW RF RA HB hcw hcf hcw1 hcf1 hfw1 hff1
            generalize ((wr.setCell ⟨gw, iN, none⟩ (.int .i64 wv)).setCell ⟨gf, iN, none⟩ (.int .i64 (wrap64 (fv + 1)))).drew = w9 at RW2 RF2 RA2 HB2 ⊢
            have hca := RA2.out.rdB m h0 (by rw [impl_RestCode.row_len]; omega)
            rw [impl_RestCode.row_get 30000 _ m.toNat false (by omega)] at hca
            have hIm : iN = m.toNat + 1 := by have := HIN.out; omega
            have HIM := Aside0.mk hIm
            have hcw := RW2.out.rd m h0 (by rw [List.length_set, impl_RestCode.row_len]; omega)
            rw [impl_RestCode.rd_set_ne _ _ _ _ (by omega), impl_RestCode.rd_row 30001 _ m h0 (by omega), if_pos (Nat.le_refl _)] at hcw
            rw [HWV.out] at hcw
            have hcw1 := RW2.out.rd (m + 1) (by omega) (by rw [List.length_set, impl_RestCode.row_len]; omega)
            have hcf1 := RF2.out.rd (m + 1) (by omega) (by rw [List.length_set, impl_RestCode.row_len]; omega)
            have hfw1 := RW2.out.frozen (m + 1).toNat
            have hff1 := RF2.out.frozen (m + 1).toNat
            rw [ea] at hcw1 hcf1 hfw1 hff1
            generalize rd ((impl_RestCode.row 30001 fun j : Nat => if j ≤ m.toNat then impl_RestCode.W l j else 0).set iN wv) (m + 1) = z1 at hcw1
            generalize rd ((impl_RestCode.row 30001 fun j : Nat => if j ≤ m.toNat then impl_RestCode.Fr l j else 0).set iN (wrap64 (fv + 1))) (m + 1) = z2 at hcf1
            clear hIm
            have d1 : decide (0 ≤ m) = true := decide_eq_true h0
            have pa1 := eq_true pa
            have ba1 := eq_true ba
            replace h0 := eq_true h0
            cases hat : impl_RestCode.at_ l (m.toNat : Int) with
            | true =>
              have hWt := hW.out
              have hFt := hF.out
              rw [hat, if_pos rfl] at hWt hFt
              rw [hat] at hca
              have HWT := Aside0.mk hWt
              have HFT := Aside0.mk hFt
              clear hat hWt hFt hW hF
              go_wp2
              go_roundg (30000 - (m + 1).toNat)
              case measure => have := HM.out; have := HML.out; omega
              case rel =>
                refine ⟨m + 1, (by first | rfl | (rw [HW.out]) | (simp [HW.out])), ⟨by have := HM.out; have := HML.out; omega⟩, ⟨?_⟩, ⟨?_⟩, ⟨(RA2.out.far (p := ⟨gw, iN, none⟩) (fun e => NEgwga.out e.symm) _).far (p := ⟨gf, iN, none⟩) NEgagf.out _⟩, ⟨below_set (below_set HB2.out Ggw.out) Ggf.out⟩⟩
                · have h5 := (RW2.out.set iN (wrap64 (wv + 1))).far (p := ⟨gf, iN, none⟩) hne (.int .i64 0)
                  rw [List.set_set] at h5
                  have h6 := impl_RestCode.step_ 30001 (impl_RestCode.W l) m.toNat
                  rw [HWT.out, ← HIM.out] at h6
                  rw [h6] at h5
                  rw [← HIN.out]
                  exact h5
                · have h5 := (RF2.out.far (p := ⟨gw, iN, none⟩) hne' (.int .i64 (wrap64 (wv + 1)))).set iN 0
                  rw [List.set_set] at h5
                  have h6 := impl_RestCode.step_ 30001 (impl_RestCode.Fr l) m.toNat
                  rw [HFT.out, ← HIM.out] at h6
                  rw [h6] at h5
                  rw [← HIN.out]
                  exact h5
            | false =>
              have hWt := hW.out
              have hFt := hF.out
              rw [hat, if_neg (by decide)] at hWt hFt
              rw [hat] at hca
              have HWT := Aside0.mk hWt
              have HFT := Aside0.mk hFt
              clear hat hWt hFt hW hF
              go_wp2
              go_roundg (30000 - (m + 1).toNat)
              case measure => have := HM.out; have := HML.out; omega
              case rel =>
                refine ⟨m + 1, (by first | rfl | (rw [HW.out]) | (simp [HW.out])), ⟨by have := HM.out; have := HML.out; omega⟩, ⟨?_⟩, ⟨?_⟩, RA2, HB2⟩
                · have h5 := RW2.out
                  have h6 := impl_RestCode.step_ 30001 (impl_RestCode.W l) m.toNat
                  rw [HWT.out, ← HIM.out] at h6
                  rw [h6] at h5
                  rw [← HIN.out]
                  exact h5
                · have h5 := RF2.out
                  have h6 := impl_RestCode.step_ 30001 (impl_RestCode.Fr l) m.toNat
                  rw [HFT.out, ← HIM.out] at h6
                  rw [h6] at h5
                  rw [← HIN.out]
                  exact h5
          · have d0 : decide (m < 30000) = false := decide_eq_false hlt
            have hmm : m.toNat = 30000 := by have := HM.out; omega
            have RW2 : Aside0 (Rw.Row Rw.I wr 3 gw (impl_RestCode.row 30001 (impl_RestCode.W l))) := Aside0.mk (by
              have h1 := RW.out
              rw [hmm, impl_RestCode.row_congr 30001 _ (impl_RestCode.W l) fun j hj => if_pos (by omega)] at h1
              exact h1)
            have RF2 : Aside0 (Rw.Row Rw.I wr 3 gf (impl_RestCode.row 30001 (impl_RestCode.Fr l))) := Aside0.mk (by
              have h1 := RF.out
              rw [hmm, impl_RestCode.row_congr 30001 _ (impl_RestCode.Fr l) fun j hj => if_pos (by omega)] at h1
              exact h1)
            clear RW RF RA hlt hmm
            go_wp2
            go_loopg [13] (u + 1 - 1440).toNat (fun gg v13 wr => ∃ t : Int, v13 = .int .i64 t ∧ Aside0 (1440 ≤ t ∧ (t ≤ u + 1 ∨ t = 1440) ∧ (u + 1 - t).toNat ≤ gg) ∧ Aside0 (impl_RestCode.days l (u + 1 - t).toNat t = (r1, r2)) ∧ Aside0 (Rw.Row Rw.I wr 3 gw (impl_RestCode.row 30001 (impl_RestCode.W l))) ∧ Aside0 (Rw.Row Rw.I wr 3 gf (impl_RestCode.row 30001 (impl_RestCode.Fr l))) ∧ Aside0 (Below w.heap.size w wr))
            case atStart => exact ⟨1440, rfl, ⟨by omega⟩, HV, RW2, RF2, HB⟩
            case round =>
              clear RW2 RF2 HB HV
              obtain ⟨t, rfl, HT, HV, RW, RF, HB⟩ := hrel
              by_cases htu : t ≤ u
              · have hd : (u + 1 - t).toNat = (u + 1 - (t + 1)).toNat + 1 := by omega
                have HTU := Aside0.mk (And.intro htu hd)
                have hv := HV.out
                rw [hd, impl_RestCode.days] at hv
                clear hd HV
                have HTB := Aside0.mk (show 1440 ≤ t ∧ t ≤ 30000 by have := HT.out; have := HN.out; omega)
                have ht0 := HTB.out.1
                have ht1 := HTB.out.2
                have hc1 := RW.out.rd t (by omega) (by rw [impl_RestCode.row_len]; omega)
                have hc2 := RW.out.rd (t - 1440) (by omega) (by rw [impl_RestCode.row_len]; omega)
                rw [impl_RestCode.rd_row 30001 _ t (by omega) (by omega)] at hc1
                rw [impl_RestCode.rd_row 30001 _ (t - 1440) (by omega) (by omega)] at hc2
                generalize hqa : impl_RestCode.W l t.toNat = wa at hc1 hv
                generalize hqb : impl_RestCode.W l (t - 1440).toNat = wb at hc2 hv
                clear hqa hqb
                have ra : IntKind.i64.wrap (t - 1440) = t - 1440 := by rw [IntKind.wrap_i64]; omega
                have rs : IntKind.i64.wrap (wa - wb) = wrap64 (wa - wb) := IntWalk.i64_left _
                have pa : (0 : Int) ≤ t - 1440 := by omega
                have ba : t - 1440 < 30001 := by omega
                have p0 : (0 : Int) ≤ t := by omega
                have b0 : t < 30001 := by omega
                have e0 : decide (t ≤ u) = true := decide_eq_true htu
                clear htu ht1
                by_cases c1 : wrap64 (wa - wb) > 840
                · rw [if_pos c1] at hv
                  obtain ⟨rfl, rfl⟩ := Prod.mk.inj hv
                  have f0 : decide (wrap64 (wa - wb) > 840) = true := decide_eq_true c1
                  have f1 : decide (840 < wrap64 (wa - wb)) = true := decide_eq_true c1
                  clear hv
                  go_wp2
                  repeat (go_quiet (fail); try go_wp2)
                  go_ret2
                  exact ⟨by first | rfl | (simp; done) | (simp [*]; done), (by repeat (first | (with_reducible first | exact HB.out | apply below_alloc | apply pw_below_drewN | apply below_drew1) | exact HB.out))⟩
                · rw [if_neg c1] at hv
                  have f0 : decide (wrap64 (wa - wb) > 840) = false := decide_eq_false c1
                  have f1 : decide (840 < wrap64 (wa - wb)) = false := decide_eq_false c1
                  by_cases c2 : t ≥ 10080
                  · have hc3 := RW.out.rd (t - 10080) (by omega) (by rw [impl_RestCode.row_len]; omega)
                    rw [impl_RestCode.rd_row 30001 _ (t - 10080) (by omega) (by omega)] at hc3
                    generalize hqb : impl_RestCode.W l (t - 10080).toNat = wc at hc3 hv
                    clear hqb
                    have ra3 : IntKind.i64.wrap (t - 10080) = t - 10080 := by rw [IntKind.wrap_i64]; omega
                    have rs3 : IntKind.i64.wrap (wa - wc) = wrap64 (wa - wc) := IntWalk.i64_left _
                    have pa3 : (0 : Int) ≤ t - 10080 := by omega
                    have ba3 : t - 10080 < 30001 := by omega
                    have g0 : decide (t ≥ 10080) = true := decide_eq_true c2
                    have g1 : decide (10080 ≤ t) = true := decide_eq_true c2
                    by_cases c3 : wrap64 (wa - wc) > 5460
                    · rw [if_pos ⟨c2, c3⟩] at hv
                      obtain ⟨rfl, rfl⟩ := Prod.mk.inj hv
                      have f2 : decide (wrap64 (wa - wc) > 5460) = true := decide_eq_true c3
                      have f3 : decide (5460 < wrap64 (wa - wc)) = true := decide_eq_true c3
                      clear hv
                      go_wp2
                      repeat (go_quiet (fail); try go_wp2)
                      go_ret2
                      exact ⟨by first | rfl | (simp; done) | (simp [*]; done), (by repeat (first | (with_reducible first | exact HB.out | apply below_alloc | apply pw_below_drewN | apply below_drew1) | exact HB.out))⟩
                    · rw [if_neg (fun h => c3 h.2)] at hv
                      have f2 : decide (wrap64 (wa - wc) > 5460) = false := decide_eq_false c3
                      have f3 : decide (5460 < wrap64 (wa - wc)) = false := decide_eq_false c3
                      have HVV := Aside0.mk hv
                      clear hv
                      go_wp2
                      repeat (go_quiet (fail); try go_wp2)
                      clear hc1 hc2 hc3 ra rs pa ba ra3 rs3 pa3 ba3 f0 f1 f2 f3 g0 g1 c1 c2 c3 p0 b0
                      go_loopg [14, 15] 1081 (fun gg v14 v15 wr => ∃ (b : Bool) (m : Int), v14 = .bool b ∧ v15 = .int .i64 m ∧ Aside0 (t - 1080 ≤ m ∧ m ≤ t + 1 ∧ (t + 1 - m).toNat ≤ gg) ∧ Aside0 (b = (List.range (m - (t - 1080)).toNat).any fun d => decide (impl_RestCode.Fr l ((t - 1080).toNat + d) ≥ 360)) ∧ Aside0 (Rw.Row Rw.I wr 3 gw (impl_RestCode.row 30001 (impl_RestCode.W l))) ∧ Aside0 (Rw.Row Rw.I wr 3 gf (impl_RestCode.row 30001 (impl_RestCode.Fr l))) ∧ Aside0 (Below w.heap.size w wr))
                      case atStart => exact ⟨false, t - 1080, rfl, (by first | rfl | (congr 1; have := HTB.out; omega) | (congr 1; have := HTB.out; unfold wrap64; omega)), ⟨by omega⟩, ⟨by rw [Int.sub_self]; rfl⟩, RW, RF, ⟨(by repeat (first | (with_reducible first | exact HB.out | apply below_alloc | apply pw_below_drewN | apply below_drew1) | exact HB.out))⟩⟩
                      case round =>
                        clear RW RF HB
                        obtain ⟨b, m, rfl, rfl, HM, HBB, RW, RF, HB⟩ := hrel
                        by_cases hmt : m ≤ t
                        · have h1 : decide (m ≤ t) = true := decide_eq_true hmt
                          cases b with
                          | true =>
                            have hr : impl_RestCode.rests l t = true := by
                              obtain ⟨d, hd, hf⟩ := List.any_eq_true.1 HBB.out.symm
                              rw [List.mem_range] at hd
                              exact List.any_eq_true.2 ⟨d, List.mem_range.2 (by have := HM.out; omega), hf⟩
                            have hv := HVV.out
                            rw [if_pos hr] at hv
                            have HV := Aside0.mk hv
                            clear hv hr hmt
                            go_wp2
                            go_roundg (u + 1 - (t + 1)).toNat
                            case measure => have := HT.out; have := HTU.out; omega
                            case rel => exact ⟨t + 1, (by first | rfl | (congr 1; have := HTB.out; omega) | (congr 1; have := HTB.out; unfold wrap64; omega)), ⟨by have := HTB.out; have := HTU.out; omega⟩, HV, RW, RF, HB⟩
                          | false =>
                            have hm0 : 0 ≤ m := by have := HTB.out; have := HM.out; omega
                            have hcf := RF.out.rd m hm0 (by rw [impl_RestCode.row_len]; have := HTB.out; omega)
                            rw [impl_RestCode.rd_row 30001 _ m hm0 (by have := HTB.out; omega)] at hcf
                            have hst : ((List.range (m + 1 - (t - 1080)).toNat).any fun d => decide (impl_RestCode.Fr l ((t - 1080).toNat + d) ≥ 360)) = decide (impl_RestCode.Fr l m.toNat ≥ 360) := by
                              have hb := HBB.out
                              rw [show (m + 1 - (t - 1080)).toNat = (m - (t - 1080)).toNat + 1 by have := HM.out; omega, List.range_succ, List.any_append, ← hb]
                              have := HTB.out
                              have := HM.out
                              simp only [List.any_cons, List.any_nil, Bool.or_false, Bool.false_or]
                              rw [show (t - 1080).toNat + (m - (t - 1080)).toNat = m.toNat by omega]
                            have HST := Aside0.mk hst
                            generalize impl_RestCode.Fr l m.toNat = fv at hcf HST
                            have p0 : (0 : Int) ≤ m := hm0
                            have b0 : m < 30001 := by have := HTB.out; omega
                            have HMT := Aside0.mk hmt
                            clear hst hmt hm0
                            go_wp2
                            go_roundg (t + 1 - (m + 1)).toNat
                            case measure => have := HM.out; have := HMT.out; omega
                            case rel => exact ⟨decide (fv ≥ 360), m + 1, rfl, (by first | rfl | (congr 1; have := HTB.out; have := HMT.out; have := HM.out; omega) | (congr 1; have := HTB.out; have := HMT.out; have := HM.out; unfold wrap64; omega)), ⟨by have := HM.out; have := HMT.out; omega⟩, ⟨HST.out.symm⟩, RW, RF, HB⟩
                        · have h1 : decide (m ≤ t) = false := decide_eq_false hmt
                          have hr : impl_RestCode.rests l t = b := by
                            rw [HBB.out, show (m - (t - 1080)).toNat = 1081 by have := HM.out; omega]
                            rfl
                          have hv := HVV.out
                          rw [hr] at hv
                          clear hmt hr
                          cases b with
                          | true =>
                            rw [if_pos rfl] at hv
                            have HV := Aside0.mk hv
                            clear hv
                            go_wp2
                            go_roundg (u + 1 - (t + 1)).toNat
                            case measure => have := HT.out; have := HTU.out; omega
                            case rel => exact ⟨t + 1, (by first | rfl | (congr 1; have := HTB.out; omega) | (congr 1; have := HTB.out; unfold wrap64; omega)), ⟨by have := HTB.out; have := HTU.out; omega⟩, HV, RW, RF, HB⟩
                          | false =>
                            rw [if_neg (by decide)] at hv
                            obtain ⟨rfl, rfl⟩ := Prod.mk.inj hv
                            clear hv
                            go_wp2
                            go_ret2
                            exact ⟨by first | rfl | (simp; done) | (simp [*]; done), (by repeat (first | (with_reducible first | exact HB.out | apply below_alloc | apply pw_below_drewN | apply below_drew1) | exact HB.out))⟩
                  · rw [if_neg (fun h => c2 h.1)] at hv
                    have g0 : decide (t ≥ 10080) = false := decide_eq_false c2
                    have g1 : decide (10080 ≤ t) = false := decide_eq_false c2
                    have HVV := Aside0.mk hv
                    clear hv
                    go_wp2
                    repeat (go_quiet (fail); try go_wp2)
                    clear hc1 hc2 ra rs pa ba f0 f1 g0 g1 c1 c2 p0 b0
                    go_loopg [14, 15] 1081 (fun gg v14 v15 wr => ∃ (b : Bool) (m : Int), v14 = .bool b ∧ v15 = .int .i64 m ∧ Aside0 (t - 1080 ≤ m ∧ m ≤ t + 1 ∧ (t + 1 - m).toNat ≤ gg) ∧ Aside0 (b = (List.range (m - (t - 1080)).toNat).any fun d => decide (impl_RestCode.Fr l ((t - 1080).toNat + d) ≥ 360)) ∧ Aside0 (Rw.Row Rw.I wr 3 gw (impl_RestCode.row 30001 (impl_RestCode.W l))) ∧ Aside0 (Rw.Row Rw.I wr 3 gf (impl_RestCode.row 30001 (impl_RestCode.Fr l))) ∧ Aside0 (Below w.heap.size w wr))
                    case atStart => exact ⟨false, t - 1080, rfl, (by first | rfl | (congr 1; have := HTB.out; omega) | (congr 1; have := HTB.out; unfold wrap64; omega)), ⟨by omega⟩, ⟨by rw [Int.sub_self]; rfl⟩, RW, RF, ⟨(by repeat (first | (with_reducible first | exact HB.out | apply below_alloc | apply pw_below_drewN | apply below_drew1) | exact HB.out))⟩⟩
                    case round =>
                      clear RW RF HB
                      obtain ⟨b, m, rfl, rfl, HM, HBB, RW, RF, HB⟩ := hrel
                      by_cases hmt : m ≤ t
                      · have h1 : decide (m ≤ t) = true := decide_eq_true hmt
                        cases b with
                        | true =>
                          have hr : impl_RestCode.rests l t = true := by
                            obtain ⟨d, hd, hf⟩ := List.any_eq_true.1 HBB.out.symm
                            rw [List.mem_range] at hd
                            exact List.any_eq_true.2 ⟨d, List.mem_range.2 (by have := HM.out; omega), hf⟩
                          have hv := HVV.out
                          rw [if_pos hr] at hv
                          have HV := Aside0.mk hv
                          clear hv hr hmt
                          go_wp2
                          go_roundg (u + 1 - (t + 1)).toNat
                          case measure => have := HT.out; have := HTU.out; omega
                          case rel => exact ⟨t + 1, (by first | rfl | (congr 1; have := HTB.out; omega) | (congr 1; have := HTB.out; unfold wrap64; omega)), ⟨by have := HTB.out; have := HTU.out; omega⟩, HV, RW, RF, HB⟩
                        | false =>
                          have hm0 : 0 ≤ m := by have := HTB.out; have := HM.out; omega
                          have hcf := RF.out.rd m hm0 (by rw [impl_RestCode.row_len]; have := HTB.out; omega)
                          rw [impl_RestCode.rd_row 30001 _ m hm0 (by have := HTB.out; omega)] at hcf
                          have hst : ((List.range (m + 1 - (t - 1080)).toNat).any fun d => decide (impl_RestCode.Fr l ((t - 1080).toNat + d) ≥ 360)) = decide (impl_RestCode.Fr l m.toNat ≥ 360) := by
                            have hb := HBB.out
                            rw [show (m + 1 - (t - 1080)).toNat = (m - (t - 1080)).toNat + 1 by have := HM.out; omega, List.range_succ, List.any_append, ← hb]
                            have := HTB.out
                            have := HM.out
                            simp only [List.any_cons, List.any_nil, Bool.or_false, Bool.false_or]
                            rw [show (t - 1080).toNat + (m - (t - 1080)).toNat = m.toNat by omega]
                          have HST := Aside0.mk hst
                          generalize impl_RestCode.Fr l m.toNat = fv at hcf HST
                          have p0 : (0 : Int) ≤ m := hm0
                          have b0 : m < 30001 := by have := HTB.out; omega
                          have HMT := Aside0.mk hmt
                          clear hst hmt hm0
                          go_wp2
                          go_roundg (t + 1 - (m + 1)).toNat
                          case measure => have := HM.out; have := HMT.out; omega
                          case rel => exact ⟨decide (fv ≥ 360), m + 1, rfl, (by first | rfl | (congr 1; have := HTB.out; have := HMT.out; have := HM.out; omega) | (congr 1; have := HTB.out; have := HMT.out; have := HM.out; unfold wrap64; omega)), ⟨by have := HM.out; have := HMT.out; omega⟩, ⟨HST.out.symm⟩, RW, RF, HB⟩
                      · have h1 : decide (m ≤ t) = false := decide_eq_false hmt
                        have hr : impl_RestCode.rests l t = b := by
                          rw [HBB.out, show (m - (t - 1080)).toNat = 1081 by have := HM.out; omega]
                          rfl
                        have hv := HVV.out
                        rw [hr] at hv
                        clear hmt hr
                        cases b with
                        | true =>
                          rw [if_pos rfl] at hv
                          have HV := Aside0.mk hv
                          clear hv
                          go_wp2
                          go_roundg (u + 1 - (t + 1)).toNat
                          case measure => have := HT.out; have := HTU.out; omega
                          case rel => exact ⟨t + 1, (by first | rfl | (congr 1; have := HTB.out; omega) | (congr 1; have := HTB.out; unfold wrap64; omega)), ⟨by have := HTB.out; have := HTU.out; omega⟩, HV, RW, RF, HB⟩
                        | false =>
                          rw [if_neg (by decide)] at hv
                          obtain ⟨rfl, rfl⟩ := Prod.mk.inj hv
                          clear hv
                          go_wp2
                          go_ret2
                          exact ⟨by first | rfl | (simp; done) | (simp [*]; done), (by repeat (first | (with_reducible first | exact HB.out | apply below_alloc | apply pw_below_drewN | apply below_drew1) | exact HB.out))⟩
              · have e0 : decide (t ≤ u) = false := decide_eq_false htu
                have hv := HV.out
                rw [show (u + 1 - t).toNat = 0 by omega, impl_RestCode.days] at hv
                obtain ⟨rfl, rfl⟩ := Prod.mk.inj hv
                clear hv HV htu
                go_wp2
                go_ret2
                exact ⟨by first | rfl | (simp; done) | (simp [*]; done), (by repeat (first | (with_reducible first | exact HB.out | apply below_alloc | apply pw_below_drewN | apply below_drew1) | exact HB.out))⟩
  · rw [if_neg hg] at h; cases h


end Go.Proofs.Ythbmpegaogfibac.PA
