/- What Go's functions that the laws reach come to: laid by a program of this session over the print's words. -/
import Derived.Test.YthfkmjbefdmopaaPAx0
import Derived.Test.YthfkmjbefdmopaaPAx1
import Derived.Test.YthfkmjbefdmopaaPAx2
import Derived.Test.YthfkmjbefdmopaaPAx5
import Derived.Test.YthfkmjbefdmopaaPAx6
import Derived.Test.YthfkmjbefdmopaaPAx7
import Derived.Test.YthfkmjbefdmopaaPAx8
namespace Go.Proofs.Ythfkmjbefdmopaa.PA
open Go.RowKit Go.Proofs.YthfkmjbefdmopaaW.PrintWords Go.Proofs.YthfkmjbefdmopaaW.PrintLast Go.Proofs.YthfkmjbefdmopaaW.PrintMore
attribute [local go_sem] max2_int min2_int max_two min_two max_three min_three max_four min_four   -- for this text's walks alone
set_option linter.unusedVariables false
set_option linter.unusedSimpArgs false

attribute [local go_sem high] eqA49
/-! ### spec_l12Fails: function 14 -/
structure spec_l12Fails.BelowW (w : World) where
  W : World
  h : Below w.heap.size w W
instance spec_l12Fails.belowW_inhabited (w : World) : Inhabited (spec_l12Fails.BelowW w) := ⟨⟨w, Below.refl _ _⟩⟩
theorem spec_l12Fails.quietB {P : Program} {id : Nat} {Q : Exit → Act → World → Prop} {a : Act} {w : World} {l : List Oper} (hm : P.follows .mixedOrders = true) (hB : Region.lexB .any l.toArray = true)
    (h : wpQuiet P l.toArray (fun w' => ∃ p : spec_l12Fails.BelowW w, w' = p.W) (fun a' => ∀ w', (∃ p : spec_l12Fails.BelowW w, w' = p.W) → Q .normal a' w') l a) : (Code.region id l.toArray true).wp P Q a w :=
  wp_region_quiet (C := fun w' => ∃ p : spec_l12Fails.BelowW w, w' = p.W) hm hB ⟨⟨w.drew, (Below.refl _ _).drew⟩, rfl⟩ (by simpa using h)
def spec_l12Fails.same (p q : S49) : Bool := p.f0 == q.f0 && (p.f1 == q.f1 && (p.f2 == q.f2))
def spec_l12Fails.twice (x y : S51) : Bool := decide (y.f0.f0.toList = x.f0.f0.toList) || spec_l12Fails.same y.f1 x.f1
def spec_l12Fails.ka (k : Nat) (x y : S51) : Option Bool := spec_KeepsApart.f k y.f0.f0 y.f0.f1 y.f0.f2 y.f0.f3 y.f0.f4 y.f0.f5 y.f1.f0 y.f1.f1 y.f1.f2 x.f0.f0 x.f0.f1 x.f0.f2 x.f0.f3 x.f0.f4 x.f0.f5 x.f1.f0 x.f1.f1 x.f1.f2
def spec_l12Fails.g1 (k : Nat) (x : S51) : Option Bool := (spec_BoxOk.f k x.f0.f0 x.f0.f1 x.f0.f2 x.f0.f3 x.f0.f4 x.f0.f5).bind fun t => some (!t)
def spec_l12Fails.g3 (l0 : List S45) (x : S51) : Option Bool := (spec_l1In.f x.f1.f0 0 (wrap64 ((l0.length : Int) - 1))).bind fun t => if t = true then (if 0 ≤ x.f1.f0 ∧ x.f1.f0 < (l0.length : Int) then (spec_l1In.f x.f1.f1 0 (wrap64 ((rd_T45 l0 x.f1.f0).f0 - 1))).bind fun t2 => (spec_l1In.f x.f1.f2 0 (wrap64 ((rd_T45 l0 x.f1.f0).f1 - 1))).bind fun t3 => some (!t2 || !t3) else none) else some true
def spec_l12Fails.g4 (k : Nat) (l1 : List S51) (x : S51) : Option Bool := (spec_l12At.f k l1 x.f1.f0 x.f1.f1 (wrap64 (x.f1.f2 - 1))).bind fun t => some (decide (0 < x.f1.f2) && decide (t < 0))
def spec_l12Fails.g5 (k : Nat) (l0 : List S45) (l1 : List S51) (x : S51) : Option Bool := (spec_l12Stack.f k l1 x.f1.f0 x.f1.f1).bind fun s => if 0 ≤ x.f1.f0 ∧ x.f1.f0 < (l0.length : Int) then (spec_StackOk.f k s (rd_T45 l0 x.f1.f0).f2).bind fun t => some (!t) else none
def spec_l12Fails.g6 (k : Nat) (l0 : List S45) (l1 : List S51) (x : S51) : Option Bool := (spec_l12Cold.f k l1 x.f1.f0).bind fun t => if 0 ≤ x.f1.f0 ∧ x.f1.f0 < (l0.length : Int) then some (x.f0.f3 && decide (t > (rd_T45 l0 x.f1.f0).f3)) else none
def spec_l12Fails.g7 (k : Nat) (l1 : List S51) (x : S51) (i : Nat) : Option Bool := if (l1.take i).all (fun y => (spec_l12Fails.ka k x y).isSome) = true then some ((l1.take i).any fun y => !(spec_l12Fails.ka k x y == some true)) else none
def spec_l12Fails.g (k : Nat) (l0 : List S45) (l1 : List S51) (x : S51) (i : Nat) (c : Int) : Option Bool := if c = 1 then spec_l12Fails.g1 k x else if c = 2 then some ((l1.take i).any (spec_l12Fails.twice x)) else if c = 3 then spec_l12Fails.g3 l0 x else if c = 4 then spec_l12Fails.g4 k l1 x else if c = 5 then spec_l12Fails.g5 k l0 l1 x else if c = 6 then spec_l12Fails.g6 k l0 l1 x else spec_l12Fails.g7 k l1 x i
def spec_l12Fails.f (k : Nat) (l0 : List (S45)) (l1 : List (S51)) (a2 : Int) (a3 : Int) : Option (Bool) := if 0 ≤ a2 ∧ a2 < (l1.length : Int) then spec_l12Fails.g k l0 l1 (rd_T51 l1 a2) a2.toNat a3 else none
theorem spec_l12Fails.mono7 (k : Nat) (l1 : List S51) (x : S51) (i : Nat) : LeO (spec_l12Fails.g7 k l1 x i) (spec_l12Fails.g7 (k + 1) l1 x i) := by
  intro r h
  unfold spec_l12Fails.g7 at h ⊢
  by_cases ha : (l1.take i).all (fun y => (spec_l12Fails.ka k x y).isSome) = true
  · rw [if_pos ha] at h
    have hs : ∀ y ∈ l1.take i, spec_l12Fails.ka (k + 1) x y = spec_l12Fails.ka k x y := fun y hy => by
      obtain ⟨b, hb⟩ := Option.isSome_iff_exists.1 (List.all_eq_true.1 ha y hy)
      rw [hb]
      exact spec_KeepsApart.mono _ _ _ _ _ _ _ _ _ _ _ _ _ _ _ _ _ _ k b hb
    rw [if_pos (List.all_eq_true.2 fun y hy => by rw [hs y hy]; exact List.all_eq_true.1 ha y hy), ← h]
    congr 1
    exact Gv.any_congr fun y hy => by rw [hs y hy]
  · rw [if_neg ha] at h; cases h
theorem spec_l12Fails.mono : ∀ a0 a1 a2 a3 k, LeO (spec_l12Fails.f k a0 a1 a2 a3) (spec_l12Fails.f (k + 1) a0 a1 a2 a3) := by
  intro a0 a1 a2 a3 k
  unfold spec_l12Fails.f
  refine LeO.ite ?_ (LeO.refl _)
  unfold spec_l12Fails.g
  refine LeO.ite (LeO.bind (spec_BoxOk.mono _ _ _ _ _ _ _) fun _ => LeO.refl _) ?_
  refine LeO.ite (LeO.refl _) ?_
  refine LeO.ite (LeO.refl _) ?_
  refine LeO.ite (LeO.bind (spec_l12At.mono _ _ _ _ _) fun _ => LeO.refl _) ?_
  refine LeO.ite (LeO.bind (spec_l12Stack.mono _ _ _ _) fun _ => LeO.ite (LeO.bind (spec_StackOk.mono _ _ _) fun _ => LeO.refl _) (LeO.refl _)) ?_
  refine LeO.ite (LeO.bind (spec_l12Cold.mono _ _ _) fun _ => LeO.refl _) ?_
  exact spec_l12Fails.mono7 _ _ _ _
theorem spec_l12Fails.hit {p : S51 → Bool} {l : List S51} {i n : Nat} {y : S51} (hi : i < n) (hm : l[i]? = some y) (hp : p y = true) : (l.take n).any p = true :=
  List.any_eq_true.2 ⟨y, List.mem_of_getElem? (i := i) (by rw [List.getElem?_take_of_lt hi]; exact hm), hp⟩
theorem spec_l12Fails.miss {p : S51 → Bool} {l : List S51} {n : Nat} (h : ∀ j, j < n → ∀ y, l[j]? = some y → p y = false) : (l.take n).any p = false := by
  rw [Bool.eq_false_iff]
  intro e
  obtain ⟨y, hy, hp⟩ := List.any_eq_true.1 e
  obtain ⟨j, hj⟩ := List.getElem?_of_mem hy
  have hjn : j < n := by
    have := (List.getElem?_eq_some_iff.1 hj).1
    rw [List.length_take] at this
    omega
  rw [List.getElem?_take_of_lt hjn] at hj
  rw [h j hjn y hj] at hp
  cases hp
theorem spec_l12Fails.rd_at (l : List S51) (i : Int) (h0 : 0 ≤ i) (h1 : i < l.length) : l[i.toNat]? = some (rd_T51 l i) := by
  have hl : i.toNat < l.length := by omega
  rw [List.getElem?_eq_getElem hl]; simp [rd_T51, List.getD, hl]
/-- The two blocks of the walk: the box and its place. -/
def spec_l12Fails.St (x : S51) (gx gs : Nat) (w0 W : World) : Prop := W.heap[gx]? = some (.cells #[.string x.f0.f0, .int .i64 x.f0.f1, .int .i64 x.f0.f2, .bool x.f0.f3, .int .i64 x.f0.f4, .int .i64 x.f0.f5, .int .i64 x.f1.f0, .int .i64 x.f1.f1, .int .i64 x.f1.f2] 51 (0, 0)) ∧ W.heap[gs]? = some (.cells #[.int .i64 x.f1.f0, .int .i64 x.f1.f1, .int .i64 x.f1.f2] 49 (0, 0)) ∧ Below w0.heap.size w0 W
section
variable {x : S51} {gx gs : Nat} {w0 W W1 : World}
theorem spec_l12Fails.St.below (h : spec_l12Fails.St x gx gs w0 W) (hb : Below W.heap.size W W1) : spec_l12Fails.St x gx gs w0 W1 := ⟨blk_below h.1 hb, blk_below h.2.1 hb, below_step h.2.2 hb⟩
theorem spec_l12Fails.St.bel (h : spec_l12Fails.St x gx gs w0 W) : Below w0.heap.size w0 W := h.2.2
theorem spec_l12Fails.St.cells (h : spec_l12Fails.St x gx gs w0 W) : W.cell? ⟨gx, 0, none⟩ = some (.string x.f0.f0) ∧ W.cell? ⟨gx, 1, none⟩ = some (.int .i64 x.f0.f1) ∧ W.cell? ⟨gx, 2, none⟩ = some (.int .i64 x.f0.f2) ∧ W.cell? ⟨gx, 3, none⟩ = some (.bool x.f0.f3) ∧ W.cell? ⟨gx, 4, none⟩ = some (.int .i64 x.f0.f4) ∧ W.cell? ⟨gx, 5, none⟩ = some (.int .i64 x.f0.f5) ∧ W.cell? ⟨gx, 6, none⟩ = some (.int .i64 x.f1.f0) ∧ W.cell? ⟨gx, 7, none⟩ = some (.int .i64 x.f1.f1) ∧ W.cell? ⟨gx, 8, none⟩ = some (.int .i64 x.f1.f2) ∧ W.cell? ⟨gs, 0, none⟩ = some (.int .i64 x.f1.f0) ∧ W.cell? ⟨gs, 1, none⟩ = some (.int .i64 x.f1.f1) ∧ W.cell? ⟨gs, 2, none⟩ = some (.int .i64 x.f1.f2) := ⟨(blk_cell h.1 0).trans rfl, (blk_cell h.1 1).trans rfl, (blk_cell h.1 2).trans rfl, (blk_cell h.1 3).trans rfl, (blk_cell h.1 4).trans rfl, (blk_cell h.1 5).trans rfl, (blk_cell h.1 6).trans rfl, (blk_cell h.1 7).trans rfl, (blk_cell h.1 8).trans rfl, (blk_cell h.2.1 0).trans rfl, (blk_cell h.2.1 1).trans rfl, (blk_cell h.2.1 2).trans rfl⟩
end
def spec_l12Fails.T18 : Bool × List (List Nat × List Nat) := (true, [([], []), ([], []), ([1], [1]), ([], []), ([3], [3]), ([0, 2, 4], [0, 2, 4]), ([], []), ([], []), ([7], [7]), ([6, 8], [6, 8]), ([9], [9]), ([10], [10]), ([5, 11, 5], [5, 11]), ([12], [12]), ([13, 12, 0, 1, 2, 3, 4, 5, 6, 7, 8, 9, 10, 11, 12, 13], [13])])
def spec_l12Fails.B18 : List Nat := [0, 0, 2, 0, 8, 31, 0, 0, 128, 448, 960, 1984, 4095, 8191, 16383]
theorem spec_l12Fails.tab18 : rtab .any (opsOf Try.f14 18) = spec_l12Fails.T18 := by kernel_rfl
theorem spec_l12Fails.bits18 : waitsOk spec_l12Fails.T18.2 spec_l12Fails.B18 = true := by kernel_rfl
set_option maxHeartbeats 8000000 in
set_option maxRecDepth 100000 in
theorem spec_l12Fails.calls (k : Nat) (A0 : Option Addr) (c0 : Nat) (l0 : List (S45)) (A1 : Option Addr) (c1 : Nat) (l1 : List (S51)) (a2 : Int) (a3 : Int) (r : Bool) (w : World) (hr0 : Kd.C k45 w A0 l0.length l0) (hc0 : l0.length ≤ c0) (hr1 : Kd.C k51 w A1 l1.length l1) (hc1 : l1.length ≤ c1) (h : spec_l12Fails.f k l0 l1 a2 a3 = some r) :
    Calls Try.prog 14 #[.slice A0 l0.length c0, .slice A1 l1.length c1, .int .i64 a2, .int .i64 a3] w fun e w' => e = .returned (.bool r) ∧ Below w.heap.size w w' := by
  have hu51 := Try.underlying51
  have hu49 := Try.underlying49
  have hu48 := Try.underlying48
  have hu45 := Try.underlying45
  unfold spec_l12Fails.f at h
  by_cases hb : 0 ≤ a2 ∧ a2 < (l1.length : Int)
  rotate_left
  · rw [if_neg hb] at h; cases h
  rw [if_pos hb] at h
  have HR0 := Aside0.mk hr0
  have HR1 := Aside0.mk hr1
  have HC0 := Aside0.mk hc0
  have HC1 := Aside0.mk hc1
  obtain ⟨p, q⟩ := hb
  obtain ⟨ad, e_, hx0, hx1, hx2, hx3, hx4, hx5, hx6, hx7, hx8⟩ := at_T51 hr1 a2 p q
  cases e_
  have HN := Aside0.mk (show 0 ≤ a2 ∧ a2 < l1.length ∧ l1.length ≤ 9223372036854775807 from ⟨p, q, hr1.2.1⟩)
  clear hr0 hr1 hc0 hc1
  generalize rd_T51 l1 a2 = x at h hx0 hx1 hx2 hx3 hx4 hx5 hx6 hx7 hx8
  have H := Aside0.mk h
  clear h
  have d0 : decide (0 ≤ a2) = true := decide_eq_true p
  have d1 : decide (a2 < (l1.length : Int)) = true := decide_eq_true q
  replace p := eq_true p
  replace q := eq_true q
  have HB := Aside0.mk (Below.refl w.heap.size w)
  go_enter Try.func14, Try.ntmps14
  go_upto_region 3 with (first | ((with_reducible refine gate_dst (N := 9) rfl ?_); refine box_event ?hg (N := 9) ?hd (cs := #[.string (⟨#[]⟩ : ByteArray), .int .i64 0, .int .i64 0, .bool false, .int .i64 0, .int .i64 0, .int .i64 0, .int .i64 0, .int .i64 0]) (t := 51) ?hr ?_; (case hd => rfl); (case hg => rfl); (case hr => first | (go_simp; done) | (go_simp; rfl)); intro gx hg w1 hbox hb; have GBKX := Aside0.mk (show w.heap.size ≤ gx by rw [hg]; exact below_size Sk.bl_); have BKX := Aside0.mk hbox; have n0_ := Aside0.mk (below_step Sk.bl_ hb); clear HB ; have HB := n0_; clear n0_; clear hb hbox hg; have hcw1BKX_0 : w1.cell? ⟨gx, 0, none⟩ = some (.string (⟨#[]⟩ : ByteArray)) := (blk_cell BKX.out 0).trans rfl; have hcw1BKX_1 : w1.cell? ⟨gx, 1, none⟩ = some (.int .i64 0) := (blk_cell BKX.out 1).trans rfl; have hcw1BKX_2 : w1.cell? ⟨gx, 2, none⟩ = some (.int .i64 0) := (blk_cell BKX.out 2).trans rfl; have hcw1BKX_3 : w1.cell? ⟨gx, 3, none⟩ = some (.bool false) := (blk_cell BKX.out 3).trans rfl; have hcw1BKX_4 : w1.cell? ⟨gx, 4, none⟩ = some (.int .i64 0) := (blk_cell BKX.out 4).trans rfl; have hcw1BKX_5 : w1.cell? ⟨gx, 5, none⟩ = some (.int .i64 0) := (blk_cell BKX.out 5).trans rfl; have hcw1BKX_6 : w1.cell? ⟨gx, 6, none⟩ = some (.int .i64 0) := (blk_cell BKX.out 6).trans rfl; have hcw1BKX_7 : w1.cell? ⟨gx, 7, none⟩ = some (.int .i64 0) := (blk_cell BKX.out 7).trans rfl; have hcw1BKX_8 : w1.cell? ⟨gx, 8, none⟩ = some (.int .i64 0) := (blk_cell BKX.out 8).trans rfl; have hfw1BKX_0 := blk_frozen BKX.out 0; have hfw1BKX_1 := blk_frozen BKX.out 1; have hfw1BKX_2 := blk_frozen BKX.out 2; have hfw1BKX_3 := blk_frozen BKX.out 3; have hfw1BKX_4 := blk_frozen BKX.out 4; have hfw1BKX_5 := blk_frozen BKX.out 5; have hfw1BKX_6 := blk_frozen BKX.out 6; have hfw1BKX_7 := blk_frozen BKX.out 7; have hfw1BKX_8 := blk_frozen BKX.out 8) | ((with_reducible refine gate_store (t := 51) (p := 9) rfl ?_); refine store_event (t := 51) (p := 9) (v := ?vo_w2) (w1 := (((((((((w1.setCell ⟨gx, 0, none⟩ (.string x.f0.f0)).setCell ⟨gx, 1, none⟩ (.int .i64 x.f0.f1)).setCell ⟨gx, 2, none⟩ (.int .i64 x.f0.f2)).setCell ⟨gx, 3, none⟩ (.bool x.f0.f3)).setCell ⟨gx, 4, none⟩ (.int .i64 x.f0.f4)).setCell ⟨gx, 5, none⟩ (.int .i64 x.f0.f5)).setCell ⟨gx, 6, none⟩ (.int .i64 x.f1.f0)).setCell ⟨gx, 7, none⟩ (.int .i64 x.f1.f1)).setCell ⟨gx, 8, none⟩ (.int .i64 x.f1.f2))) ?hg ?ho ?hn ?hr ?_; (case ho => rfl); (case hg => rfl); (case hn => rfl); (case hr => first | (go_simp; done) | (go_simp; rfl)); intro w2 hw; have n0_ : Aside0 (w2.heap[gx]? = some (.cells #[.string x.f0.f0, .int .i64 x.f0.f1, .int .i64 x.f0.f2, .bool x.f0.f3, .int .i64 x.f0.f4, .int .i64 x.f0.f5, .int .i64 x.f1.f0, .int .i64 x.f1.f1, .int .i64 x.f1.f2] 51 (0, 0))) := Aside0.mk (by rw [hw]; exact (blk_put (cs := #[.string x.f0.f0, .int .i64 x.f0.f1, .int .i64 x.f0.f2, .bool x.f0.f3, .int .i64 x.f0.f4, .int .i64 x.f0.f5, .int .i64 x.f1.f0, .int .i64 x.f1.f1, .int .i64 0]) (cs' := #[.string x.f0.f0, .int .i64 x.f0.f1, .int .i64 x.f0.f2, .bool x.f0.f3, .int .i64 x.f0.f4, .int .i64 x.f0.f5, .int .i64 x.f1.f0, .int .i64 x.f1.f1, .int .i64 x.f1.f2]) (blk_put (cs := #[.string x.f0.f0, .int .i64 x.f0.f1, .int .i64 x.f0.f2, .bool x.f0.f3, .int .i64 x.f0.f4, .int .i64 x.f0.f5, .int .i64 x.f1.f0, .int .i64 0, .int .i64 0]) (cs' := #[.string x.f0.f0, .int .i64 x.f0.f1, .int .i64 x.f0.f2, .bool x.f0.f3, .int .i64 x.f0.f4, .int .i64 x.f0.f5, .int .i64 x.f1.f0, .int .i64 x.f1.f1, .int .i64 0]) (blk_put (cs := #[.string x.f0.f0, .int .i64 x.f0.f1, .int .i64 x.f0.f2, .bool x.f0.f3, .int .i64 x.f0.f4, .int .i64 x.f0.f5, .int .i64 0, .int .i64 0, .int .i64 0]) (cs' := #[.string x.f0.f0, .int .i64 x.f0.f1, .int .i64 x.f0.f2, .bool x.f0.f3, .int .i64 x.f0.f4, .int .i64 x.f0.f5, .int .i64 x.f1.f0, .int .i64 0, .int .i64 0]) (blk_put (cs := #[.string x.f0.f0, .int .i64 x.f0.f1, .int .i64 x.f0.f2, .bool x.f0.f3, .int .i64 x.f0.f4, .int .i64 0, .int .i64 0, .int .i64 0, .int .i64 0]) (cs' := #[.string x.f0.f0, .int .i64 x.f0.f1, .int .i64 x.f0.f2, .bool x.f0.f3, .int .i64 x.f0.f4, .int .i64 x.f0.f5, .int .i64 0, .int .i64 0, .int .i64 0]) (blk_put (cs := #[.string x.f0.f0, .int .i64 x.f0.f1, .int .i64 x.f0.f2, .bool x.f0.f3, .int .i64 0, .int .i64 0, .int .i64 0, .int .i64 0, .int .i64 0]) (cs' := #[.string x.f0.f0, .int .i64 x.f0.f1, .int .i64 x.f0.f2, .bool x.f0.f3, .int .i64 x.f0.f4, .int .i64 0, .int .i64 0, .int .i64 0, .int .i64 0]) (blk_put (cs := #[.string x.f0.f0, .int .i64 x.f0.f1, .int .i64 x.f0.f2, .bool false, .int .i64 0, .int .i64 0, .int .i64 0, .int .i64 0, .int .i64 0]) (cs' := #[.string x.f0.f0, .int .i64 x.f0.f1, .int .i64 x.f0.f2, .bool x.f0.f3, .int .i64 0, .int .i64 0, .int .i64 0, .int .i64 0, .int .i64 0]) (blk_put (cs := #[.string x.f0.f0, .int .i64 x.f0.f1, .int .i64 0, .bool false, .int .i64 0, .int .i64 0, .int .i64 0, .int .i64 0, .int .i64 0]) (cs' := #[.string x.f0.f0, .int .i64 x.f0.f1, .int .i64 x.f0.f2, .bool false, .int .i64 0, .int .i64 0, .int .i64 0, .int .i64 0, .int .i64 0]) (blk_put (cs := #[.string x.f0.f0, .int .i64 0, .int .i64 0, .bool false, .int .i64 0, .int .i64 0, .int .i64 0, .int .i64 0, .int .i64 0]) (cs' := #[.string x.f0.f0, .int .i64 x.f0.f1, .int .i64 0, .bool false, .int .i64 0, .int .i64 0, .int .i64 0, .int .i64 0, .int .i64 0]) (blk_put (cs := #[.string (⟨#[]⟩ : ByteArray), .int .i64 0, .int .i64 0, .bool false, .int .i64 0, .int .i64 0, .int .i64 0, .int .i64 0, .int .i64 0]) (cs' := #[.string x.f0.f0, .int .i64 0, .int .i64 0, .bool false, .int .i64 0, .int .i64 0, .int .i64 0, .int .i64 0, .int .i64 0]) BKX.out 0 (.string x.f0.f0) rfl) 1 (.int .i64 x.f0.f1) rfl) 2 (.int .i64 x.f0.f2) rfl) 3 (.bool x.f0.f3) rfl) 4 (.int .i64 x.f0.f4) rfl) 5 (.int .i64 x.f0.f5) rfl) 6 (.int .i64 x.f1.f0) rfl) 7 (.int .i64 x.f1.f1) rfl) 8 (.int .i64 x.f1.f2) rfl)); have n1_ : Aside0 (Below w.heap.size w w2) := Aside0.mk (by rw [hw]; exact (below_set (below_set (below_set (below_set (below_set (below_set (below_set (below_set (below_set HB.out GBKX.out) GBKX.out) GBKX.out) GBKX.out) GBKX.out) GBKX.out) GBKX.out) GBKX.out) GBKX.out)); clear HB BKX  hw; have BKX := n0_; have HB := n1_; clear n0_ n1_; have hcw2BKX_0 : w2.cell? ⟨gx, 0, none⟩ = some (.string x.f0.f0) := (blk_cell BKX.out 0).trans rfl; have hcw2BKX_1 : w2.cell? ⟨gx, 1, none⟩ = some (.int .i64 x.f0.f1) := (blk_cell BKX.out 1).trans rfl; have hcw2BKX_2 : w2.cell? ⟨gx, 2, none⟩ = some (.int .i64 x.f0.f2) := (blk_cell BKX.out 2).trans rfl; have hcw2BKX_3 : w2.cell? ⟨gx, 3, none⟩ = some (.bool x.f0.f3) := (blk_cell BKX.out 3).trans rfl; have hcw2BKX_4 : w2.cell? ⟨gx, 4, none⟩ = some (.int .i64 x.f0.f4) := (blk_cell BKX.out 4).trans rfl; have hcw2BKX_5 : w2.cell? ⟨gx, 5, none⟩ = some (.int .i64 x.f0.f5) := (blk_cell BKX.out 5).trans rfl; have hcw2BKX_6 : w2.cell? ⟨gx, 6, none⟩ = some (.int .i64 x.f1.f0) := (blk_cell BKX.out 6).trans rfl; have hcw2BKX_7 : w2.cell? ⟨gx, 7, none⟩ = some (.int .i64 x.f1.f1) := (blk_cell BKX.out 7).trans rfl; have hcw2BKX_8 : w2.cell? ⟨gx, 8, none⟩ = some (.int .i64 x.f1.f2) := (blk_cell BKX.out 8).trans rfl; have hfw2BKX_0 := blk_frozen BKX.out 0; have hfw2BKX_1 := blk_frozen BKX.out 1; have hfw2BKX_2 := blk_frozen BKX.out 2; have hfw2BKX_3 := blk_frozen BKX.out 3; have hfw2BKX_4 := blk_frozen BKX.out 4; have hfw2BKX_5 := blk_frozen BKX.out 5; have hfw2BKX_6 := blk_frozen BKX.out 6; have hfw2BKX_7 := blk_frozen BKX.out 7; have hfw2BKX_8 := blk_frozen BKX.out 8) | ((with_reducible refine gate_dst (N := 10) rfl ?_); refine box_event ?hg (N := 10) ?hd (cs := #[.int .i64 0, .int .i64 0, .int .i64 0]) (t := 49) ?hr ?_; (case hd => rfl); (case hg => rfl); (case hr => first | (go_simp; done) | (go_simp; rfl)); intro gs hg w3 hbox hb; have GBKS := Aside0.mk (show w.heap.size ≤ gs by rw [hg]; exact below_size Sk.bl_); have BKS := Aside0.mk hbox; have n0_ := Aside0.mk (below_step Sk.bl_ hb); have n1_ := Aside0.mk (blk_below (g := gx) (o := .cells #[.string x.f0.f0, .int .i64 x.f0.f1, .int .i64 x.f0.f2, .bool x.f0.f3, .int .i64 x.f0.f4, .int .i64 x.f0.f5, .int .i64 x.f1.f0, .int .i64 x.f1.f1, .int .i64 x.f1.f2] 51 (0, 0)) (by (with_reducible repeat (first | refine blk_drewN ?_ _ | refine blk_drew ?_ | refine blk_alloc ?_ _)); exact BKX.out) hb); clear HB BKX; have HB := n0_; have BKX := n1_; clear n0_ n1_; clear hb hbox hg; have hcw3BKX_0 : w3.cell? ⟨gx, 0, none⟩ = some (.string x.f0.f0) := (blk_cell BKX.out 0).trans rfl; have hcw3BKX_1 : w3.cell? ⟨gx, 1, none⟩ = some (.int .i64 x.f0.f1) := (blk_cell BKX.out 1).trans rfl; have hcw3BKX_2 : w3.cell? ⟨gx, 2, none⟩ = some (.int .i64 x.f0.f2) := (blk_cell BKX.out 2).trans rfl; have hcw3BKX_3 : w3.cell? ⟨gx, 3, none⟩ = some (.bool x.f0.f3) := (blk_cell BKX.out 3).trans rfl; have hcw3BKX_4 : w3.cell? ⟨gx, 4, none⟩ = some (.int .i64 x.f0.f4) := (blk_cell BKX.out 4).trans rfl; have hcw3BKX_5 : w3.cell? ⟨gx, 5, none⟩ = some (.int .i64 x.f0.f5) := (blk_cell BKX.out 5).trans rfl; have hcw3BKX_6 : w3.cell? ⟨gx, 6, none⟩ = some (.int .i64 x.f1.f0) := (blk_cell BKX.out 6).trans rfl; have hcw3BKX_7 : w3.cell? ⟨gx, 7, none⟩ = some (.int .i64 x.f1.f1) := (blk_cell BKX.out 7).trans rfl; have hcw3BKX_8 : w3.cell? ⟨gx, 8, none⟩ = some (.int .i64 x.f1.f2) := (blk_cell BKX.out 8).trans rfl; have hcw3BKS_0 : w3.cell? ⟨gs, 0, none⟩ = some (.int .i64 0) := (blk_cell BKS.out 0).trans rfl; have hcw3BKS_1 : w3.cell? ⟨gs, 1, none⟩ = some (.int .i64 0) := (blk_cell BKS.out 1).trans rfl; have hcw3BKS_2 : w3.cell? ⟨gs, 2, none⟩ = some (.int .i64 0) := (blk_cell BKS.out 2).trans rfl; have hfw3BKX_0 := blk_frozen BKX.out 0; have hfw3BKX_1 := blk_frozen BKX.out 1; have hfw3BKX_2 := blk_frozen BKX.out 2; have hfw3BKX_3 := blk_frozen BKX.out 3; have hfw3BKX_4 := blk_frozen BKX.out 4; have hfw3BKX_5 := blk_frozen BKX.out 5; have hfw3BKX_6 := blk_frozen BKX.out 6; have hfw3BKX_7 := blk_frozen BKX.out 7; have hfw3BKX_8 := blk_frozen BKX.out 8; have hfw3BKS_0 := blk_frozen BKS.out 0; have hfw3BKS_1 := blk_frozen BKS.out 1; have hfw3BKS_2 := blk_frozen BKS.out 2) | ((with_reducible refine gate_store (t := 49) (p := 10) rfl ?_); refine store_event (t := 49) (p := 10) (v := ?vo_w4) (w1 := (((w3.setCell ⟨gs, 0, none⟩ (.int .i64 x.f1.f0)).setCell ⟨gs, 1, none⟩ (.int .i64 x.f1.f1)).setCell ⟨gs, 2, none⟩ (.int .i64 x.f1.f2))) ?hg ?ho ?hn ?hr ?_; (case ho => rfl); (case hg => rfl); (case hn => rfl); (case hr => first | (go_simp; done) | (go_simp; rfl)); intro w4 hw; have n0_ : Aside0 (w4.heap[gs]? = some (.cells #[.int .i64 x.f1.f0, .int .i64 x.f1.f1, .int .i64 x.f1.f2] 49 (0, 0))) := Aside0.mk (by rw [hw]; exact (blk_put (cs := #[.int .i64 x.f1.f0, .int .i64 x.f1.f1, .int .i64 0]) (cs' := #[.int .i64 x.f1.f0, .int .i64 x.f1.f1, .int .i64 x.f1.f2]) (blk_put (cs := #[.int .i64 x.f1.f0, .int .i64 0, .int .i64 0]) (cs' := #[.int .i64 x.f1.f0, .int .i64 x.f1.f1, .int .i64 0]) (blk_put (cs := #[.int .i64 0, .int .i64 0, .int .i64 0]) (cs' := #[.int .i64 x.f1.f0, .int .i64 0, .int .i64 0]) BKS.out 0 (.int .i64 x.f1.f0) rfl) 1 (.int .i64 x.f1.f1) rfl) 2 (.int .i64 x.f1.f2) rfl)); have n1_ : Aside0 (Below w.heap.size w w4) := Aside0.mk (by rw [hw]; exact (below_set (below_set (below_set HB.out GBKS.out) GBKS.out) GBKS.out)); have n2_ : Aside0 (w4.heap[gx]? = some (.cells #[.string x.f0.f0, .int .i64 x.f0.f1, .int .i64 x.f0.f2, .bool x.f0.f3, .int .i64 x.f0.f4, .int .i64 x.f0.f5, .int .i64 x.f1.f0, .int .i64 x.f1.f1, .int .i64 x.f1.f2] 51 (0, 0))) := Aside0.mk (by rw [hw]; exact (blk_far (blk_far (blk_far BKX.out (p := ⟨gs, 0, none⟩) (blk_ne BKX.out BKS.out (by decide)) (.int .i64 x.f1.f0)) (p := ⟨gs, 1, none⟩) (blk_ne BKX.out BKS.out (by decide)) (.int .i64 x.f1.f1)) (p := ⟨gs, 2, none⟩) (blk_ne BKX.out BKS.out (by decide)) (.int .i64 x.f1.f2))); clear HB BKS BKX hw; have BKS := n0_; have HB := n1_; have BKX := n2_; clear n0_ n1_ n2_; have hcw4BKX_0 : w4.cell? ⟨gx, 0, none⟩ = some (.string x.f0.f0) := (blk_cell BKX.out 0).trans rfl; have hcw4BKX_1 : w4.cell? ⟨gx, 1, none⟩ = some (.int .i64 x.f0.f1) := (blk_cell BKX.out 1).trans rfl; have hcw4BKX_2 : w4.cell? ⟨gx, 2, none⟩ = some (.int .i64 x.f0.f2) := (blk_cell BKX.out 2).trans rfl; have hcw4BKX_3 : w4.cell? ⟨gx, 3, none⟩ = some (.bool x.f0.f3) := (blk_cell BKX.out 3).trans rfl; have hcw4BKX_4 : w4.cell? ⟨gx, 4, none⟩ = some (.int .i64 x.f0.f4) := (blk_cell BKX.out 4).trans rfl; have hcw4BKX_5 : w4.cell? ⟨gx, 5, none⟩ = some (.int .i64 x.f0.f5) := (blk_cell BKX.out 5).trans rfl; have hcw4BKX_6 : w4.cell? ⟨gx, 6, none⟩ = some (.int .i64 x.f1.f0) := (blk_cell BKX.out 6).trans rfl; have hcw4BKX_7 : w4.cell? ⟨gx, 7, none⟩ = some (.int .i64 x.f1.f1) := (blk_cell BKX.out 7).trans rfl; have hcw4BKX_8 : w4.cell? ⟨gx, 8, none⟩ = some (.int .i64 x.f1.f2) := (blk_cell BKX.out 8).trans rfl; have hcw4BKS_0 : w4.cell? ⟨gs, 0, none⟩ = some (.int .i64 x.f1.f0) := (blk_cell BKS.out 0).trans rfl; have hcw4BKS_1 : w4.cell? ⟨gs, 1, none⟩ = some (.int .i64 x.f1.f1) := (blk_cell BKS.out 1).trans rfl; have hcw4BKS_2 : w4.cell? ⟨gs, 2, none⟩ = some (.int .i64 x.f1.f2) := (blk_cell BKS.out 2).trans rfl; have hfw4BKX_0 := blk_frozen BKX.out 0; have hfw4BKX_1 := blk_frozen BKX.out 1; have hfw4BKX_2 := blk_frozen BKX.out 2; have hfw4BKX_3 := blk_frozen BKX.out 3; have hfw4BKX_4 := blk_frozen BKX.out 4; have hfw4BKX_5 := blk_frozen BKX.out 5; have hfw4BKX_6 := blk_frozen BKX.out 6; have hfw4BKX_7 := blk_frozen BKX.out 7; have hfw4BKX_8 := blk_frozen BKX.out 8; have hfw4BKS_0 := blk_frozen BKS.out 0; have hfw4BKS_1 := blk_frozen BKS.out 1; have hfw4BKS_2 := blk_frozen BKS.out 2))
  have HF := Aside0.mk (show spec_l12Fails.St x gx gs w w4 from ⟨BKX.out, BKS.out, HB.out⟩)
  have HD := Aside0.mk (show Below w.heap.size w w4 from HB.out)
  clear BKX BKS HB GBKX GBKS hcw1BKX_0 hcw1BKX_1 hcw1BKX_2 hcw1BKX_3 hcw1BKX_4 hcw1BKX_5 hcw1BKX_6 hcw1BKX_7 hcw1BKX_8 hfw1BKX_0 hfw1BKX_1 hfw1BKX_2 hfw1BKX_3 hfw1BKX_4 hfw1BKX_5 hfw1BKX_6 hfw1BKX_7 hfw1BKX_8 hcw2BKX_0 hcw2BKX_1 hcw2BKX_2 hcw2BKX_3 hcw2BKX_4 hcw2BKX_5 hcw2BKX_6 hcw2BKX_7 hcw2BKX_8 hfw2BKX_0 hfw2BKX_1 hfw2BKX_2 hfw2BKX_3 hfw2BKX_4 hfw2BKX_5 hfw2BKX_6 hfw2BKX_7 hfw2BKX_8 hcw3BKX_0 hcw3BKX_1 hcw3BKX_2 hcw3BKX_3 hcw3BKX_4 hcw3BKX_5 hcw3BKX_6 hcw3BKX_7 hcw3BKX_8 hfw3BKX_0 hfw3BKX_1 hfw3BKX_2 hfw3BKX_3 hfw3BKX_4 hfw3BKX_5 hfw3BKX_6 hfw3BKX_7 hfw3BKX_8 hcw3BKS_0 hcw3BKS_1 hcw3BKS_2 hfw3BKS_0 hfw3BKS_1 hfw3BKS_2 hcw4BKX_0 hcw4BKX_1 hcw4BKX_2 hcw4BKX_3 hcw4BKX_4 hcw4BKX_5 hcw4BKX_6 hcw4BKX_7 hcw4BKX_8 hfw4BKX_0 hfw4BKX_1 hfw4BKX_2 hfw4BKX_3 hfw4BKX_4 hfw4BKX_5 hfw4BKX_6 hfw4BKX_7 hfw4BKX_8 hcw4BKS_0 hcw4BKS_1 hcw4BKS_2 hfw4BKS_0 hfw4BKS_1 hfw4BKS_2 hx0 hx1 hx2 hx3 hx4 hx5 hx6 hx7 hx8
  obtain ⟨cgx0, cgx1, cgx2, cgx3, cgx4, cgx5, cgx6, cgx7, cgx8, cgs0, cgs1, cgs2⟩ := HF.out.cells
  by_cases k1 : a3 = 1
  · subst k1
    have h := H.out
    rw [spec_l12Fails.g, if_pos rfl, spec_l12Fails.g1] at h
    obtain ⟨t, h1, h⟩ := Option.bind_eq_some_iff.mp h
    obtain rfl := Option.some.inj h
    have H1 := Aside0.mk h1
    clear h h1 H
    go_wp2_with (go_at_call 38; (with_reducible refine (spec_BoxOk.calls k x.f0.f0 x.f0.f1 x.f0.f2 x.f0.f3 x.f0.f4 x.f0.f5 _ _ H1.out).mono ?_); rintro e w5 ⟨rfl, hb⟩; have HB := Aside0.mk (below_step HD.out hb); clear hb)
    go_ret
    exact ⟨rfl, HB.out⟩
  have b1 : (a3 == 1) = false := beq_eq_false_iff_ne.2 k1
  by_cases k2 : a3 = 2
  · subst k2
    have h := H.out
    rw [spec_l12Fails.g, if_neg k1, if_pos rfl] at h
    have HV := Aside0.mk (Option.some.inj h)
    clear h H k1 cgx0 cgx1 cgx2 cgx3 cgx4 cgx5 cgx6 cgx7 cgx8 cgs0 cgs1 cgs2 d0 d1 p q
    go_wp2
    go_loopg [11] a2.toNat (fun gg v11 wr => ∃ i : Int, v11 = .int .i64 i ∧ Aside0 (0 ≤ i ∧ i ≤ a2 ∧ a2.toNat - i.toNat ≤ gg) ∧ Aside0 (∀ j : Nat, j < i.toNat → ∀ y, l1[j]? = some y → spec_l12Fails.twice x y = false) ∧ Aside0 (spec_l12Fails.St x gx gs w wr))
    case atStart => exact ⟨0, rfl, ⟨by have := HN.out; omega⟩, ⟨fun j hj => absurd hj (Nat.not_lt_zero _)⟩, HF⟩
    case round =>
      clear HF HD
      obtain ⟨i, rfl, HI, HM, HF⟩ := hrel
      obtain ⟨cgx0, cgx1, cgx2, cgx3, cgx4, cgx5, cgx6, cgx7, cgx8, cgs0, cgs1, cgs2⟩ := HF.out.cells
      by_cases hlt : i < a2
      · have h0 : 0 ≤ i := HI.out.1
        have hil : i < (l1.length : Int) := by have := HN.out; omega
        have HI2 := Aside0.mk (show i.toNat < a2.toNat ∧ (i + 1).toNat = i.toNat + 1 by have := HN.out; omega)
        have hy := spec_l12Fails.rd_at l1 i h0 hil
        obtain ⟨ad2, e_, hy0, hy1, hy2, hy3, hy4, hy5, hy6, hy7, hy8⟩ := at_T51 HR1.out i h0 hil
        obtain rfl : ad = ad2 := by injection e_
        generalize rd_T51 l1 i = y at hy hy0 hy1 hy2 hy3 hy4 hy5 hy6 hy7 hy8
        have HY := Aside0.mk hy
        clear hy e_
        replace hy0 := pw_cell_below HF.out.2.2 hy0
        replace hy1 := pw_cell_below HF.out.2.2 hy1
        replace hy2 := pw_cell_below HF.out.2.2 hy2
        replace hy3 := pw_cell_below HF.out.2.2 hy3
        replace hy4 := pw_cell_below HF.out.2.2 hy4
        replace hy5 := pw_cell_below HF.out.2.2 hy5
        replace hy6 := pw_cell_below HF.out.2.2 hy6
        replace hy7 := pw_cell_below HF.out.2.2 hy7
        replace hy8 := pw_cell_below HF.out.2.2 hy8
        have hw1 : wrap64 (i + 1) = i + 1 := by have := HN.out; unfold wrap64; omega
        have HW := Aside0.mk hw1
        clear hw1
        have d2 : decide (i < a2) = true := decide_eq_true hlt
        have d3 : decide (0 ≤ i) = true := decide_eq_true h0
        have d4 : decide (i < (l1.length : Int)) = true := decide_eq_true hil
        replace h0 := eq_true h0
        replace hil := eq_true hil
        replace hlt := eq_true hlt
        by_cases s1 : y.f0.f0.toList = x.f0.f0.toList
        · have HP := Aside0.mk (show spec_l12Fails.twice x y = true by simp [spec_l12Fails.twice, s1])
          have s0 : (y.f0.f0.toList == x.f0.f0.toList) = true := beq_iff_eq.mpr s1
          have s2 : (y.f0.f0.toList != x.f0.f0.toList) = false := bne_eq_false_iff_eq.mpr s1
          clear s1
          go_upto_region 10 with (fail)
          go_quiet (fail)
          go_wp2
          go_ret
          exact ⟨by rw [← HV.out, spec_l12Fails.hit HI2.out.1 HY.out HP.out]; rfl, pw_below_drewN HF.out.2.2 _⟩
        · have s0 : (y.f0.f0.toList == x.f0.f0.toList) = false := beq_eq_false_iff_ne.mpr s1
          have s2 : (y.f0.f0.toList != x.f0.f0.toList) = true := bne_iff_ne.mpr s1
          have HP := Aside0.mk (show spec_l12Fails.twice x y = (y.f1.f0 == x.f1.f0 && (y.f1.f1 == x.f1.f1 && (y.f1.f2 == x.f1.f2))) by simp [spec_l12Fails.twice, s1, spec_l12Fails.same])
          clear s1
          go_upto_region 10 with (fail)
          go_quiet (fail)
          have HF2 : Aside0 (spec_l12Fails.St x gx gs w (wr.drewN nq)) := ⟨HF.out.below (pw_below_drewN (Below.refl _ _) nq)⟩
          clear HF cgx0 cgx1 cgx2 cgx3 cgx4 cgx5 cgx6 cgx7 cgx8 cgs0 cgs1 cgs2 hy0 hy1 hy2 hy3 hy4 hy5 hy6 hy7 hy8
          generalize wr.drewN nq = w9 at HF2 ⊢
          cases he : (y.f1.f0 == x.f1.f0 && (y.f1.f1 == x.f1.f1 && (y.f1.f2 == x.f1.f2))) with
          | true =>
            have HP2 := Aside0.mk (HP.out.trans he)
            try rw [he]
            clear he HP
            go_wp2
            go_ret
            exact ⟨by rw [← HV.out, spec_l12Fails.hit HI2.out.1 HY.out HP2.out]; rfl, HF2.out.2.2⟩
          | false =>
            have HP2 := Aside0.mk (HP.out.trans he)
            try rw [he]
            clear he HP
            go_wp2
            go_roundg (a2.toNat - (i + 1).toNat)
            case measure => have := HI.out; have := HI2.out; omega
            case rel => exact ⟨i + 1, (by first | rfl | (rw [HW.out])), ⟨by have := HI.out; have := HI2.out; omega⟩, ⟨fun j hj y' hy' => if ej : j = i.toNat then by subst ej; rw [HY.out] at hy'; obtain rfl := Option.some.inj hy'; exact HP2.out else HM.out j (by have := HI2.out; omega) y' hy'⟩, HF2⟩
      · have d2 : decide (i < a2) = false := decide_eq_false hlt
        have HJ := Aside0.mk (show i.toNat = a2.toNat by have := HI.out; omega)
        clear hlt
        go_wp2
        go_ret
        exact ⟨by rw [← HV.out, spec_l12Fails.miss (fun j hj y hy => HM.out j (by rw [HJ.out]; exact hj) y hy)]; rfl, HF.out.2.2⟩
  have b2 : (a3 == 2) = false := beq_eq_false_iff_ne.2 k2
  by_cases k3 : a3 = 3
  · subst k3
    have h := H.out
    rw [spec_l12Fails.g, if_neg k1, if_neg k2, if_pos rfl, spec_l12Fails.g3] at h
    obtain ⟨t, h1, h⟩ := Option.bind_eq_some_iff.mp h
    have H1 := Aside0.mk h1
    have r0 : IntKind.i64.wrap ((l0.length : Int) - 1) = wrap64 ((l0.length : Int) - 1) := IntWalk.i64_left _
    clear h1 H k1 k2 d0 d1 p q
    cases t with
    | false =>
      rw [if_neg (by decide)] at h
      obtain rfl := Option.some.inj h
      clear h
      go_upto_region 14 with (fail)
      go_quiet (first | (go_at_call 37; (with_reducible refine (spec_l1In.calls x.f1.f0 0 (wrap64 ((l0.length : Int) - 1)) _ _ H1.out).mono ?_); rintro e w' ⟨rfl, ⟨⟨nd, rfl⟩⟩⟩; (first | exact ⟨rfl, _, World.drewN_drewN _ _ _⟩ | exact ⟨rfl, _, Eq.trans (World.drewN_drewN _ _ _) (congrArg (World.drewN _) (Nat.add_assoc _ _ _))⟩ | exact ⟨rfl, _, rfl⟩)))
      try go_wp2
      go_ret
      exact ⟨rfl, pw_below_drewN HD.out _⟩
    | true =>
    rw [if_pos rfl] at h
    by_cases hb : 0 ≤ x.f1.f0 ∧ x.f1.f0 < (l0.length : Int)
    rotate_left
    · rw [if_neg hb] at h; cases h
    rw [if_pos hb] at h
    obtain ⟨t2, h2, h⟩ := Option.bind_eq_some_iff.mp h
    obtain ⟨t3, h3, h⟩ := Option.bind_eq_some_iff.mp h
    obtain rfl := Option.some.inj h
    obtain ⟨hb0, hb1⟩ := hb
    obtain ⟨ad3, f_, hz0, hz1, hz2, hz3⟩ := at_T45 HR0.out x.f1.f0 hb0 hb1
    cases f_
    generalize rd_T45 l0 x.f1.f0 = b at hz0 hz1 hz2 hz3 h2 h3
    have HZ := Aside0.mk (And.intro hz0 (And.intro hz1 (And.intro hz2 hz3)))
    replace hz0 := pw_cell_below HD.out hz0
    replace hz1 := pw_cell_below HD.out hz1
    replace hz2 := pw_cell_below HD.out hz2
    replace hz3 := pw_cell_below HD.out hz3
    have d4 : decide (0 ≤ x.f1.f0) = true := decide_eq_true hb0
    have d5 : decide (x.f1.f0 < (l0.length : Int)) = true := decide_eq_true hb1
    replace hb0 := eq_true hb0
    replace hb1 := eq_true hb1
    have H2 := Aside0.mk h2
    have H3 := Aside0.mk h3
    have r1 : IntKind.i64.wrap (b.f0 - 1) = wrap64 (b.f0 - 1) := IntWalk.i64_left _
    have r2 : IntKind.i64.wrap (b.f1 - 1) = wrap64 (b.f1 - 1) := IntWalk.i64_left _
    clear h h2 h3
    cases t2 with
    | false =>
      go_upto_region 14 with (fail)
      go_quiet (first | (go_at_call 37; (with_reducible refine (spec_l1In.calls x.f1.f0 0 (wrap64 ((l0.length : Int) - 1)) _ _ H1.out).mono ?_); rintro e w' ⟨rfl, ⟨⟨nd, rfl⟩⟩⟩; (first | exact ⟨rfl, _, World.drewN_drewN _ _ _⟩ | exact ⟨rfl, _, Eq.trans (World.drewN_drewN _ _ _) (congrArg (World.drewN _) (Nat.add_assoc _ _ _))⟩ | exact ⟨rfl, _, rfl⟩)) | (go_at_call 37; (with_reducible refine (spec_l1In.calls x.f1.f1 0 (wrap64 (b.f0 - 1)) _ _ H2.out).mono ?_); rintro e w' ⟨rfl, ⟨⟨nd, rfl⟩⟩⟩; (first | exact ⟨rfl, _, World.drewN_drewN _ _ _⟩ | exact ⟨rfl, _, Eq.trans (World.drewN_drewN _ _ _) (congrArg (World.drewN _) (Nat.add_assoc _ _ _))⟩ | exact ⟨rfl, _, rfl⟩)))
      try go_wp2
      go_ret
      exact ⟨rfl, pw_below_drewN HD.out _⟩
    | true =>
      go_upto_region 14 with (fail)
      go_quiet (first | (go_at_call 37; (with_reducible refine (spec_l1In.calls x.f1.f0 0 (wrap64 ((l0.length : Int) - 1)) _ _ H1.out).mono ?_); rintro e w' ⟨rfl, ⟨⟨nd, rfl⟩⟩⟩; (first | exact ⟨rfl, _, World.drewN_drewN _ _ _⟩ | exact ⟨rfl, _, Eq.trans (World.drewN_drewN _ _ _) (congrArg (World.drewN _) (Nat.add_assoc _ _ _))⟩ | exact ⟨rfl, _, rfl⟩)) | (go_at_call 37; (with_reducible refine (spec_l1In.calls x.f1.f1 0 (wrap64 (b.f0 - 1)) _ _ H2.out).mono ?_); rintro e w' ⟨rfl, ⟨⟨nd, rfl⟩⟩⟩; (first | exact ⟨rfl, _, World.drewN_drewN _ _ _⟩ | exact ⟨rfl, _, Eq.trans (World.drewN_drewN _ _ _) (congrArg (World.drewN _) (Nat.add_assoc _ _ _))⟩ | exact ⟨rfl, _, rfl⟩)) | (go_at_call 37; (with_reducible refine (spec_l1In.calls x.f1.f2 0 (wrap64 (b.f1 - 1)) _ _ H3.out).mono ?_); rintro e w' ⟨rfl, ⟨⟨nd, rfl⟩⟩⟩; (first | exact ⟨rfl, _, World.drewN_drewN _ _ _⟩ | exact ⟨rfl, _, Eq.trans (World.drewN_drewN _ _ _) (congrArg (World.drewN _) (Nat.add_assoc _ _ _))⟩ | exact ⟨rfl, _, rfl⟩)))
      try go_wp2
      go_ret
      exact ⟨rfl, pw_below_drewN HD.out _⟩
  have b3 : (a3 == 3) = false := beq_eq_false_iff_ne.2 k3
  by_cases k4 : a3 = 4
  · subst k4
    have h := H.out
    rw [spec_l12Fails.g, if_neg k1, if_neg k2, if_neg k3, if_pos rfl, spec_l12Fails.g4] at h
    obtain ⟨t, h1, h⟩ := Option.bind_eq_some_iff.mp h
    obtain rfl := Option.some.inj h
    have H1 := Aside0.mk h1
    clear h h1 H k1 k2 k3 d0 d1 p q
    by_cases ht : 0 < x.f1.f2
    · have e0 : decide (0 < x.f1.f2) = true := decide_eq_true ht
      have e1 : decide (x.f1.f2 > 0) = true := decide_eq_true ht
      clear ht
      go_wp2_with (go_at_call 39; (with_reducible refine (spec_l12At.calls k _ _ l1 x.f1.f0 x.f1.f1 (wrap64 (x.f1.f2 - 1)) t _ (Kd.C_below HR1.out HD.out) HC1.out H1.out).mono ?_); rintro e w5 ⟨rfl, hb⟩; have HB := Aside0.mk (below_step HD.out hb); clear hb)
      go_ret
      exact ⟨by first | rfl | (rw [e0]; rfl) | simp [e0], HB.out⟩
    · have e0 : decide (0 < x.f1.f2) = false := decide_eq_false ht
      have e1 : decide (x.f1.f2 > 0) = false := decide_eq_false ht
      clear ht
      go_wp2
      go_ret
      exact ⟨by first | rfl | (rw [e0]; rfl) | simp [e0], HD.out⟩
  have b4 : (a3 == 4) = false := beq_eq_false_iff_ne.2 k4
  by_cases k5 : a3 = 5
  · subst k5
    have h := H.out
    rw [spec_l12Fails.g, if_neg k1, if_neg k2, if_neg k3, if_neg k4, if_pos rfl, spec_l12Fails.g5] at h
    obtain ⟨st, h1, h⟩ := Option.bind_eq_some_iff.mp h
    by_cases hb : 0 ≤ x.f1.f0 ∧ x.f1.f0 < (l0.length : Int)
    rotate_left
    · rw [if_neg hb] at h; cases h
    rw [if_pos hb] at h
    obtain ⟨t, h2, h⟩ := Option.bind_eq_some_iff.mp h
    obtain rfl := Option.some.inj h
    obtain ⟨hb0, hb1⟩ := hb
    obtain ⟨ad3, f_, hz0, hz1, hz2, hz3⟩ := at_T45 HR0.out x.f1.f0 hb0 hb1
    cases f_
    generalize rd_T45 l0 x.f1.f0 = b at hz0 hz1 hz2 hz3 h2
    have HZ := Aside0.mk (And.intro hz0 (And.intro hz1 (And.intro hz2 hz3)))
    replace hz0 := pw_cell_below HD.out hz0
    replace hz1 := pw_cell_below HD.out hz1
    replace hz2 := pw_cell_below HD.out hz2
    replace hz3 := pw_cell_below HD.out hz3
    have d4 : decide (0 ≤ x.f1.f0) = true := decide_eq_true hb0
    have d5 : decide (x.f1.f0 < (l0.length : Int)) = true := decide_eq_true hb1
    replace hb0 := eq_true hb0
    replace hb1 := eq_true hb1
    have H1 := Aside0.mk h1
    have H2 := Aside0.mk h2
    clear h h1 h2 H k1 k2 k3 k4 d0 d1 p q
    go_upto_region 18 with (fail)
    have HF2 : Aside0 (spec_l12Fails.St x gx gs w w4.drew) := ⟨HF.out.below (below_drew1 (Below.refl _ _))⟩
    refine start_ (n := 15) (S := fun w' => w'.cell? ⟨gs, 0, none⟩ = some (.int .i64 x.f1.f0) ∧ w'.cell? ⟨gs, 1, none⟩ = some (.int .i64 x.f1.f1) ∧ w'.cell? ⟨gs, 2, none⟩ = some (.int .i64 x.f1.f2) ∧ w'.cell? (ad3.add (x.f1.f0.toNat * 4)) = some (.int .i64 b.f0) ∧ w'.cell? ⟨(ad3.add (x.f1.f0.toNat * 4)).block, (ad3.add (x.f1.f0.toNat * 4)).off + 1, none⟩ = some (.int .i64 b.f1) ∧ w'.cell? ⟨(ad3.add (x.f1.f0.toNat * 4)).block, (ad3.add (x.f1.f0.toNat * 4)).off + 2, none⟩ = some (.int .i64 b.f2) ∧ w'.cell? ⟨(ad3.add (x.f1.f0.toNat * 4)).block, (ad3.add (x.f1.f0.toNat * 4)).off + 3, none⟩ = some (.int .i64 b.f3)) (ds := []) #[false, false, false, false, false, false, false, false, false, false, false, false, false, false, false] (by kernel_rfl) rfl rfl ⟨(blk_cell HF2.out.2.1 0).trans rfl, (blk_cell HF2.out.2.1 1).trans rfl, (blk_cell HF2.out.2.1 2).trans rfl, pw_cell_below HF2.out.2.2 HZ.out.1, pw_cell_below HF2.out.2.2 HZ.out.2.1, pw_cell_below HF2.out.2.2 HZ.out.2.2.1, pw_cell_below HF2.out.2.2 HZ.out.2.2.2⟩ (fun hHeld => ?_); refine with_tabW spec_l12Fails.tab18 spec_l12Fails.bits18 (fun HT_ HW_ => ?_)
    clear hz0 hz1 hz2 hz3 cgx0 cgx1 cgx2 cgx3 cgx4 cgx5 cgx6 cgx7 cgx8 cgs0 cgs1 cgs2 HF HD
    generalize w4.drew = w5 at HF2 hHeld ⊢
    refine Sk.pq 0 107 #[true, false, false, false, false, false, false, false, false, false, false, false, false, false, false] HT_.out (h := ?_)
    refine Sk.pq 1 108 #[true, true, false, false, false, false, false, false, false, false, false, false, false, false, false] HT_.out (h := ?_)
    refine Sk.pq 3 110 #[true, true, false, true, false, false, false, false, false, false, false, false, false, false, false] HT_.out (h := ?_)
    refine Sk.pq 6 113 #[true, true, false, true, false, false, true, false, false, false, false, false, false, false, false] HT_.out (h := ?_)
    refine Sk.pq 7 114 #[true, true, false, true, false, false, true, true, false, false, false, false, false, false, false] HT_.out (h := ?_)
    refine Sk.tk7 2 109 #[true, true, true, true, false, false, true, true, false, false, false, false, false, false, false] HT_.out HW_.out hHeld (h := ?_)
    refine Sk.tk7 4 111 #[true, true, true, true, true, false, true, true, false, false, false, false, false, false, false] HT_.out HW_.out hHeld (h := ?_)
    refine Sk.tk7 8 115 #[true, true, true, true, true, false, true, true, true, false, false, false, false, false, false] HT_.out HW_.out hHeld (h := ?_)
    refine Sk.pq 9 116 #[true, true, true, true, true, false, true, true, true, true, false, false, false, false, false] HT_.out (h := ?_)
    refine Sk.pq 10 117 #[true, true, true, true, true, false, true, true, true, true, true, false, false, false, false] HT_.out (h := ?_)
    refine Sk.tk7 11 118 #[true, true, true, true, true, false, true, true, true, true, true, true, false, false, false] HT_.out HW_.out hHeld (h := ?_)
    refine one_ (i := 5) (N := some 112) #[true, true, true, true, true, true, true, true, true, true, true, true, false, false, false] rfl rfl (one_of HT_.out (by kernel_rfl)) (by decide) (fun K hK => ?_)
    refine goes_ Try.func41 (by kernel_rfl) rfl #[.slice (some ad) l1.length c1, .int .i64 x.f1.f0, .int .i64 x.f1.f1] (by rfl) rfl rfl (by (try simp only [List.map_toArray, List.map_cons, List.map_nil]); first | done | rfl | (simp only [List.length_drop, List.length_take]; rfl)) ?_
    with_reducible refine (spec_l12Stack.calls k _ _ l1 x.f1.f0 x.f1.f1 st _ (Kd.C_below HR1.out HF2.out.bel) HC1.out H1.out).mono ?_
    rintro e w6 ⟨vs, rfl, ho, hb⟩
    refine ⟨_, rfl, ?_⟩
    have HO := Aside0.mk ho
    have HF3 := Aside0.mk (HF2.out.below hb)
    clear HF2 ho hb
    obtain ⟨Ao, co, eo⟩ := Kd.R_slice HO.out
    subst eo
    refine hK.out _ _ ⟨(blk_cell HF3.out.2.1 0).trans rfl, (blk_cell HF3.out.2.1 1).trans rfl, (blk_cell HF3.out.2.1 2).trans rfl, pw_cell_below HF3.out.2.2 HZ.out.1, pw_cell_below HF3.out.2.2 HZ.out.2.1, pw_cell_below HF3.out.2.2 HZ.out.2.2.1, pw_cell_below HF3.out.2.2 HZ.out.2.2.2⟩ (fun hHeld => ?_)
    clear hK K
    refine Sk.nm 112 (h := ?_)
    refine one_ (i := 12) (N := some 119) #[true, true, true, true, true, true, true, true, true, true, true, true, true, false, false] rfl rfl (one_of HT_.out (by kernel_rfl)) (by decide) (fun K hK => ?_)
    refine goes_ Try.func40 (by kernel_rfl) rfl #[.slice Ao st.length co, .int .i64 b.f2] (by rfl) rfl rfl (by (try simp only [List.map_toArray, List.map_cons, List.map_nil]); first | done | rfl | (simp only [List.length_drop, List.length_take]; rfl)) ?_
    with_reducible refine (spec_StackOk.calls k _ _ st b.f2 t _ (Kd.R_reads' HO.out).2.2 (Kd.R_reads' HO.out).2.1 H2.out).mono ?_
    rintro e w7 ⟨rfl, hb⟩
    refine ⟨_, rfl, ?_⟩
    have HF4 := Aside0.mk (HF3.out.below hb)
    clear HF3 HO hb
    refine hK.out _ _ ⟨(blk_cell HF4.out.2.1 0).trans rfl, (blk_cell HF4.out.2.1 1).trans rfl, (blk_cell HF4.out.2.1 2).trans rfl, pw_cell_below HF4.out.2.2 HZ.out.1, pw_cell_below HF4.out.2.2 HZ.out.2.1, pw_cell_below HF4.out.2.2 HZ.out.2.2.1, pw_cell_below HF4.out.2.2 HZ.out.2.2.2⟩ (fun hHeld => ?_)
    clear hK K
    refine Sk.nm 119 (h := ?_)
    refine Sk.pq 13 120 #[true, true, true, true, true, true, true, true, true, true, true, true, true, true, false] HT_.out (h := ?_)
    refine Sk.pq 14 8 #[true, true, true, true, true, true, true, true, true, true, true, true, true, true, true] HT_.out (h := ?_)
    refine done_ (done_of HT_.out (by kernel_rfl)) ?_
    have HB := Aside0.mk HF4.out.2.2
    try go_wp2
    go_ret
    exact ⟨rfl, HB.out⟩
  have b5 : (a3 == 5) = false := beq_eq_false_iff_ne.2 k5
  by_cases k6 : a3 = 6
  · subst k6
    have h := H.out
    rw [spec_l12Fails.g, if_neg k1, if_neg k2, if_neg k3, if_neg k4, if_neg k5, if_pos rfl, spec_l12Fails.g6] at h
    obtain ⟨t, h1, h⟩ := Option.bind_eq_some_iff.mp h
    by_cases hb : 0 ≤ x.f1.f0 ∧ x.f1.f0 < (l0.length : Int)
    rotate_left
    · rw [if_neg hb] at h; cases h
    rw [if_pos hb] at h
    replace h := Option.some.inj h
    obtain ⟨hb0, hb1⟩ := hb
    obtain ⟨ad3, f_, hz0, hz1, hz2, hz3⟩ := at_T45 HR0.out x.f1.f0 hb0 hb1
    cases f_
    generalize rd_T45 l0 x.f1.f0 = b at hz0 hz1 hz2 hz3 h
    have HZ := Aside0.mk (And.intro hz0 (And.intro hz1 (And.intro hz2 hz3)))
    replace hz0 := pw_cell_below HD.out hz0
    replace hz1 := pw_cell_below HD.out hz1
    replace hz2 := pw_cell_below HD.out hz2
    replace hz3 := pw_cell_below HD.out hz3
    have d4 : decide (0 ≤ x.f1.f0) = true := decide_eq_true hb0
    have d5 : decide (x.f1.f0 < (l0.length : Int)) = true := decide_eq_true hb1
    replace hb0 := eq_true hb0
    replace hb1 := eq_true hb1
    have H1 := Aside0.mk h1
    clear h1 H k1 k2 k3 k4 k5 d0 d1 p q
    generalize hc_ : x.f0.f3 = cold at cgx3 h
    clear hc_
    have HV := Aside0.mk h
    clear h
    cases cold with
    | true =>
      go_upto_region 20 with (fail)
      go_quiet (first | (go_at_call 42; (with_reducible refine (spec_l12Cold.calls k _ _ l1 x.f1.f0 _ _ (by repeat (first | exact Kd.C_below HR1.out HD.out | (with_reducible refine Kd.C_drewN ?_ _) | (with_reducible refine Kd.C_drew ?_))) HC1.out H1.out).mono ?_); rintro e w' ⟨rfl, ⟨⟨nd, rfl⟩⟩⟩; (first | exact ⟨rfl, _, World.drewN_drewN _ _ _⟩ | exact ⟨rfl, _, Eq.trans (World.drewN_drewN _ _ _) (congrArg (World.drewN _) (Nat.add_assoc _ _ _))⟩ | exact ⟨rfl, _, rfl⟩)))
      try go_wp2
      go_ret
      exact ⟨by rw [← HV.out]; first | rfl | simp, pw_below_drewN HD.out _⟩
    | false =>
      go_upto_region 20 with (fail)
      go_quiet (fail)
      try go_wp2
      go_ret
      exact ⟨by rw [← HV.out]; first | rfl | simp, pw_below_drewN HD.out _⟩
  have b6 : (a3 == 6) = false := beq_eq_false_iff_ne.2 k6
  have h := H.out
  rw [spec_l12Fails.g, if_neg k1, if_neg k2, if_neg k3, if_neg k4, if_neg k5, if_neg k6, spec_l12Fails.g7] at h
  by_cases hall : (l1.take a2.toNat).all (fun y => (spec_l12Fails.ka k x y).isSome) = true
  rotate_left
  · rw [if_neg hall] at h; cases h
  rw [if_pos hall] at h
  have HV := Aside0.mk (Option.some.inj h)
  have HK : Aside0 (∀ (i : Nat) (y : S51), i < a2.toNat → l1[i]? = some y → spec_l12Fails.ka k x y = some (spec_l12Fails.ka k x y == some true)) := ⟨fun i y hi hy => by
    obtain ⟨b, hb⟩ := Option.isSome_iff_exists.1 (List.all_eq_true.1 hall y (List.mem_of_getElem? (i := i) (by rw [List.getElem?_take_of_lt hi]; exact hy)))
    rw [hb]; cases b <;> rfl⟩
  clear h H hall k1 k2 k3 k4 k5 k6 cgx0 cgx1 cgx2 cgx3 cgx4 cgx5 cgx6 cgx7 cgx8 cgs0 cgs1 cgs2 d0 d1 p q
  go_wp2
  clear b1 b2 b3 b4 b5 b6
  go_loopg [12] a2.toNat (fun gg v12 wr => ∃ i : Int, v12 = .int .i64 i ∧ Aside0 (0 ≤ i ∧ i ≤ a2 ∧ a2.toNat - i.toNat ≤ gg) ∧ Aside0 (∀ j : Nat, j < i.toNat → ∀ y, l1[j]? = some y → (!(spec_l12Fails.ka k x y == some true)) = false) ∧ Aside0 (spec_l12Fails.St x gx gs w wr))
  case atStart => exact ⟨0, rfl, ⟨by have := HN.out; omega⟩, ⟨fun j hj => absurd hj (Nat.not_lt_zero _)⟩, HF⟩
  case round =>
    clear HF HD
    obtain ⟨i, rfl, HI, HM, HF⟩ := hrel
    by_cases hlt : i < a2
    · have h0 : 0 ≤ i := HI.out.1
      have hil : i < (l1.length : Int) := by have := HN.out; omega
      have HI2 := Aside0.mk (show i.toNat < a2.toNat ∧ (i + 1).toNat = i.toNat + 1 by have := HN.out; omega)
      have hy := spec_l12Fails.rd_at l1 i h0 hil
      obtain ⟨ad2, e_, hy0, hy1, hy2, hy3, hy4, hy5, hy6, hy7, hy8⟩ := at_T51 HR1.out i h0 hil
      obtain rfl : ad = ad2 := by injection e_
      generalize rd_T51 l1 i = y at hy hy0 hy1 hy2 hy3 hy4 hy5 hy6 hy7 hy8
      have HY := Aside0.mk hy
      clear hy e_
      have hw1 : wrap64 (i + 1) = i + 1 := by have := HN.out; unfold wrap64; omega
      have HW := Aside0.mk hw1
      clear hw1
      have d2 : decide (i < a2) = true := decide_eq_true hlt
      have d3 : decide (0 ≤ i) = true := decide_eq_true h0
      have d4 : decide (i < (l1.length : Int)) = true := decide_eq_true hil
      replace h0 := eq_true h0
      replace hil := eq_true hil
      replace hlt := eq_true hlt
      have HKY := Aside0.mk (HK.out i.toNat y HI2.out.1 HY.out)
      generalize hq : (spec_l12Fails.ka k x y == some true) = bq at HKY
      have HP := Aside0.mk hq
      have HKZ : Aside0 (spec_KeepsApart.f k y.f0.f0 y.f0.f1 y.f0.f2 y.f0.f3 y.f0.f4 y.f0.f5 y.f1.f0 y.f1.f1 y.f1.f2 x.f0.f0 x.f0.f1 x.f0.f2 x.f0.f3 x.f0.f4 x.f0.f5 x.f1.f0 x.f1.f1 x.f1.f2 = some bq) := ⟨HKY.out⟩
      have HXX := Aside0.mk (And.intro hy0 (And.intro hy1 (And.intro hy2 (And.intro hy3 (And.intro hy4 (And.intro hy5 (And.intro hy6 (And.intro hy7 hy8))))))))
      clear hq hy0 hy1 hy2 hy3 hy4 hy5 hy6 hy7 hy8
      have qx0 : ∀ q : spec_l12Fails.BelowW wr, q.W.cell? ⟨gx, 0, none⟩ = some (.string x.f0.f0) := fun q => (blk_cell (HF.out.below q.h).1 0).trans rfl
      have qx1 : ∀ q : spec_l12Fails.BelowW wr, q.W.cell? ⟨gx, 1, none⟩ = some (.int .i64 x.f0.f1) := fun q => (blk_cell (HF.out.below q.h).1 1).trans rfl
      have qx2 : ∀ q : spec_l12Fails.BelowW wr, q.W.cell? ⟨gx, 2, none⟩ = some (.int .i64 x.f0.f2) := fun q => (blk_cell (HF.out.below q.h).1 2).trans rfl
      have qx3 : ∀ q : spec_l12Fails.BelowW wr, q.W.cell? ⟨gx, 3, none⟩ = some (.bool x.f0.f3) := fun q => (blk_cell (HF.out.below q.h).1 3).trans rfl
      have qx4 : ∀ q : spec_l12Fails.BelowW wr, q.W.cell? ⟨gx, 4, none⟩ = some (.int .i64 x.f0.f4) := fun q => (blk_cell (HF.out.below q.h).1 4).trans rfl
      have qx5 : ∀ q : spec_l12Fails.BelowW wr, q.W.cell? ⟨gx, 5, none⟩ = some (.int .i64 x.f0.f5) := fun q => (blk_cell (HF.out.below q.h).1 5).trans rfl
      have qx6 : ∀ q : spec_l12Fails.BelowW wr, q.W.cell? ⟨gx, 6, none⟩ = some (.int .i64 x.f1.f0) := fun q => (blk_cell (HF.out.below q.h).1 6).trans rfl
      have qx7 : ∀ q : spec_l12Fails.BelowW wr, q.W.cell? ⟨gx, 7, none⟩ = some (.int .i64 x.f1.f1) := fun q => (blk_cell (HF.out.below q.h).1 7).trans rfl
      have qx8 : ∀ q : spec_l12Fails.BelowW wr, q.W.cell? ⟨gx, 8, none⟩ = some (.int .i64 x.f1.f2) := fun q => (blk_cell (HF.out.below q.h).1 8).trans rfl
      have qs0 : ∀ q : spec_l12Fails.BelowW wr, q.W.cell? ⟨gs, 0, none⟩ = some (.int .i64 x.f1.f0) := fun q => (blk_cell (HF.out.below q.h).2.1 0).trans rfl
      have qs1 : ∀ q : spec_l12Fails.BelowW wr, q.W.cell? ⟨gs, 1, none⟩ = some (.int .i64 x.f1.f1) := fun q => (blk_cell (HF.out.below q.h).2.1 1).trans rfl
      have qs2 : ∀ q : spec_l12Fails.BelowW wr, q.W.cell? ⟨gs, 2, none⟩ = some (.int .i64 x.f1.f2) := fun q => (blk_cell (HF.out.below q.h).2.1 2).trans rfl
      have qy0 : ∀ q : spec_l12Fails.BelowW wr, q.W.cell? (ad.add (i.toNat * 9)) = some (.string y.f0.f0) := fun q => pw_cell_below (below_step HF.out.2.2 q.h) HXX.out.1
      have qy1 : ∀ q : spec_l12Fails.BelowW wr, q.W.cell? ⟨(ad.add (i.toNat * 9)).block, (ad.add (i.toNat * 9)).off + 1, none⟩ = some (.int .i64 y.f0.f1) := fun q => pw_cell_below (below_step HF.out.2.2 q.h) HXX.out.2.1
      have qy2 : ∀ q : spec_l12Fails.BelowW wr, q.W.cell? ⟨(ad.add (i.toNat * 9)).block, (ad.add (i.toNat * 9)).off + 2, none⟩ = some (.int .i64 y.f0.f2) := fun q => pw_cell_below (below_step HF.out.2.2 q.h) HXX.out.2.2.1
      have qy3 : ∀ q : spec_l12Fails.BelowW wr, q.W.cell? ⟨(ad.add (i.toNat * 9)).block, (ad.add (i.toNat * 9)).off + 3, none⟩ = some (.bool y.f0.f3) := fun q => pw_cell_below (below_step HF.out.2.2 q.h) HXX.out.2.2.2.1
      have qy4 : ∀ q : spec_l12Fails.BelowW wr, q.W.cell? ⟨(ad.add (i.toNat * 9)).block, (ad.add (i.toNat * 9)).off + 4, none⟩ = some (.int .i64 y.f0.f4) := fun q => pw_cell_below (below_step HF.out.2.2 q.h) HXX.out.2.2.2.2.1
      have qy5 : ∀ q : spec_l12Fails.BelowW wr, q.W.cell? ⟨(ad.add (i.toNat * 9)).block, (ad.add (i.toNat * 9)).off + 5, none⟩ = some (.int .i64 y.f0.f5) := fun q => pw_cell_below (below_step HF.out.2.2 q.h) HXX.out.2.2.2.2.2.1
      have qy6 : ∀ q : spec_l12Fails.BelowW wr, q.W.cell? ⟨(ad.add (i.toNat * 9)).block, (ad.add (i.toNat * 9)).off + 6, none⟩ = some (.int .i64 y.f1.f0) := fun q => pw_cell_below (below_step HF.out.2.2 q.h) HXX.out.2.2.2.2.2.2.1
      have qy7 : ∀ q : spec_l12Fails.BelowW wr, q.W.cell? ⟨(ad.add (i.toNat * 9)).block, (ad.add (i.toNat * 9)).off + 7, none⟩ = some (.int .i64 y.f1.f1) := fun q => pw_cell_below (below_step HF.out.2.2 q.h) HXX.out.2.2.2.2.2.2.2.1
      have qy8 : ∀ q : spec_l12Fails.BelowW wr, q.W.cell? ⟨(ad.add (i.toNat * 9)).block, (ad.add (i.toNat * 9)).off + 8, none⟩ = some (.int .i64 y.f1.f2) := fun q => pw_cell_below (below_step HF.out.2.2 q.h) HXX.out.2.2.2.2.2.2.2.2
      go_upto_region 24 with (fail)
      refine spec_l12Fails.quietB (by kernel_rfl) (by kernel_rfl) ?_
      repeat (quiet_step (first | (go_at_call 43; (with_reducible refine (spec_KeepsApart.calls k y.f0.f0 y.f0.f1 y.f0.f2 y.f0.f3 y.f0.f4 y.f0.f5 y.f1.f0 y.f1.f1 y.f1.f2 x.f0.f0 x.f0.f1 x.f0.f2 x.f0.f3 x.f0.f4 x.f0.f5 x.f1.f0 x.f1.f1 x.f1.f2 bq _ HKZ.out).mono ?_); rename_i q; rintro e w' ⟨rfl, hb⟩; exact ⟨rfl, ⟨⟨w', below_step q.h hb⟩, rfl⟩⟩)))
      refine wpQuiet_nil ?_
      intro _ hw'
      obtain ⟨q, hw''⟩ := hw'
      subst hw''
      have HF2 := Aside0.mk (HF.out.below q.h)
      clear HF qx0 qx1 qx2 qx3 qx4 qx5 qx6 qx7 qx8 qs0 qs1 qs2 qy0 qy1 qy2 qy3 qy4 qy5 qy6 qy7 qy8
      generalize q.W = w9 at HF2 ⊢
      cases bq with
      | false =>
        go_wp2
        go_ret
        exact ⟨by rw [← HV.out, spec_l12Fails.hit HI2.out.1 HY.out (by rw [HP.out]; rfl)]; rfl, HF2.out.2.2⟩
      | true =>
        have HP2 : Aside0 ((!(spec_l12Fails.ka k x y == some true)) = false) := ⟨by rw [HP.out]; rfl⟩
        go_wp2
        go_roundg (a2.toNat - (i + 1).toNat)
        case measure => have := HI.out; have := HI2.out; omega
        case rel => exact ⟨i + 1, (by first | rfl | (rw [HW.out])), ⟨by have := HI.out; have := HI2.out; omega⟩, ⟨fun j hj y' hy' => if ej : j = i.toNat then by subst ej; rw [HY.out] at hy'; obtain rfl := Option.some.inj hy'; exact HP2.out else HM.out j (by have := HI2.out; omega) y' hy'⟩, HF2⟩
    · have d2 : decide (i < a2) = false := decide_eq_false hlt
      have HJ := Aside0.mk (show i.toNat = a2.toNat by have := HI.out; omega)
      clear hlt
      go_wp2
      go_ret
      exact ⟨by rw [← HV.out, spec_l12Fails.miss (fun j hj y hy => HM.out j (by rw [HJ.out]; exact hj) y hy)]; rfl, HF.out.2.2⟩


end Go.Proofs.Ythfkmjbefdmopaa.PA
