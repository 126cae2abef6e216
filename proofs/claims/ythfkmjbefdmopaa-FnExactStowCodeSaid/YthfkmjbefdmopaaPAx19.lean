/- What Go's functions that the laws reach come to: laid by a program of this session over the print's words. -/
import Derived.Test.YthfkmjbefdmopaaPAx0
import Derived.Test.YthfkmjbefdmopaaPAx1
import Derived.Test.YthfkmjbefdmopaaPAx11
import Derived.Test.YthfkmjbefdmopaaPAx12
import Derived.Test.YthfkmjbefdmopaaPAx14
import Derived.Test.YthfkmjbefdmopaaPAx15
import Derived.Test.YthfkmjbefdmopaaPAx17
import Derived.Test.YthfkmjbefdmopaaPAx18
namespace Go.Proofs.Ythfkmjbefdmopaa.PA
open Go.RowKit Go.Proofs.YthfkmjbefdmopaaW.PrintWords Go.Proofs.YthfkmjbefdmopaaW.PrintLast Go.Proofs.YthfkmjbefdmopaaW.PrintMore
attribute [local go_sem] max2_int min2_int max_two min_two max_three min_three max_four min_four   -- for this text's walks alone
set_option linter.unusedVariables false
set_option linter.unusedSimpArgs false

/-! ### slices.SortFunc of at most 12 elements: what insertionSortCmpFunc leaves -/
set_option maxHeartbeats 4000000 in
set_option maxRecDepth 100000 in
theorem impl_StowCode.len64 (n : Nat) (hn : n ≤ 12) (w : World) : Calls Try.prog 80 #[.int .u64 n] w fun e w' => ∃ r : Int, e = .returned (.int .i64 r) ∧ Drawn0 w w' := by
  have h1 : decide ((n : Int) ≥ 4294967296) = false := decide_eq_false (by omega)
  have h2 : decide ((n : Int) ≥ 65536) = false := decide_eq_false (by omega)
  have h3 : decide ((n : Int) ≥ 256) = false := decide_eq_false (by omega)
  have g1 : decide (4294967296 ≤ (n : Int)) = false := decide_eq_false (by omega)
  have g2 : decide (65536 ≤ (n : Int)) = false := decide_eq_false (by omega)
  have g3 : decide (256 ≤ (n : Int)) = false := decide_eq_false (by omega)
  go_enter Try.func80, Try.ntmps80
  go_wp2
  go_ret
  exact ⟨_, rfl, Drawn0.refl _⟩
set_option maxHeartbeats 4000000 in
set_option maxRecDepth 100000 in
theorem impl_StowCode.len (n : Nat) (hn : n ≤ 12) (w : World) : Calls Try.prog 66 #[.int .u64 n] w fun e w' => ∃ r : Int, e = .returned (.int .i64 r) ∧ Drawn0 w w' := by
  have hcon := impl_StowCode.len64 n hn w
  go_enter Try.func66, Try.ntmps66
  go_wp2_with (go_at_call 80; refine hcon.mono ?_; rintro e w' ⟨r, rfl, ⟨q, rfl⟩⟩)
  go_ret
  exact ⟨_, rfl, ⟨_, rfl⟩⟩
set_option maxHeartbeats 4000000 in
set_option maxRecDepth 100000 in
theorem impl_StowCode.pdq (f gd n c : Nat) (r : Int) (hn : n ≤ 12) (Q : World → Prop) (W : World) (hcon : Calls Try.prog 71 #[.slice (some ⟨gd, 0, none⟩) n c, .int .i64 0, .int .i64 n, .func (.func f) #[] #[]] W fun e w' => e = .returned (.tuple #[]) ∧ Q w') :
    Calls Try.prog 65 #[.slice (some ⟨gd, 0, none⟩) n c, .int .i64 0, .int .i64 n, .int .i64 r, .func (.func f) #[] #[]] W fun e w' => e = .returned (.tuple #[]) ∧ Q w' := by
  have w1 : wrap64 ((n : Int) - 0) = n := by unfold wrap64; omega
  have w2 : wrap64 (n : Int) = n := by unfold wrap64; omega
  have d1 : decide ((n : Int) ≤ 12) = true := decide_eq_true (by omega)
  go_enter Try.func65, Try.ntmps65
  have HCON := Aside0.mk hcon
  clear hcon
  go_wp2
  go_loopg [1, 2] 0 (fun gg v1 v2 wr => v1 = .int .i64 0 ∧ v2 = .int .i64 n ∧ Aside0 (wr = W))
  case atStart => exact ⟨rfl, rfl, ⟨rfl⟩⟩
  case round =>
    obtain ⟨rfl, rfl, ⟨rfl⟩⟩ := hrel
    go_wp2_with (go_at_call 71; refine HCON.out.mono ?_; rintro e w' ⟨rfl, hq⟩)
    refine bodyPost_ret (results_none rfl _ _ _) rfl ?_
    exact ⟨rfl, hq⟩
set_option maxHeartbeats 4000000 in
set_option maxRecDepth 100000 in
theorem impl_StowCode.sortFunc (f gd n c : Nat) (hn : n ≤ 12) (Q : World → Prop) (W : World) (hcon : ∀ W', Drawn0 W W' → Calls Try.prog 71 #[.slice (some ⟨gd, 0, none⟩) n c, .int .i64 0, .int .i64 n, .func (.func f) #[] #[]] W' fun e w' => e = .returned (.tuple #[]) ∧ Q w') :
    Calls Try.prog 51 #[.slice (some ⟨gd, 0, none⟩) n c, .func (.func f) #[] #[]] W fun e w' => e = .returned (.tuple #[]) ∧ Q w' := by
  have h1 := impl_StowCode.len n hn
  have h2 := fun (W' : World) (r : Int) (hd : Drawn0 W W') => impl_StowCode.pdq f gd n c r hn Q W' (hcon W' hd)
  have hu : IntKind.u64.wrap (n : Int) = n := by rw [IntKind.wrap_u64]; omega
  have H1 := Aside0.mk h1
  have H2 := Aside0.mk h2
  clear h1 h2 hcon
  go_enter Try.func51, Try.ntmps51
  go_wp2_with (first | (go_at_call 66; refine (H1.out _).mono ?_; rintro e w' ⟨r, rfl, ⟨q, rfl⟩⟩) | (go_at_call 65; refine (H2.out _ _ (by first | exact Drawn0.refl _ | exact ⟨⟨_, rfl⟩⟩)).mono ?_; rintro e w' ⟨rfl, hq⟩))
  refine bodyPost_end (results_none rfl _ _ _) rfl ?_
  exact ⟨rfl, hq⟩
/-- The nine cells of a box in its place. -/
def impl_StowCode.enc (x : S51) : Nat → Value
  | 0 => .string x.f0.f0
  | 1 => .int .i64 x.f0.f1
  | 2 => .int .i64 x.f0.f2
  | 3 => .bool x.f0.f3
  | 4 => .int .i64 x.f0.f4
  | 5 => .int .i64 x.f0.f5
  | 6 => .int .i64 x.f1.f0
  | 7 => .int .i64 x.f1.f1
  | _ => .int .i64 x.f1.f2
/-- Block gd holds the boxes g 0, g 1, .. (n of them). -/
def impl_StowCode.At (n c gd : Nat) (W : World) (g : Nat → S51) : Prop := ∃ cur : Array Value, W.heap[gd]? = some (.cells cur 51 (0, 0)) ∧ cur.size = c * 9 ∧ ∀ t, t < n → ∀ j, j < 9 → cur[t * 9 + j]? = some (impl_StowCode.enc (g t) j)
theorem impl_StowCode.At.cell {n c gd : Nat} {W : World} {g : Nat → S51} (h : impl_StowCode.At n c gd W g) (t j : Nat) (ht : t < n) (hj : j < 9) : W.cell? ⟨gd, t * 9 + j, none⟩ = some (impl_StowCode.enc (g t) j) := by
  obtain ⟨cur, h1, h2⟩ := h
  exact (blk_cell h1 _).trans (h2.2 t ht j hj)
theorem impl_StowCode.At.frozen {n c gd : Nat} {W : World} {g : Nat → S51} (h : impl_StowCode.At n c gd W g) (i : Nat) : W.frozen? ⟨gd, i, none⟩ = false := by
  obtain ⟨cur, h1, h2⟩ := h
  exact blk_frozen h1 i
theorem impl_StowCode.At.below {n c gd : Nat} {W W1 : World} {g : Nat → S51} (h : impl_StowCode.At n c gd W g) (hb : Below W.heap.size W W1) : impl_StowCode.At n c gd W1 g := by
  obtain ⟨cur, h1, h2⟩ := h
  exact ⟨cur, blk_below h1 hb, h2⟩
theorem impl_StowCode.At.far {n c gd : Nat} {W : World} {g : Nat → S51} (h : impl_StowCode.At n c gd W g) {p : Addr} (hp : gd ≠ p.block) (u : Value) : impl_StowCode.At n c gd (W.setCell p u) g := by
  obtain ⟨cur, h1, h2⟩ := h
  exact ⟨cur, blk_far h1 hp u, h2⟩
/-- Some of the cells of place t are x's already: the first m. -/
def impl_StowCode.Half (n c gd : Nat) (W : World) (g : Nat → S51) (t m : Nat) (x : S51) : Prop := ∃ cur : Array Value, W.heap[gd]? = some (.cells cur 51 (0, 0)) ∧ cur.size = c * 9 ∧ ∀ u, u < n → ∀ j, j < 9 → cur[u * 9 + j]? = some (if u = t ∧ j < m then impl_StowCode.enc x j else impl_StowCode.enc (g u) j)
theorem impl_StowCode.At.half {n c gd : Nat} {W : World} {g : Nat → S51} (h : impl_StowCode.At n c gd W g) (t : Nat) (x : S51) : impl_StowCode.Half n c gd W g t 0 x := by
  obtain ⟨cur, h1, h2⟩ := h
  exact ⟨cur, h1, h2.1, fun u hu j hj => by rw [if_neg (by omega)]; exact h2.2 u hu j hj⟩
theorem impl_StowCode.Half.put {n c gd : Nat} {W : World} {g : Nat → S51} {t m : Nat} {x : S51} (h : impl_StowCode.Half n c gd W g t m x) (hm : m < 9) (ht : t < n) : impl_StowCode.Half n c gd (W.setCell ⟨gd, t * 9 + m, none⟩ (impl_StowCode.enc x m)) g t (m + 1) x := by
  obtain ⟨cur, h1, h2⟩ := h
  refine ⟨_, blk_set h1 (t * 9 + m) (impl_StowCode.enc x m), by rw [Array.size_setIfInBounds]; exact h2.1, fun u hu j hj => ?_⟩
  have h3 := h2.2 u hu j hj
  have hs : u * 9 + j < cur.size := (Array.getElem?_eq_some_iff.1 h3).1
  rw [Array.getElem?_setIfInBounds]
  by_cases c_ : t * 9 + m = u * 9 + j
  · have h4 : t = u := by omega
    have h5 : m = j := by omega
    subst h4 h5
    rw [if_pos rfl, if_pos hs, if_pos ⟨rfl, by omega⟩]
  · rw [if_neg c_, h3]
    by_cases d : u = t ∧ j < m
    · rw [if_pos d, if_pos ⟨d.1, by omega⟩]
    · rw [if_neg d, if_neg (fun e => d ⟨e.1, by omega⟩)]
theorem impl_StowCode.Half.done {n c gd : Nat} {W : World} {g : Nat → S51} {t : Nat} {x : S51} (h : impl_StowCode.Half n c gd W g t 9 x) : impl_StowCode.At n c gd W (fun u => if u = t then x else g u) := by
  obtain ⟨cur, h1, h2⟩ := h
  refine ⟨cur, h1, h2.1, fun u hu j hj => ?_⟩
  rw [h2.2 u hu j hj]
  by_cases c_ : u = t
  · rw [if_pos ⟨c_, hj⟩]; simp only [if_pos c_]
  · rw [if_neg (fun e => c_ e.1)]; simp only [if_neg c_]
theorem impl_StowCode.At.store9 {n c gd : Nat} {W : World} {g : Nat → S51} (h : impl_StowCode.At n c gd W g) (t : Nat) (ht : t < n) (x : S51) : impl_StowCode.At n c gd (((((((((W.setCell ⟨gd, t * 9, none⟩ (.string x.f0.f0)).setCell ⟨gd, t * 9 + 1, none⟩ (.int .i64 x.f0.f1)).setCell ⟨gd, t * 9 + 2, none⟩ (.int .i64 x.f0.f2)).setCell ⟨gd, t * 9 + 3, none⟩ (.bool x.f0.f3)).setCell ⟨gd, t * 9 + 4, none⟩ (.int .i64 x.f0.f4)).setCell ⟨gd, t * 9 + 5, none⟩ (.int .i64 x.f0.f5)).setCell ⟨gd, t * 9 + 6, none⟩ (.int .i64 x.f1.f0)).setCell ⟨gd, t * 9 + 7, none⟩ (.int .i64 x.f1.f1)).setCell ⟨gd, t * 9 + 8, none⟩ (.int .i64 x.f1.f2)) (fun u => if u = t then x else g u) := by
  have h0 := h.half t x
  have h1 := h0.put (by decide) ht
  have h2 := h1.put (by decide) ht
  have h3 := h2.put (by decide) ht
  have h4 := h3.put (by decide) ht
  have h5 := h4.put (by decide) ht
  have h6 := h5.put (by decide) ht
  have h7 := h6.put (by decide) ht
  have h8 := h7.put (by decide) ht
  have h9 := h8.put (by decide) ht
  exact h9.done
theorem impl_StowCode.below9 {w0 W : World} {gd : Nat} (h : Below w0.heap.size w0 W) (hg : w0.heap.size ≤ gd) (t : Nat) (x : S51) : Below w0.heap.size w0 (((((((((W.setCell ⟨gd, t * 9, none⟩ (.string x.f0.f0)).setCell ⟨gd, t * 9 + 1, none⟩ (.int .i64 x.f0.f1)).setCell ⟨gd, t * 9 + 2, none⟩ (.int .i64 x.f0.f2)).setCell ⟨gd, t * 9 + 3, none⟩ (.bool x.f0.f3)).setCell ⟨gd, t * 9 + 4, none⟩ (.int .i64 x.f0.f4)).setCell ⟨gd, t * 9 + 5, none⟩ (.int .i64 x.f0.f5)).setCell ⟨gd, t * 9 + 6, none⟩ (.int .i64 x.f1.f0)).setCell ⟨gd, t * 9 + 7, none⟩ (.int .i64 x.f1.f1)).setCell ⟨gd, t * 9 + 8, none⟩ (.int .i64 x.f1.f2)) := by
  exact below_set (below_set (below_set (below_set (below_set (below_set (below_set (below_set (below_set h hg) hg) hg) hg) hg) hg) hg) hg) hg
theorem impl_StowCode.At.drew {n c gd : Nat} {W : World} {g : Nat → S51} (h : impl_StowCode.At n c gd W g) : impl_StowCode.At n c gd W.drew g := h
structure impl_StowCode.BelowW (w : World) where
  W : World
  h : Below w.heap.size w W
instance impl_StowCode.belowW_inhabited (w : World) : Inhabited (impl_StowCode.BelowW w) := ⟨⟨w, Below.refl _ _⟩⟩
theorem impl_StowCode.quietB {P : Program} {id : Nat} {Q : Exit → Act → World → Prop} {a : Act} {w : World} {l : List Oper} (hm : P.follows .mixedOrders = true) (hB : Region.lexB .any l.toArray = true)
    (h : wpQuiet P l.toArray (fun w' => ∃ p : impl_StowCode.BelowW w, w' = p.W) (fun a' => ∀ w', (∃ p : impl_StowCode.BelowW w, w' = p.W) → Q .normal a' w') l a) : (Code.region id l.toArray true).wp P Q a w :=
  wp_region_quiet (C := fun w' => ∃ p : impl_StowCode.BelowW w, w' = p.W) hm hB ⟨⟨w.drew, (Below.refl _ _).drew⟩, rfl⟩ (by simpa using h)
theorem impl_StowCode.BelowW.cell {w : World} {g i : Nat} {v : Value} {t : TypeId} {cs : Array Value} (p : impl_StowCode.BelowW w) (hb : w.heap[g]? = some (.cells cs t (0, 0))) (h : w.cell? ⟨g, i, none⟩ = some v) : p.W.cell? ⟨g, i, none⟩ = some v := by
  rw [← h, blk_cell hb, blk_cell (blk_below hb p.h)]
def impl_StowCode.sw (g : Nat → S51) (i j : Nat) : Nat → S51 := fun t => if t = j then g i else if t = i then g j else g t
def impl_StowCode.insI (cf : S51 → S51 → Int) (a : Nat) : Nat → (Nat → S51) → Nat → S51
  | 0, g => g
  | j + 1, g => if a < j + 1 ∧ cf (g (j + 1)) (g j) < 0 then impl_StowCode.insI cf a j (impl_StowCode.sw g (j + 1) j) else g
def impl_StowCode.insO (cf : S51 → S51 → Int) (a : Nat) : Nat → Nat → (Nat → S51) → Nat → S51
  | 0, _, g => g
  | c + 1, i, g => impl_StowCode.insO cf a c (i + 1) (impl_StowCode.insI cf a i g)
theorem impl_StowCode.insI_stop (cf : S51 → S51 → Int) (a j : Nat) (g : Nat → S51) (h : ¬ a < j) : impl_StowCode.insI cf a j g = g := by
  cases j with
  | zero => rfl
  | succ j => rw [impl_StowCode.insI, if_neg (fun e => h e.1)]
def impl_StowCode.agg (x : S51) : Value := .agg #[.string x.f0.f0, .int .i64 x.f0.f1, .int .i64 x.f0.f2, .bool x.f0.f3, .int .i64 x.f0.f4, .int .i64 x.f0.f5, .int .i64 x.f1.f0, .int .i64 x.f1.f1, .int .i64 x.f1.f2]
set_option maxHeartbeats 4000000 in
set_option maxRecDepth 100000 in
theorem impl_StowCode.insertion (f n c gd : Nat) (cf : S51 → S51 → Int) (hn : n ≤ 12) (w0 W : World) (g : Nat → S51) (hgd : w0.heap.size ≤ gd) (hB : Below w0.heap.size w0 W) (eg : ∀ args w, (callFunc f args).run Try.prog w = .ok (.enter f args) w) (HK : Aside0 (∀ (W : World) (x y : S51), Calls Try.prog f #[impl_StowCode.agg x, impl_StowCode.agg y] W fun e w' => e = .returned (.int .i64 (cf x y)) ∧ Below W.heap.size W w')) (hc : n ≤ c) (hS : impl_StowCode.At n c gd W g) :
    Calls Try.prog 71 #[.slice (some ⟨gd, 0, none⟩) n c, .int .i64 0, .int .i64 n, .func (.func f) #[] #[]] W fun e w' => e = .returned (.tuple #[]) ∧ (impl_StowCode.At n c gd w' (impl_StowCode.insO cf 0 (n - 1) 1 g) ∧ Below w0.heap.size w0 w') := by
  have hu := Try.underlying30
  have hu2 := Try.underlying51
  have HA := Aside0.mk (And.intro hn (And.intro hc hgd))
  have HS := Aside0.mk hS
  have HB := Aside0.mk hB
  clear hn hc hgd hS hB
  go_enter Try.func71, Try.ntmps71
  go_wp2
  go_loopg [8] (n - 1) (fun gg v8 wr => ∃ (i : Int) (h : Nat → S51), v8 = .int .i64 i ∧ Aside0 (1 ≤ i ∧ (i ≤ n ∨ i = 1) ∧ ((n : Int) - i).toNat ≤ gg) ∧ Aside0 (impl_StowCode.At n c gd wr h) ∧ Aside0 (impl_StowCode.insO cf 0 ((n : Int) - i).toNat i.toNat h = impl_StowCode.insO cf 0 (n - 1) 1 g) ∧ Aside0 (Below w0.heap.size w0 wr))
  case atStart => exact ⟨1, g, (by first | rfl | simp), ⟨by omega⟩, HS, ⟨by rw [show ((n : Int) - 1).toNat = n - 1 by omega]; rfl⟩, HB⟩
  case round =>
    clear HS HB
    obtain ⟨i, h, rfl, HI, HS, HV, HB⟩ := hrel
    by_cases hlt : i < (n : Int)
    · have d0 : decide (i < (n : Int)) = true := decide_eq_true hlt
      have HL := Aside0.mk hlt
      clear hlt
      go_wp2
      go_loopg [9] i.toNat (fun gg v9 wr => ∃ (j : Int) (p : Nat → S51), v9 = .int .i64 j ∧ Aside0 (0 ≤ j ∧ j ≤ i ∧ j.toNat ≤ gg) ∧ Aside0 (impl_StowCode.At n c gd wr p) ∧ Aside0 (impl_StowCode.insI cf 0 j.toNat p = impl_StowCode.insI cf 0 i.toNat h) ∧ Aside0 (Below w0.heap.size w0 wr))
      case atStart => exact ⟨i, h, rfl, ⟨by have := HI.out; omega⟩, HS, ⟨rfl⟩, HB⟩
      case round =>
        clear HS HB
        obtain ⟨j, p, rfl, HJ, HS, HP, HB⟩ := hrel
        by_cases hja : 0 < j
        · have e0 : decide (0 < j) = true := decide_eq_true hja
          have e1 : decide (j > 0) = true := decide_eq_true hja
          obtain ⟨aj, haj⟩ : ∃ q, q = j.toNat := ⟨_, rfl⟩
          obtain ⟨bj, hbj⟩ : ∃ q, q = (j - 1).toNat := ⟨_, rfl⟩
          have HY := Aside0.mk (show aj = j.toNat ∧ bj = (j - 1).toNat ∧ aj < n ∧ bj < n by have := HA.out; have := HJ.out; have := HL.out; omega)
          have ea : j.toNat = aj := haj.symm
          have eb : (j - 1).toNat = bj := hbj.symm
          have eb2 : j.toNat - 1 = bj := by omega
          have eb3 : aj - 1 = bj := by omega
          have ra : IntKind.i64.wrap (j - 1) = j - 1 := by have := HA.out; have := HJ.out; have := HL.out; rw [IntKind.wrap_i64]; omega
          have wa : wrap64 (j - 1) = j - 1 := by have := HA.out; have := HJ.out; have := HL.out; unfold wrap64; omega
          have p0 : (0 : Int) ≤ j := by omega
          have p1 : (0 : Int) ≤ j - 1 := by omega
          have p2 : (1 : Int) ≤ j := by omega
          have b0 : j < (n : Int) := by have := HJ.out; have := HL.out; omega
          have b1 : j - 1 < (n : Int) := by omega
          have b2 : j < (n : Int) + 1 := by omega
          have hca0 : ∀ q : impl_StowCode.BelowW wr, q.W.cell? ⟨gd, aj * 9, none⟩ = some (.string (p aj).f0.f0) := fun q => (HS.out.below q.h).cell aj 0 (by have := HY.out; omega) (by decide)
          have hca1 : ∀ q : impl_StowCode.BelowW wr, q.W.cell? ⟨gd, aj * 9 + 1, none⟩ = some (.int .i64 (p aj).f0.f1) := fun q => (HS.out.below q.h).cell aj 1 (by have := HY.out; omega) (by decide)
          have hca2 : ∀ q : impl_StowCode.BelowW wr, q.W.cell? ⟨gd, aj * 9 + 2, none⟩ = some (.int .i64 (p aj).f0.f2) := fun q => (HS.out.below q.h).cell aj 2 (by have := HY.out; omega) (by decide)
          have hca3 : ∀ q : impl_StowCode.BelowW wr, q.W.cell? ⟨gd, aj * 9 + 3, none⟩ = some (.bool (p aj).f0.f3) := fun q => (HS.out.below q.h).cell aj 3 (by have := HY.out; omega) (by decide)
          have hca4 : ∀ q : impl_StowCode.BelowW wr, q.W.cell? ⟨gd, aj * 9 + 4, none⟩ = some (.int .i64 (p aj).f0.f4) := fun q => (HS.out.below q.h).cell aj 4 (by have := HY.out; omega) (by decide)
          have hca5 : ∀ q : impl_StowCode.BelowW wr, q.W.cell? ⟨gd, aj * 9 + 5, none⟩ = some (.int .i64 (p aj).f0.f5) := fun q => (HS.out.below q.h).cell aj 5 (by have := HY.out; omega) (by decide)
          have hca6 : ∀ q : impl_StowCode.BelowW wr, q.W.cell? ⟨gd, aj * 9 + 6, none⟩ = some (.int .i64 (p aj).f1.f0) := fun q => (HS.out.below q.h).cell aj 6 (by have := HY.out; omega) (by decide)
          have hca7 : ∀ q : impl_StowCode.BelowW wr, q.W.cell? ⟨gd, aj * 9 + 7, none⟩ = some (.int .i64 (p aj).f1.f1) := fun q => (HS.out.below q.h).cell aj 7 (by have := HY.out; omega) (by decide)
          have hca8 : ∀ q : impl_StowCode.BelowW wr, q.W.cell? ⟨gd, aj * 9 + 8, none⟩ = some (.int .i64 (p aj).f1.f2) := fun q => (HS.out.below q.h).cell aj 8 (by have := HY.out; omega) (by decide)
          have hcb0 : ∀ q : impl_StowCode.BelowW wr, q.W.cell? ⟨gd, bj * 9, none⟩ = some (.string (p bj).f0.f0) := fun q => (HS.out.below q.h).cell bj 0 (by have := HY.out; omega) (by decide)
          have hcb1 : ∀ q : impl_StowCode.BelowW wr, q.W.cell? ⟨gd, bj * 9 + 1, none⟩ = some (.int .i64 (p bj).f0.f1) := fun q => (HS.out.below q.h).cell bj 1 (by have := HY.out; omega) (by decide)
          have hcb2 : ∀ q : impl_StowCode.BelowW wr, q.W.cell? ⟨gd, bj * 9 + 2, none⟩ = some (.int .i64 (p bj).f0.f2) := fun q => (HS.out.below q.h).cell bj 2 (by have := HY.out; omega) (by decide)
          have hcb3 : ∀ q : impl_StowCode.BelowW wr, q.W.cell? ⟨gd, bj * 9 + 3, none⟩ = some (.bool (p bj).f0.f3) := fun q => (HS.out.below q.h).cell bj 3 (by have := HY.out; omega) (by decide)
          have hcb4 : ∀ q : impl_StowCode.BelowW wr, q.W.cell? ⟨gd, bj * 9 + 4, none⟩ = some (.int .i64 (p bj).f0.f4) := fun q => (HS.out.below q.h).cell bj 4 (by have := HY.out; omega) (by decide)
          have hcb5 : ∀ q : impl_StowCode.BelowW wr, q.W.cell? ⟨gd, bj * 9 + 5, none⟩ = some (.int .i64 (p bj).f0.f5) := fun q => (HS.out.below q.h).cell bj 5 (by have := HY.out; omega) (by decide)
          have hcb6 : ∀ q : impl_StowCode.BelowW wr, q.W.cell? ⟨gd, bj * 9 + 6, none⟩ = some (.int .i64 (p bj).f1.f0) := fun q => (HS.out.below q.h).cell bj 6 (by have := HY.out; omega) (by decide)
          have hcb7 : ∀ q : impl_StowCode.BelowW wr, q.W.cell? ⟨gd, bj * 9 + 7, none⟩ = some (.int .i64 (p bj).f1.f1) := fun q => (HS.out.below q.h).cell bj 7 (by have := HY.out; omega) (by decide)
          have hcb8 : ∀ q : impl_StowCode.BelowW wr, q.W.cell? ⟨gd, bj * 9 + 8, none⟩ = some (.int .i64 (p bj).f1.f2) := fun q => (HS.out.below q.h).cell bj 8 (by have := HY.out; omega) (by decide)
          clear haj hbj
          go_upto_region 4 with (fail)
          refine impl_StowCode.quietB (by kernel_rfl) (by kernel_rfl) ?_
          repeat (quiet_step (first | (go_at_fn f; refine (HK.out _ (p aj) (p bj)).mono ?_; rename_i q; rintro e w' ⟨rfl, hb⟩; exact ⟨rfl, ⟨⟨w', below_step q.h hb⟩, rfl⟩⟩)))
          refine wpQuiet_nil ?_
          intro _ hw'
          obtain ⟨q, hw''⟩ := hw'
          subst hw''
          have HS2 := Aside0.mk (HS.out.below q.h)
          have HB2 := Aside0.mk (below_step HB.out q.h)
          clear HS HB hca0 hcb0 hca1 hcb1 hca2 hcb2 hca3 hcb3 hca4 hcb4 hca5 hcb5 hca6 hcb6 hca7 hcb7 hca8 hcb8
          generalize q.W = w5 at HS2 HB2 ⊢
          have hpv := HP.out
          have hst : impl_StowCode.insI cf 0 aj p = if cf (p aj) (p bj) < 0 then impl_StowCode.insI cf 0 bj (impl_StowCode.sw p aj bj) else p := by
            rw [show aj = bj + 1 by omega, impl_StowCode.insI]
            by_cases c : cf (p (bj + 1)) (p bj) < 0
            · rw [if_pos ⟨by omega, c⟩, if_pos c]
            · rw [if_neg (fun e => c e.2), if_neg c]
          rw [ea, hst] at hpv
          clear hst HP
          by_cases hneg : cf (p aj) (p bj) < 0
          · have f0 : decide (cf (p aj) (p bj) < 0) = true := decide_eq_true hneg
            rw [f0]
            rw [if_pos hneg] at hpv
            have HP2 := Aside0.mk hpv
            clear hneg f0 hpv
            have hca0 : w5.cell? ⟨gd, aj * 9, none⟩ = some (.string (p aj).f0.f0) := HS2.out.cell aj 0 (by have := HY.out; omega) (by decide)
            have hfa0 := HS2.out.frozen (aj * 9)
            have hca1 : w5.cell? ⟨gd, aj * 9 + 1, none⟩ = some (.int .i64 (p aj).f0.f1) := HS2.out.cell aj 1 (by have := HY.out; omega) (by decide)
            have hfa1 := HS2.out.frozen (aj * 9 + 1)
            have hca2 : w5.cell? ⟨gd, aj * 9 + 2, none⟩ = some (.int .i64 (p aj).f0.f2) := HS2.out.cell aj 2 (by have := HY.out; omega) (by decide)
            have hfa2 := HS2.out.frozen (aj * 9 + 2)
            have hca3 : w5.cell? ⟨gd, aj * 9 + 3, none⟩ = some (.bool (p aj).f0.f3) := HS2.out.cell aj 3 (by have := HY.out; omega) (by decide)
            have hfa3 := HS2.out.frozen (aj * 9 + 3)
            have hca4 : w5.cell? ⟨gd, aj * 9 + 4, none⟩ = some (.int .i64 (p aj).f0.f4) := HS2.out.cell aj 4 (by have := HY.out; omega) (by decide)
            have hfa4 := HS2.out.frozen (aj * 9 + 4)
            have hca5 : w5.cell? ⟨gd, aj * 9 + 5, none⟩ = some (.int .i64 (p aj).f0.f5) := HS2.out.cell aj 5 (by have := HY.out; omega) (by decide)
            have hfa5 := HS2.out.frozen (aj * 9 + 5)
            have hca6 : w5.cell? ⟨gd, aj * 9 + 6, none⟩ = some (.int .i64 (p aj).f1.f0) := HS2.out.cell aj 6 (by have := HY.out; omega) (by decide)
            have hfa6 := HS2.out.frozen (aj * 9 + 6)
            have hca7 : w5.cell? ⟨gd, aj * 9 + 7, none⟩ = some (.int .i64 (p aj).f1.f1) := HS2.out.cell aj 7 (by have := HY.out; omega) (by decide)
            have hfa7 := HS2.out.frozen (aj * 9 + 7)
            have hca8 : w5.cell? ⟨gd, aj * 9 + 8, none⟩ = some (.int .i64 (p aj).f1.f2) := HS2.out.cell aj 8 (by have := HY.out; omega) (by decide)
            have hfa8 := HS2.out.frozen (aj * 9 + 8)
            have hcb0 : w5.cell? ⟨gd, bj * 9, none⟩ = some (.string (p bj).f0.f0) := HS2.out.cell bj 0 (by have := HY.out; omega) (by decide)
            have hfb0 := HS2.out.frozen (bj * 9)
            have hcb1 : w5.cell? ⟨gd, bj * 9 + 1, none⟩ = some (.int .i64 (p bj).f0.f1) := HS2.out.cell bj 1 (by have := HY.out; omega) (by decide)
            have hfb1 := HS2.out.frozen (bj * 9 + 1)
            have hcb2 : w5.cell? ⟨gd, bj * 9 + 2, none⟩ = some (.int .i64 (p bj).f0.f2) := HS2.out.cell bj 2 (by have := HY.out; omega) (by decide)
            have hfb2 := HS2.out.frozen (bj * 9 + 2)
            have hcb3 : w5.cell? ⟨gd, bj * 9 + 3, none⟩ = some (.bool (p bj).f0.f3) := HS2.out.cell bj 3 (by have := HY.out; omega) (by decide)
            have hfb3 := HS2.out.frozen (bj * 9 + 3)
            have hcb4 : w5.cell? ⟨gd, bj * 9 + 4, none⟩ = some (.int .i64 (p bj).f0.f4) := HS2.out.cell bj 4 (by have := HY.out; omega) (by decide)
            have hfb4 := HS2.out.frozen (bj * 9 + 4)
            have hcb5 : w5.cell? ⟨gd, bj * 9 + 5, none⟩ = some (.int .i64 (p bj).f0.f5) := HS2.out.cell bj 5 (by have := HY.out; omega) (by decide)
            have hfb5 := HS2.out.frozen (bj * 9 + 5)
            have hcb6 : w5.cell? ⟨gd, bj * 9 + 6, none⟩ = some (.int .i64 (p bj).f1.f0) := HS2.out.cell bj 6 (by have := HY.out; omega) (by decide)
            have hfb6 := HS2.out.frozen (bj * 9 + 6)
            have hcb7 : w5.cell? ⟨gd, bj * 9 + 7, none⟩ = some (.int .i64 (p bj).f1.f1) := HS2.out.cell bj 7 (by have := HY.out; omega) (by decide)
            have hfb7 := HS2.out.frozen (bj * 9 + 7)
            have hcb8 : w5.cell? ⟨gd, bj * 9 + 8, none⟩ = some (.int .i64 (p bj).f1.f2) := HS2.out.cell bj 8 (by have := HY.out; omega) (by decide)
            have hfb8 := HS2.out.frozen (bj * 9 + 8)
            go_upto_region 6 with (fail)
            go_region
            have HS3 := Aside0.mk ((HS2.out.store9 aj HY.out.2.2.1 (p bj)).store9 bj HY.out.2.2.2 (p aj))
            have HB3 := Aside0.mk (below_drew (impl_StowCode.below9 (impl_StowCode.below9 HB2.out HA.out.2.2 aj (p bj)) HA.out.2.2 bj (p aj)))
            clear HS2 HB2 hca0 hcb0 hfa0 hfb0 hca1 hcb1 hfa1 hfb1 hca2 hcb2 hfa2 hfb2 hca3 hcb3 hfa3 hfb3 hca4 hcb4 hfa4 hfb4 hca5 hcb5 hfa5 hfb5 hca6 hcb6 hfa6 hfb6 hca7 hcb7 hfa7 hfb7 hca8 hcb8 hfa8 hfb8
            have HS4 := Aside0.mk HS3.out.drew
            clear HS3
            generalize ((((((((((((((((((w5.setCell ⟨gd, aj * 9, none⟩ (.string (p bj).f0.f0)).setCell ⟨gd, aj * 9 + 1, none⟩ (.int .i64 (p bj).f0.f1)).setCell ⟨gd, aj * 9 + 2, none⟩ (.int .i64 (p bj).f0.f2)).setCell ⟨gd, aj * 9 + 3, none⟩ (.bool (p bj).f0.f3)).setCell ⟨gd, aj * 9 + 4, none⟩ (.int .i64 (p bj).f0.f4)).setCell ⟨gd, aj * 9 + 5, none⟩ (.int .i64 (p bj).f0.f5)).setCell ⟨gd, aj * 9 + 6, none⟩ (.int .i64 (p bj).f1.f0)).setCell ⟨gd, aj * 9 + 7, none⟩ (.int .i64 (p bj).f1.f1)).setCell ⟨gd, aj * 9 + 8, none⟩ (.int .i64 (p bj).f1.f2)).setCell ⟨gd, bj * 9, none⟩ (.string (p aj).f0.f0)).setCell ⟨gd, bj * 9 + 1, none⟩ (.int .i64 (p aj).f0.f1)).setCell ⟨gd, bj * 9 + 2, none⟩ (.int .i64 (p aj).f0.f2)).setCell ⟨gd, bj * 9 + 3, none⟩ (.bool (p aj).f0.f3)).setCell ⟨gd, bj * 9 + 4, none⟩ (.int .i64 (p aj).f0.f4)).setCell ⟨gd, bj * 9 + 5, none⟩ (.int .i64 (p aj).f0.f5)).setCell ⟨gd, bj * 9 + 6, none⟩ (.int .i64 (p aj).f1.f0)).setCell ⟨gd, bj * 9 + 7, none⟩ (.int .i64 (p aj).f1.f1)).setCell ⟨gd, bj * 9 + 8, none⟩ (.int .i64 (p aj).f1.f2)).drew = w9 at HS4 HB3 ⊢
            clear ea eb eb2 eb3 ra p0 p1 p2 b0 b1 b2 e0 e1
            go_wp2
            go_roundg (j - 1).toNat
            case measure => have := HJ.out; omega
            case rel => exact ⟨j - 1, _, (by first | rfl | (rw [wa])), ⟨by have := HJ.out; omega⟩, HS4, ⟨by rw [← HY.out.2.1]; exact HP2.out⟩, HB3⟩
          · have f0 : decide (cf (p aj) (p bj) < 0) = false := decide_eq_false hneg
            rw [f0]
            rw [if_neg hneg] at hpv
            have HP2 := Aside0.mk hpv
            clear hneg f0 hpv ea eb eb2 eb3 ra wa p0 p1 p2 b0 b1 b2
            go_wp2
            go_roundg ((n : Int) - (i + 1)).toNat
            case measure => have := HI.out; have := HL.out; omega
            case rel => exact ⟨i + 1, _, (by first | rfl | (congr 1; have := HA.out; have := HI.out; have := HL.out; unfold wrap64; omega)), ⟨by have := HI.out; have := HL.out; omega⟩, HS2, ⟨by rw [HP2.out, ← HV.out, show ((n : Int) - i).toNat = ((n : Int) - (i + 1)).toNat + 1 by have := HL.out; omega, impl_StowCode.insO, show (i + 1).toNat = i.toNat + 1 by have := HI.out; omega]⟩, HB2⟩
        · have e0 : decide (0 < j) = false := decide_eq_false hja
          have e1 : decide (j > 0) = false := decide_eq_false hja
          have hpv := HP.out
          rw [impl_StowCode.insI_stop cf 0 j.toNat p (by omega)] at hpv
          have HP2 := Aside0.mk hpv
          clear hpv hja HP
          go_upto_region 4 with (fail)
          go_quiet (fail)
          have HS2 : Aside0 (impl_StowCode.At n c gd (wr.drewN nq) p) := ⟨HS.out⟩
          have HB2 : Aside0 (Below w0.heap.size w0 (wr.drewN nq)) := ⟨pw_below_drewN HB.out nq⟩
          clear HS HB
          generalize wr.drewN nq = w5 at HS2 HB2 ⊢
          go_wp2
          go_roundg ((n : Int) - (i + 1)).toNat
          case measure => have := HI.out; have := HL.out; omega
          case rel => exact ⟨i + 1, _, (by first | rfl | (congr 1; have := HA.out; have := HI.out; have := HL.out; unfold wrap64; omega)), ⟨by have := HI.out; have := HL.out; omega⟩, HS2, ⟨by rw [HP2.out, ← HV.out, show ((n : Int) - i).toNat = ((n : Int) - (i + 1)).toNat + 1 by have := HL.out; omega, impl_StowCode.insO, show (i + 1).toNat = i.toNat + 1 by have := HI.out; omega]⟩, HB2⟩
    · have d0 : decide (i < (n : Int)) = false := decide_eq_false hlt
      have hS := HS.out
      have hv := HV.out
      rw [show ((n : Int) - i).toNat = 0 by omega, impl_StowCode.insO] at hv
      rw [hv] at hS
      have HS3 := Aside0.mk hS
      clear hS hv HS HV hlt
      go_wp2
      refine bodyPost_end (results_none rfl _ _ _) rfl ?_
      exact ⟨rfl, HS3.out, HB.out⟩
/-! ### what SortFunc leaves of a row of one's own -/
def impl_StowCode.cf (x y : S51) : Int := if x.f1.f2 < y.f1.f2 then -1 else if x.f1.f2 > y.f1.f2 then 1 else 0
theorem impl_StowCode.cf_eq (x y : S51) : impl_stackOf_1.f x.f0.f0 x.f0.f1 x.f0.f2 x.f0.f3 x.f0.f4 x.f0.f5 x.f1.f0 x.f1.f1 x.f1.f2 y.f0.f0 y.f0.f1 y.f0.f2 y.f0.f3 y.f0.f4 y.f0.f5 y.f1.f0 y.f1.f1 y.f1.f2 = some (impl_StowCode.cf x y) := by
  simp only [impl_stackOf_1.f, cmp_Compare_int.f, cmp_isNaN_int.f, impl_StowCode.cf, Option.bind_some, bne_self_eq_false]
  by_cases h1 : x.f1.f2 < y.f1.f2
  · simp [h1]
  · by_cases h2 : x.f1.f2 > y.f1.f2
    · simp [h1, h2]
    · simp [h1, h2]
def impl_StowCode.srt (xs : List S51) : List S51 := (List.range xs.length).map (impl_StowCode.insO impl_StowCode.cf 0 (xs.length - 1) 1 (fun t => xs.getD t z51))
theorem impl_StowCode.srt_len (xs : List S51) : (impl_StowCode.srt xs).length = xs.length := by simp [impl_StowCode.srt]
theorem impl_StowCode.nine (x : S51) (L : List Value) (hl : ∀ j, j < 9 → L[j]? = some (impl_StowCode.enc x j)) (h9 : L.length = 9) : L = [.string x.f0.f0, .int .i64 x.f0.f1, .int .i64 x.f0.f2, .bool x.f0.f3, .int .i64 x.f0.f4, .int .i64 x.f0.f5, .int .i64 x.f1.f0, .int .i64 x.f1.f1, .int .i64 x.f1.f2] := by
  refine List.ext_getElem? fun j => ?_
  by_cases hj : j < 9
  · rw [hl j hj]
    rcases j with _ | _ | _ | _ | _ | _ | _ | _ | _ | j
    all_goals first | rfl | omega
  · rw [List.getElem?_eq_none (by omega), List.getElem?_eq_none (by simp; omega)]
theorem impl_StowCode.nine' (x : S51) (j : Nat) (hj : j < 9) : ([.string x.f0.f0, .int .i64 x.f0.f1, .int .i64 x.f0.f2, .bool x.f0.f3, .int .i64 x.f0.f4, .int .i64 x.f0.f5, .int .i64 x.f1.f0, .int .i64 x.f1.f1, .int .i64 x.f1.f2] : List Value)[j]? = some (impl_StowCode.enc x j) := by
  rcases j with _ | _ | _ | _ | _ | _ | _ | _ | _ | j
  all_goals first | rfl | omega
theorem impl_StowCode.R_at {W : World} {base : Nat} {ok : Nat → Prop} {v : Value} {xs : List S51} (h : Kd.R k51 51 W base ok v xs) (hn : 0 < xs.length) : ∃ gd c, v = .slice (some ⟨gd, 0, none⟩) xs.length c ∧ base ≤ gd ∧ ok gd ∧ xs.length ≤ c ∧ c ≤ maxLen ∧ impl_StowCode.At xs.length c gd W (fun t => xs.getD t z51) := by
  obtain ⟨h0, inner, ⟨hl, ho⟩, hr⟩ := h
  rcases ho with ⟨rfl, h1⟩ | ⟨g, cap, cur, rfl, hg, hh, hnc, hcm, hsz, htk⟩
  · omega
  · refine ⟨g, cap, rfl, hg, h0 g rfl, hnc, hcm, cur, hh, hsz, fun t ht j hj => ?_⟩
    have h2 := k51_openM (hr.2 t xs[t] (List.getElem?_eq_getElem ht))
    have h3 := impl_StowCode.nine' xs[t] j hj
    rw [← h2, List.getElem?_take_of_lt (show j < k51.sz from hj), List.getElem?_drop, show t * k51.sz + j = t * 9 + j from rfl, ← htk, List.getElem?_take_of_lt (show t * 9 + j < xs.length * k51.sz from by show t * 9 + j < xs.length * 9; omega), Array.getElem?_toList] at h3
    rw [h3]
    simp [List.getD, ht]
theorem impl_StowCode.at_R {W : World} {base : Nat} {ok : Nat → Prop} {n c gd : Nat} {g : Nat → S51} (h : impl_StowCode.At n c gd W g) (hg : base ≤ gd) (hok : ok gd) (hnc : n ≤ c) (hcm : c ≤ maxLen) : Kd.R k51 51 W base ok (.slice (some ⟨gd, 0, none⟩) n c) ((List.range n).map g) := by
  obtain ⟨cur, hh, hsz, hc⟩ := h
  have hlen : ((List.range n).map g).length = n := by simp
  have hil : (cur.toList.take (n * 9)).length = n * 9 := by rw [List.length_take, Array.length_toList, hsz]; omega
  refine ⟨fun k hk => by cases hk; exact hok, cur.toList.take (n * 9), ⟨by rw [hlen]; exact hil, .inr ⟨gd, c, cur, by rw [hlen], hg, hh, by rw [hlen]; exact hnc, hcm, hsz, by rw [hlen]; rfl⟩⟩, by rw [hlen]; exact hil, fun j p hp => ?_⟩
  have hj : j < n := by
    have := (List.getElem?_eq_some_iff.1 hp).1
    rw [hlen] at this; exact this
  have hpj : p = g j := by
    rw [List.getElem?_map, List.getElem?_range hj] at hp
    exact (Option.some.inj hp).symm
  subst hpj
  rw [impl_StowCode.nine (g j) (((cur.toList.take (n * 9)).drop (j * k51.sz)).take k51.sz) (fun i hi => by
    rw [List.getElem?_take_of_lt (show i < k51.sz from hi), List.getElem?_drop, show j * k51.sz + i = j * 9 + i from rfl, List.getElem?_take_of_lt (by omega), Array.getElem?_toList]
    exact hc j hj i hi) (by rw [List.length_take, List.length_drop, hil, show k51.sz = 9 from rfl]; omega)]
  exact k51_mkM _ _ _ _
theorem impl_StowCode.sortR {w0 W : World} {ok : Nat → Prop} {v : Value} {xs : List S51} (h : Kd.R k51 51 W w0.heap.size ok v xs) (hn : 0 < xs.length) (h12 : xs.length ≤ 12) (hB : Below w0.heap.size w0 W) :
    Calls Try.prog 51 #[v, .func (.func 52) #[] #[]] W fun e w' => e = .returned (.tuple #[]) ∧ Kd.R k51 51 w' w0.heap.size ok v (impl_StowCode.srt xs) ∧ Below w0.heap.size w0 w' := by
  obtain ⟨gd, c, rfl, hg, hok, hnc, hcm, hA⟩ := impl_StowCode.R_at h hn
  refine (impl_StowCode.sortFunc 52 gd xs.length c h12 (fun w' => impl_StowCode.At xs.length c gd w' (impl_StowCode.insO impl_StowCode.cf 0 (xs.length - 1) 1 (fun t => xs.getD t z51)) ∧ Below w0.heap.size w0 w') W fun W' hd => ?_).mono ?_
  · refine impl_StowCode.insertion 52 xs.length c gd impl_StowCode.cf h12 w0 W' _ hg (below_step hB hd.below) (enters_of Try.func52 (by kernel_rfl) rfl) ⟨fun W x y => ?_⟩ hnc (hA.below hd.below)
    exact impl_stackOf_1.calls _ _ _ _ _ _ _ _ _ _ _ _ _ _ _ _ _ _ _ W (impl_StowCode.cf_eq x y)
  · rintro e w' ⟨rfl, h1, h2⟩
    exact ⟨rfl, impl_StowCode.at_R h1 hg hok hnc hcm, h2⟩
/-! ### impl_stackOf: function 29 -/
mutual
def impl_stackOf.l0 : Nat → Int → Int → List (S51) → List (S51) → Int → Int → Option ((List (S48)))
  | 0, _, _, _, _, _, _ => none
  | k + 1, x1, x2, x7, x13, x14, x15 => if x15 < x14 then (if 0 ≤ x15 then (if x15 < (x13.length : Int) then (if ((rd_T51 x13 x15).f1.f0) = x1 then (if ((rd_T51 x13 x15).f1.f1) = x2 then (if x7.length < 1759218604441 then (impl_stackOf.l0 k x1 x2 (x7 ++ [(⟨(⟨(rd_T51 x13 x15).f0.f0, (rd_T51 x13 x15).f0.f1, (rd_T51 x13 x15).f0.f2, (rd_T51 x13 x15).f0.f3, (rd_T51 x13 x15).f0.f4, (rd_T51 x13 x15).f0.f5⟩ : S48), (⟨(rd_T51 x13 x15).f1.f0, (rd_T51 x13 x15).f1.f1, (rd_T51 x13 x15).f1.f2⟩ : S49)⟩ : S51)]) x13 x14 (wrap64 (x15 + 1))) else (none)) else (impl_stackOf.l0 k x1 x2 x7 x13 x14 (wrap64 (x15 + 1)))) else (impl_stackOf.l0 k x1 x2 x7 x13 x14 (wrap64 (x15 + 1)))) else (none)) else (none)) else (if 0 < x7.length ∧ x7.length ≤ 12 then (impl_stackOf.l1 k ([] : List (S48)) (impl_StowCode.srt x7) ((impl_StowCode.srt x7).length : Int) 0) else none)
def impl_stackOf.l1 : Nat → List (S48) → List (S51) → Int → Int → Option ((List (S48)))
  | 0, _, _, _, _ => none
  | k + 1, x10, x38, x39, x40 => if x40 < x39 then (if 0 ≤ x40 then (if x40 < (x38.length : Int) then (if x10.length < 2513169434916 then (impl_stackOf.l1 k (x10 ++ [(⟨(rd_T51 x38 x40).f0.f0, (rd_T51 x38 x40).f0.f1, (rd_T51 x38 x40).f0.f2, (rd_T51 x38 x40).f0.f3, (rd_T51 x38 x40).f0.f4, (rd_T51 x38 x40).f0.f5⟩ : S48)]) x38 x39 (wrap64 (x40 + 1))) else (none)) else (none)) else (none)) else (some x10)
end
def impl_stackOf.f (k : Nat) (l0 : List (S51)) (a1 : Int) (a2 : Int) : Option ((List (S48))) := impl_stackOf.l0 k a1 a2 ([] : List (S51)) l0 (l0.length : Int) 0
theorem impl_stackOf.mono_l : ∀ k, (∀ y0 y1 y2 y3 y4 y5, LeO (impl_stackOf.l0 k y0 y1 y2 y3 y4 y5) (impl_stackOf.l0 (k + 1) y0 y1 y2 y3 y4 y5)) ∧ (∀ y0 y1 y2 y3, LeO (impl_stackOf.l1 k y0 y1 y2 y3) (impl_stackOf.l1 (k + 1) y0 y1 y2 y3))
  | 0 => ⟨fun _ _ _ _ _ _ r h => by simp [impl_stackOf.l0] at h, fun _ _ _ _ r h => by simp [impl_stackOf.l1] at h⟩
  | k + 1 => by
    obtain ⟨ih0, ih1⟩ := impl_stackOf.mono_l k
    refine ⟨?_, ?_⟩
    · intro y0 y1 y2 y3 y4 y5
      unfold impl_stackOf.l0
      repeat' first
      | (with_reducible exact ih0 _ _ _ _ _ _)
      | (with_reducible exact ih1 _ _ _ _)
      | (with_reducible exact LeO.refl _)
      | (with_reducible exact LeO.none _)
      | (with_reducible refine LeO.ite ?_ ?_)
      | (with_reducible refine LeO.bind ?_ (fun _ => ?_))
      | exact ih0 _ _ _ _ _ _
      | exact ih1 _ _ _ _
      | exact LeO.none _
      | refine LeO.ite ?_ ?_
      | refine LeO.bind ?_ (fun _ => ?_)
    · intro y0 y1 y2 y3
      unfold impl_stackOf.l1
      repeat' first
      | (with_reducible exact ih0 _ _ _ _ _ _)
      | (with_reducible exact ih1 _ _ _ _)
      | (with_reducible exact LeO.refl _)
      | (with_reducible exact LeO.none _)
      | (with_reducible refine LeO.ite ?_ ?_)
      | (with_reducible refine LeO.bind ?_ (fun _ => ?_))
      | exact ih0 _ _ _ _ _ _
      | exact ih1 _ _ _ _
      | exact LeO.none _
      | refine LeO.ite ?_ ?_
      | refine LeO.bind ?_ (fun _ => ?_)
theorem impl_stackOf.mono : ∀ a0 a1 a2 k, LeO (impl_stackOf.f k a0 a1 a2) (impl_stackOf.f (k + 1) a0 a1 a2) := by
  intro a0 a1 a2 k
  obtain ⟨ih0, ih1⟩ := impl_stackOf.mono_l k
  unfold impl_stackOf.f
  repeat' first
      | (with_reducible exact ih0 _ _ _ _ _ _)
      | (with_reducible exact ih1 _ _ _ _)
      | (with_reducible exact LeO.refl _)
      | (with_reducible exact LeO.none _)
      | (with_reducible refine LeO.ite ?_ ?_)
      | (with_reducible refine LeO.bind ?_ (fun _ => ?_))
      | exact ih0 _ _ _ _ _ _
      | exact ih1 _ _ _ _
      | exact LeO.none _
      | refine LeO.ite ?_ ?_
      | refine LeO.bind ?_ (fun _ => ?_)
set_option maxHeartbeats 8000000 in
set_option maxRecDepth 100000 in
theorem impl_stackOf.calls (k : Nat) (A0 : Option Addr) (c0 : Nat) (l0 : List (S51)) (a1 : Int) (a2 : Int) (r : List (S48)) (w : World) (hr0 : Kd.C k51 w A0 l0.length l0) (hc0 : l0.length ≤ c0) (h : impl_stackOf.f k l0 a1 a2 = some r) :
    Calls Try.prog 29 #[.slice A0 l0.length c0, .int .i64 a1, .int .i64 a2] w fun e w' => ∃ v0_ : Value, e = .returned (v0_) ∧ Kd.R k48 48 w' w.heap.size (fun _ => True) v0_ r ∧ Below w.heap.size w w' := by
  have hu51 := Try.underlying51
  have hu48 := Try.underlying48
  have HR0 := Aside0.mk hr0
  have HC0 := Aside0.mk hc0
  clear hr0 hc0
  have HB := Aside0.mk (Below.refl w.heap.size w)
  have H : (impl_stackOf.l0 k a1 a2 ([] : List (S51)) l0 (l0.length : Int) 0) = some r := h
  clear h
  have H' := Aside0.mk H
  clear H
  go_enter Try.func29, Try.ntmps29
  go_wp2
  go_loopg [7, 15] k (fun kq v7 v15 w' => ∃ (x7_1 : List (S51)) (x15_1 : Int), v15 = .int .i64 x15_1 ∧ Aside0 (impl_stackOf.l0 kq a1 a2 x7_1 l0 (l0.length : Int) x15_1 = some r) ∧ Aside0 (kq ≤ k) ∧ Aside0 (Kd.R k51 51 w' w.heap.size (fun _ => True) v7 x7_1) ∧ Aside0 (Below w.heap.size w w'))
  case atStart => exact ⟨(([] : List (S51))), (0), (by first | rfl | (simp; done) | (simp [*]; done)), H', ⟨Nat.le_refl _⟩, ⟨by first | exact Kd.R_nil _ _ _ _ _ | exact Kd.N_nil _ _ _ _ _ | exact Kd.V_nil _ _ _ _ _ | exact Kd.Q_nil _ _ _ _ _ | exact Kd.S_nil _ _ _ _ _⟩, ⟨Sk.bl_⟩⟩
  case round =>
    clear H'
    try clear c2
    try clear p2
    obtain ⟨x7_1, x15_1, rfl, HA, HK1, HO_7, HB⟩ := hrel
    cases gk with
    | zero => exact absurd HA.out (by simp [impl_stackOf.l0])
    | succ k1 =>
      have H := HA.out
      clear HA
      simp only [impl_stackOf.l0] at H
      by_cases c4 : x15_1 < (l0.length : Int)
      · rw [if_pos c4] at H
        have c4b0 : decide (x15_1 < (l0.length : Int)) = true := decide_eq_true c4
        clear c4
        by_cases c5 : 0 ≤ x15_1
        · rw [if_pos c5] at H
          have c5b0 : decide (0 ≤ x15_1) = true := decide_eq_true c5
          clear c5
          by_cases c6 : x15_1 < (l0.length : Int)
          · rw [if_pos c6] at H
            have c6b0 : decide (x15_1 < (l0.length : Int)) = true := decide_eq_true c6
            clear c6
            by_cases c7 : ((rd_T51 l0 x15_1).f1.f0) = a1
            · rw [if_pos c7] at H
              have c7b0 : (((rd_T51 l0 x15_1).f1.f0) == a1) = true := beq_iff_eq.mpr c7
              have c7b1 : (((rd_T51 l0 x15_1).f1.f0) != a1) = false := bne_eq_false_iff_eq.mpr c7
              clear c7
              by_cases c8 : ((rd_T51 l0 x15_1).f1.f1) = a2
              · rw [if_pos c8] at H
                have c8b0 : (((rd_T51 l0 x15_1).f1.f1) == a2) = true := beq_iff_eq.mpr c8
                have c8b1 : (((rd_T51 l0 x15_1).f1.f1) != a2) = false := bne_eq_false_iff_eq.mpr c8
                clear c8
                by_cases c9 : x7_1.length < 1759218604441
                · rw [if_pos c9] at H
                  have LMc9 := Aside0.mk c9
                  clear c9
                  obtain ⟨y312, hy312⟩ : ∃ y_ : List (S51), y_ = (x7_1 ++ [(⟨(⟨(rd_T51 l0 x15_1).f0.f0, (rd_T51 l0 x15_1).f0.f1, (rd_T51 l0 x15_1).f0.f2, (rd_T51 l0 x15_1).f0.f3, (rd_T51 l0 x15_1).f0.f4, (rd_T51 l0 x15_1).f0.f5⟩ : S48), (⟨(rd_T51 l0 x15_1).f1.f0, (rd_T51 l0 x15_1).f1.f1, (rd_T51 l0 x15_1).f1.f2⟩ : S49)⟩ : S51)]) := ⟨_, rfl⟩
                  replace H : (impl_stackOf.l0 k1 a1 a2 y312 l0 (l0.length : Int) (wrap64 (x15_1 + 1))) = some r := by first | (rw [hy312]; with_reducible exact H) | (have H2_ := (Option.bind_some _ _).symm.trans H; rw [hy312]; with_reducible exact H2_) | (have H2_ := (Option.bind_some _ _).symm.trans H; with_reducible exact H2_) | with_reducible exact H | (rw [hy312]; exact H) | exact H
                  have Ny312 := Aside0.mk hy312
                  clear hy312
                  have H' := Aside0.mk H
                  clear H
                  have p310 : 0 ≤ (x15_1 : Int) := of_decide_eq_true (by first | (with_reducible assumption) | assumption)
                  have q310 : x15_1 < (l0.length : Int) := of_decide_eq_true (by first | (with_reducible assumption) | assumption)
                  obtain ⟨ad310, e310, hx310_0, hx310_1, hx310_2, hx310_3, hx310_4, hx310_5, hx310_6, hx310_7, hx310_8⟩ := at_T51 HR0.out x15_1 p310 q310
                  cases e310
                  replace hx310_0 := (HB.out.cell (World.block_lt_of_cell? w _ hx310_0)).trans hx310_0
                  replace hx310_1 := (HB.out.cell (World.block_lt_of_cell? w _ hx310_1)).trans hx310_1
                  replace hx310_2 := (HB.out.cell (World.block_lt_of_cell? w _ hx310_2)).trans hx310_2
                  replace hx310_3 := (HB.out.cell (World.block_lt_of_cell? w _ hx310_3)).trans hx310_3
                  replace hx310_4 := (HB.out.cell (World.block_lt_of_cell? w _ hx310_4)).trans hx310_4
                  replace hx310_5 := (HB.out.cell (World.block_lt_of_cell? w _ hx310_5)).trans hx310_5
                  replace hx310_6 := (HB.out.cell (World.block_lt_of_cell? w _ hx310_6)).trans hx310_6
                  replace hx310_7 := (HB.out.cell (World.block_lt_of_cell? w _ hx310_7)).trans hx310_7
                  replace hx310_8 := (HB.out.cell (World.block_lt_of_cell? w _ hx310_8)).trans hx310_8
                  replace p310 := eq_true p310
                  replace q310 := eq_true q310
                  go_wp2_with (first | ((with_reducible refine gate_dst (N := 9) rfl ?_); refine box_event ?hg (N := 9) ?hd (cs := #[.string (⟨#[]⟩ : ByteArray), .int .i64 0, .int .i64 0, .bool false, .int .i64 0, .int .i64 0, .int .i64 0, .int .i64 0, .int .i64 0]) (t := 51) ?hr ?_; (case hd => rfl); (case hg => rfl); (case hr => first | (go_simp; done) | (go_simp; rfl)); intro gb311 hg w10 hbox hb; have n0_ := Aside0.mk (Kd.R_below (Kd.R_elderB (by (with_reducible repeat (first | apply Kd.R_alloc | apply Kd.R_drewN | apply Kd.R_drew)); exact HO_7.out) gb311 (Nat.le_of_eq hg.symm)) hb); have n1_ := Aside0.mk (below_step Sk.bl_ hb); have n2_ := Aside0.mk (hbox); have n3_ := Aside0.mk ((by rw [hg]; exact (below_size Sk.bl_) : w.heap.size ≤ gb311)); have n4_ := Aside0.mk ((by rw [hg]; exact (below_size Sk.bl_) : w.heap.size ≤ gb311)); clear HO_7; clear HB; have HO_7 := n0_; have HB := n1_; have BK311 := n2_; have GW311 := n3_; have GE311 := n4_; clear n0_ n1_ n2_ n3_ n4_; clear hb hbox hg; have hcz11_0 : w10.cell? ⟨gb311, 0, none⟩ = some (.string (⟨#[]⟩ : ByteArray)) := (blk_cell BK311.out 0).trans rfl; have hcz11_1 : w10.cell? ⟨gb311, 1, none⟩ = some (.int .i64 0) := (blk_cell BK311.out 1).trans rfl; have hcz11_2 : w10.cell? ⟨gb311, 2, none⟩ = some (.int .i64 0) := (blk_cell BK311.out 2).trans rfl; have hcz11_3 : w10.cell? ⟨gb311, 3, none⟩ = some (.bool false) := (blk_cell BK311.out 3).trans rfl; have hcz11_4 : w10.cell? ⟨gb311, 4, none⟩ = some (.int .i64 0) := (blk_cell BK311.out 4).trans rfl; have hcz11_5 : w10.cell? ⟨gb311, 5, none⟩ = some (.int .i64 0) := (blk_cell BK311.out 5).trans rfl; have hcz11_6 : w10.cell? ⟨gb311, 6, none⟩ = some (.int .i64 0) := (blk_cell BK311.out 6).trans rfl; have hcz11_7 : w10.cell? ⟨gb311, 7, none⟩ = some (.int .i64 0) := (blk_cell BK311.out 7).trans rfl; have hcz11_8 : w10.cell? ⟨gb311, 8, none⟩ = some (.int .i64 0) := (blk_cell BK311.out 8).trans rfl; have hfz11_0 := blk_frozen BK311.out 0; have hfz11_1 := blk_frozen BK311.out 1; have hfz11_2 := blk_frozen BK311.out 2; have hfz11_3 := blk_frozen BK311.out 3; have hfz11_4 := blk_frozen BK311.out 4; have hfz11_5 := blk_frozen BK311.out 5; have hfz11_6 := blk_frozen BK311.out 6; have hfz11_7 := blk_frozen BK311.out 7; have hfz11_8 := blk_frozen BK311.out 8) | ((with_reducible refine gate_builtin (b := .append) (xs := #[.tmp 31, .tmp 33]) rfl ?_); at_builtin; refine Kd.R_append k51 (w0 := w) w.heap.size rfl (.tmp 31) (.tmp 33) 30 51 (.agg #[(.string ⟨#[]⟩), (.int .i64 0), (.int .i64 0), (.bool false), (.int .i64 0), (.int .i64 0), (.int .i64 0), (.int .i64 0), (.int .i64 0)]) 80 rfl Try.underlying30 info51 rfl (by decide) (by omega) u7 x7_1 (⟨(⟨(rd_T51 l0 x15_1).f0.f0, (rd_T51 l0 x15_1).f0.f1, (rd_T51 l0 x15_1).f0.f2, (rd_T51 l0 x15_1).f0.f3, (rd_T51 l0 x15_1).f0.f4, (rd_T51 l0 x15_1).f0.f5⟩ : S48), (⟨(rd_T51 l0 x15_1).f1.f0, (rd_T51 l0 x15_1).f1.f1, (rd_T51 l0 x15_1).f1.f2⟩ : S49)⟩ : S51) [.string ((rd_T51 l0 x15_1).f0.f0), .int .i64 ((rd_T51 l0 x15_1).f0.f1), .int .i64 ((rd_T51 l0 x15_1).f0.f2), .bool ((rd_T51 l0 x15_1).f0.f3), .int .i64 ((rd_T51 l0 x15_1).f0.f4), .int .i64 ((rd_T51 l0 x15_1).f0.f5), .int .i64 ((rd_T51 l0 x15_1).f1.f0), .int .i64 ((rd_T51 l0 x15_1).f1.f1), .int .i64 ((rd_T51 l0 x15_1).f1.f2)] (fun k_ => k_ ≠ gb311) (fun _ => False) rfl (by first | (go_simp; done) | (go_simp; rfl)) ?aP (fun _ hk => hk.elim) ?aF ?aO ?aB ?aS ?aL ?_; (case aP => exact k51_mkM _ _ _ (⟨(⟨(rd_T51 l0 x15_1).f0.f0, (rd_T51 l0 x15_1).f0.f1, (rd_T51 l0 x15_1).f0.f2, (rd_T51 l0 x15_1).f0.f3, (rd_T51 l0 x15_1).f0.f4, (rd_T51 l0 x15_1).f0.f5⟩ : S48), (⟨(rd_T51 l0 x15_1).f1.f0, (rd_T51 l0 x15_1).f1.f1, (rd_T51 l0 x15_1).f1.f2⟩ : S49)⟩ : S51)); (case aB => exact (by repeat (first | (with_reducible first | exact HB.out | apply below_alloc | apply pw_below_drewN | apply below_drew1 | refine below_set ?_ GE311.out) | exact HB.out))); (case aF => exact (fun k_ hk => Kd.freshB (g := gb311) (o := .cells #[.string ((rd_T51 l0 x15_1).f0.f0), .int .i64 ((rd_T51 l0 x15_1).f0.f1), .int .i64 ((rd_T51 l0 x15_1).f0.f2), .bool ((rd_T51 l0 x15_1).f0.f3), .int .i64 ((rd_T51 l0 x15_1).f0.f4), .int .i64 ((rd_T51 l0 x15_1).f0.f5), .int .i64 ((rd_T51 l0 x15_1).f1.f0), .int .i64 ((rd_T51 l0 x15_1).f1.f1), .int .i64 ((rd_T51 l0 x15_1).f1.f2)] 51 (0, 0)) (by (with_reducible repeat (first | refine blk_drewN ?_ _ | refine blk_drew ?_ | refine blk_alloc ?_ _)); refine blk_put (cs := #[.string ((rd_T51 l0 x15_1).f0.f0), .int .i64 ((rd_T51 l0 x15_1).f0.f1), .int .i64 ((rd_T51 l0 x15_1).f0.f2), .bool ((rd_T51 l0 x15_1).f0.f3), .int .i64 ((rd_T51 l0 x15_1).f0.f4), .int .i64 ((rd_T51 l0 x15_1).f0.f5), .int .i64 ((rd_T51 l0 x15_1).f1.f0), .int .i64 ((rd_T51 l0 x15_1).f1.f1), .int .i64 0]) ?_ 8 _ rfl; (with_reducible repeat (first | refine blk_drewN ?_ _ | refine blk_drew ?_ | refine blk_alloc ?_ _)); refine blk_put (cs := #[.string ((rd_T51 l0 x15_1).f0.f0), .int .i64 ((rd_T51 l0 x15_1).f0.f1), .int .i64 ((rd_T51 l0 x15_1).f0.f2), .bool ((rd_T51 l0 x15_1).f0.f3), .int .i64 ((rd_T51 l0 x15_1).f0.f4), .int .i64 ((rd_T51 l0 x15_1).f0.f5), .int .i64 ((rd_T51 l0 x15_1).f1.f0), .int .i64 0, .int .i64 0]) ?_ 7 _ rfl; (with_reducible repeat (first | refine blk_drewN ?_ _ | refine blk_drew ?_ | refine blk_alloc ?_ _)); refine blk_put (cs := #[.string ((rd_T51 l0 x15_1).f0.f0), .int .i64 ((rd_T51 l0 x15_1).f0.f1), .int .i64 ((rd_T51 l0 x15_1).f0.f2), .bool ((rd_T51 l0 x15_1).f0.f3), .int .i64 ((rd_T51 l0 x15_1).f0.f4), .int .i64 ((rd_T51 l0 x15_1).f0.f5), .int .i64 0, .int .i64 0, .int .i64 0]) ?_ 6 _ rfl; (with_reducible repeat (first | refine blk_drewN ?_ _ | refine blk_drew ?_ | refine blk_alloc ?_ _)); refine blk_put (cs := #[.string ((rd_T51 l0 x15_1).f0.f0), .int .i64 ((rd_T51 l0 x15_1).f0.f1), .int .i64 ((rd_T51 l0 x15_1).f0.f2), .bool ((rd_T51 l0 x15_1).f0.f3), .int .i64 ((rd_T51 l0 x15_1).f0.f4), .int .i64 0, .int .i64 0, .int .i64 0, .int .i64 0]) ?_ 5 _ rfl; (with_reducible repeat (first | refine blk_drewN ?_ _ | refine blk_drew ?_ | refine blk_alloc ?_ _)); refine blk_put (cs := #[.string ((rd_T51 l0 x15_1).f0.f0), .int .i64 ((rd_T51 l0 x15_1).f0.f1), .int .i64 ((rd_T51 l0 x15_1).f0.f2), .bool ((rd_T51 l0 x15_1).f0.f3), .int .i64 0, .int .i64 0, .int .i64 0, .int .i64 0, .int .i64 0]) ?_ 4 _ rfl; (with_reducible repeat (first | refine blk_drewN ?_ _ | refine blk_drew ?_ | refine blk_alloc ?_ _)); refine blk_put (cs := #[.string ((rd_T51 l0 x15_1).f0.f0), .int .i64 ((rd_T51 l0 x15_1).f0.f1), .int .i64 ((rd_T51 l0 x15_1).f0.f2), .bool false, .int .i64 0, .int .i64 0, .int .i64 0, .int .i64 0, .int .i64 0]) ?_ 3 _ rfl; (with_reducible repeat (first | refine blk_drewN ?_ _ | refine blk_drew ?_ | refine blk_alloc ?_ _)); refine blk_put (cs := #[.string ((rd_T51 l0 x15_1).f0.f0), .int .i64 ((rd_T51 l0 x15_1).f0.f1), .int .i64 0, .bool false, .int .i64 0, .int .i64 0, .int .i64 0, .int .i64 0, .int .i64 0]) ?_ 2 _ rfl; (with_reducible repeat (first | refine blk_drewN ?_ _ | refine blk_drew ?_ | refine blk_alloc ?_ _)); refine blk_put (cs := #[.string ((rd_T51 l0 x15_1).f0.f0), .int .i64 0, .int .i64 0, .bool false, .int .i64 0, .int .i64 0, .int .i64 0, .int .i64 0, .int .i64 0]) ?_ 1 _ rfl; (with_reducible repeat (first | refine blk_drewN ?_ _ | refine blk_drew ?_ | refine blk_alloc ?_ _)); refine blk_put (cs := #[.string (⟨#[]⟩ : ByteArray), .int .i64 0, .int .i64 0, .bool false, .int .i64 0, .int .i64 0, .int .i64 0, .int .i64 0, .int .i64 0]) ?_ 0 _ rfl; (with_reducible repeat (first | refine blk_drewN ?_ _ | refine blk_drew ?_ | refine blk_alloc ?_ _)); exact BK311.out) k_ hk)); (case aO => exact (by (with_reducible repeat (first | apply Kd.R_alloc | apply Kd.R_drewN | apply Kd.R_drew)); exact Kd.R_mono (Kd.R_far (p := ⟨gb311, 8, none⟩) (Kd.R_far (p := ⟨gb311, 7, none⟩) (Kd.R_far (p := ⟨gb311, 6, none⟩) (Kd.R_far (p := ⟨gb311, 5, none⟩) (Kd.R_far (p := ⟨gb311, 4, none⟩) (Kd.R_far (p := ⟨gb311, 3, none⟩) (Kd.R_far (p := ⟨gb311, 2, none⟩) (Kd.R_far (p := ⟨gb311, 1, none⟩) (Kd.R_far (p := ⟨gb311, 0, none⟩) (Kd.R_mono HO_7.out (fun k_ hk => (⟨hk, hk.2⟩ : _ ∧ k_ ≠ gb311))) (fun _ hk => hk.2) (.string ((rd_T51 l0 x15_1).f0.f0))) (fun _ hk => hk.2) (.int .i64 ((rd_T51 l0 x15_1).f0.f1))) (fun _ hk => hk.2) (.int .i64 ((rd_T51 l0 x15_1).f0.f2))) (fun _ hk => hk.2) (.bool ((rd_T51 l0 x15_1).f0.f3))) (fun _ hk => hk.2) (.int .i64 ((rd_T51 l0 x15_1).f0.f4))) (fun _ hk => hk.2) (.int .i64 ((rd_T51 l0 x15_1).f0.f5))) (fun _ hk => hk.2) (.int .i64 ((rd_T51 l0 x15_1).f1.f0))) (fun _ hk => hk.2) (.int .i64 ((rd_T51 l0 x15_1).f1.f1))) (fun _ hk => hk.2) (.int .i64 ((rd_T51 l0 x15_1).f1.f2))) (fun _ hk => hk.1.2))); (case aS => exact (below_size (by repeat (first | (with_reducible first | exact HB.out | apply below_alloc | apply pw_below_drewN | apply below_drew1 | refine below_set ?_ GE311.out) | exact HB.out)))); (case aL => have := LMc9.out; omega); intro v313 w12 ho hb hg hat; rw [← Ny312.out] at ho; have n0_ := Aside0.mk (blk_grown (g := gb311) (o := .cells #[.string ((rd_T51 l0 x15_1).f0.f0), .int .i64 ((rd_T51 l0 x15_1).f0.f1), .int .i64 ((rd_T51 l0 x15_1).f0.f2), .bool ((rd_T51 l0 x15_1).f0.f3), .int .i64 ((rd_T51 l0 x15_1).f0.f4), .int .i64 ((rd_T51 l0 x15_1).f0.f5), .int .i64 ((rd_T51 l0 x15_1).f1.f0), .int .i64 ((rd_T51 l0 x15_1).f1.f1), .int .i64 ((rd_T51 l0 x15_1).f1.f2)] 51 (0, 0)) (by (with_reducible repeat (first | refine blk_drewN ?_ _ | refine blk_drew ?_ | refine blk_alloc ?_ _)); refine blk_put (cs := #[.string ((rd_T51 l0 x15_1).f0.f0), .int .i64 ((rd_T51 l0 x15_1).f0.f1), .int .i64 ((rd_T51 l0 x15_1).f0.f2), .bool ((rd_T51 l0 x15_1).f0.f3), .int .i64 ((rd_T51 l0 x15_1).f0.f4), .int .i64 ((rd_T51 l0 x15_1).f0.f5), .int .i64 ((rd_T51 l0 x15_1).f1.f0), .int .i64 ((rd_T51 l0 x15_1).f1.f1), .int .i64 0]) ?_ 8 _ rfl; (with_reducible repeat (first | refine blk_drewN ?_ _ | refine blk_drew ?_ | refine blk_alloc ?_ _)); refine blk_put (cs := #[.string ((rd_T51 l0 x15_1).f0.f0), .int .i64 ((rd_T51 l0 x15_1).f0.f1), .int .i64 ((rd_T51 l0 x15_1).f0.f2), .bool ((rd_T51 l0 x15_1).f0.f3), .int .i64 ((rd_T51 l0 x15_1).f0.f4), .int .i64 ((rd_T51 l0 x15_1).f0.f5), .int .i64 ((rd_T51 l0 x15_1).f1.f0), .int .i64 0, .int .i64 0]) ?_ 7 _ rfl; (with_reducible repeat (first | refine blk_drewN ?_ _ | refine blk_drew ?_ | refine blk_alloc ?_ _)); refine blk_put (cs := #[.string ((rd_T51 l0 x15_1).f0.f0), .int .i64 ((rd_T51 l0 x15_1).f0.f1), .int .i64 ((rd_T51 l0 x15_1).f0.f2), .bool ((rd_T51 l0 x15_1).f0.f3), .int .i64 ((rd_T51 l0 x15_1).f0.f4), .int .i64 ((rd_T51 l0 x15_1).f0.f5), .int .i64 0, .int .i64 0, .int .i64 0]) ?_ 6 _ rfl; (with_reducible repeat (first | refine blk_drewN ?_ _ | refine blk_drew ?_ | refine blk_alloc ?_ _)); refine blk_put (cs := #[.string ((rd_T51 l0 x15_1).f0.f0), .int .i64 ((rd_T51 l0 x15_1).f0.f1), .int .i64 ((rd_T51 l0 x15_1).f0.f2), .bool ((rd_T51 l0 x15_1).f0.f3), .int .i64 ((rd_T51 l0 x15_1).f0.f4), .int .i64 0, .int .i64 0, .int .i64 0, .int .i64 0]) ?_ 5 _ rfl; (with_reducible repeat (first | refine blk_drewN ?_ _ | refine blk_drew ?_ | refine blk_alloc ?_ _)); refine blk_put (cs := #[.string ((rd_T51 l0 x15_1).f0.f0), .int .i64 ((rd_T51 l0 x15_1).f0.f1), .int .i64 ((rd_T51 l0 x15_1).f0.f2), .bool ((rd_T51 l0 x15_1).f0.f3), .int .i64 0, .int .i64 0, .int .i64 0, .int .i64 0, .int .i64 0]) ?_ 4 _ rfl; (with_reducible repeat (first | refine blk_drewN ?_ _ | refine blk_drew ?_ | refine blk_alloc ?_ _)); refine blk_put (cs := #[.string ((rd_T51 l0 x15_1).f0.f0), .int .i64 ((rd_T51 l0 x15_1).f0.f1), .int .i64 ((rd_T51 l0 x15_1).f0.f2), .bool false, .int .i64 0, .int .i64 0, .int .i64 0, .int .i64 0, .int .i64 0]) ?_ 3 _ rfl; (with_reducible repeat (first | refine blk_drewN ?_ _ | refine blk_drew ?_ | refine blk_alloc ?_ _)); refine blk_put (cs := #[.string ((rd_T51 l0 x15_1).f0.f0), .int .i64 ((rd_T51 l0 x15_1).f0.f1), .int .i64 0, .bool false, .int .i64 0, .int .i64 0, .int .i64 0, .int .i64 0, .int .i64 0]) ?_ 2 _ rfl; (with_reducible repeat (first | refine blk_drewN ?_ _ | refine blk_drew ?_ | refine blk_alloc ?_ _)); refine blk_put (cs := #[.string ((rd_T51 l0 x15_1).f0.f0), .int .i64 0, .int .i64 0, .bool false, .int .i64 0, .int .i64 0, .int .i64 0, .int .i64 0, .int .i64 0]) ?_ 1 _ rfl; (with_reducible repeat (first | refine blk_drewN ?_ _ | refine blk_drew ?_ | refine blk_alloc ?_ _)); refine blk_put (cs := #[.string (⟨#[]⟩ : ByteArray), .int .i64 0, .int .i64 0, .bool false, .int .i64 0, .int .i64 0, .int .i64 0, .int .i64 0, .int .i64 0]) ?_ 0 _ rfl; (with_reducible repeat (first | refine blk_drewN ?_ _ | refine blk_drew ?_ | refine blk_alloc ?_ _)); exact BK311.out) hg (Kd.R_away HO_7.out (fun _ hk => hk.2))); have n1_ := Aside0.mk (hb); have n2_ := Aside0.mk (ho); clear BK311; clear HB; clear HO_7; have BK311 := n0_; have HB := n1_; have HO314 := n2_; clear n0_ n1_ n2_; clear ho hb hg hat))
                  go_roundg k1
                  case measure => have := HK1.out; omega
                  case rel => exact ⟨(y312), (wrap64 (x15_1 + 1)), (by first | rfl | (simp; done) | (simp [*]; done)), H', ⟨by have := HK1.out; omega⟩, ⟨by (with_reducible repeat (first | apply Kd.R_alloc | apply Kd.R_drewN | apply Kd.R_drew)); exact Kd.R_mono HO314.out (fun _ hk => trivial)⟩, ⟨by repeat (first | (with_reducible first | exact HB.out | apply below_alloc | apply pw_below_drewN | apply below_drew1 | refine below_set ?_ GE311.out) | exact HB.out)⟩⟩
                · rw [if_neg c9] at H
                  exact absurd H (by simp)
              · rw [if_neg c8] at H
                have c8b0 : (((rd_T51 l0 x15_1).f1.f1) == a2) = false := beq_eq_false_iff_ne.mpr c8
                have c8b1 : (((rd_T51 l0 x15_1).f1.f1) != a2) = true := bne_iff_ne.mpr c8
                have H' := Aside0.mk H
                clear H
                have p310 : 0 ≤ (x15_1 : Int) := of_decide_eq_true (by first | (with_reducible assumption) | assumption)
                have q310 : x15_1 < (l0.length : Int) := of_decide_eq_true (by first | (with_reducible assumption) | assumption)
                obtain ⟨ad310, e310, hx310_0, hx310_1, hx310_2, hx310_3, hx310_4, hx310_5, hx310_6, hx310_7, hx310_8⟩ := at_T51 HR0.out x15_1 p310 q310
                cases e310
                replace hx310_0 := (HB.out.cell (World.block_lt_of_cell? w _ hx310_0)).trans hx310_0
                replace hx310_1 := (HB.out.cell (World.block_lt_of_cell? w _ hx310_1)).trans hx310_1
                replace hx310_2 := (HB.out.cell (World.block_lt_of_cell? w _ hx310_2)).trans hx310_2
                replace hx310_3 := (HB.out.cell (World.block_lt_of_cell? w _ hx310_3)).trans hx310_3
                replace hx310_4 := (HB.out.cell (World.block_lt_of_cell? w _ hx310_4)).trans hx310_4
                replace hx310_5 := (HB.out.cell (World.block_lt_of_cell? w _ hx310_5)).trans hx310_5
                replace hx310_6 := (HB.out.cell (World.block_lt_of_cell? w _ hx310_6)).trans hx310_6
                replace hx310_7 := (HB.out.cell (World.block_lt_of_cell? w _ hx310_7)).trans hx310_7
                replace hx310_8 := (HB.out.cell (World.block_lt_of_cell? w _ hx310_8)).trans hx310_8
                replace p310 := eq_true p310
                replace q310 := eq_true q310
                go_wp2_with (first | ((with_reducible refine gate_dst (N := 9) rfl ?_); refine box_event ?hg (N := 9) ?hd (cs := #[.string (⟨#[]⟩ : ByteArray), .int .i64 0, .int .i64 0, .bool false, .int .i64 0, .int .i64 0, .int .i64 0, .int .i64 0, .int .i64 0]) (t := 51) ?hr ?_; (case hd => rfl); (case hg => rfl); (case hr => first | (go_simp; done) | (go_simp; rfl)); intro gb311 hg w13 hbox hb; have n0_ := Aside0.mk (Kd.R_below (Kd.R_elderB (by (with_reducible repeat (first | apply Kd.R_alloc | apply Kd.R_drewN | apply Kd.R_drew)); exact HO_7.out) gb311 (Nat.le_of_eq hg.symm)) hb); have n1_ := Aside0.mk (below_step Sk.bl_ hb); have n2_ := Aside0.mk (hbox); have n3_ := Aside0.mk ((by rw [hg]; exact (below_size Sk.bl_) : w.heap.size ≤ gb311)); have n4_ := Aside0.mk ((by rw [hg]; exact (below_size Sk.bl_) : w.heap.size ≤ gb311)); clear HO_7; clear HB; have HO_7 := n0_; have HB := n1_; have BK311 := n2_; have GW311 := n3_; have GE311 := n4_; clear n0_ n1_ n2_ n3_ n4_; clear hb hbox hg; have hcz14_0 : w13.cell? ⟨gb311, 0, none⟩ = some (.string (⟨#[]⟩ : ByteArray)) := (blk_cell BK311.out 0).trans rfl; have hcz14_1 : w13.cell? ⟨gb311, 1, none⟩ = some (.int .i64 0) := (blk_cell BK311.out 1).trans rfl; have hcz14_2 : w13.cell? ⟨gb311, 2, none⟩ = some (.int .i64 0) := (blk_cell BK311.out 2).trans rfl; have hcz14_3 : w13.cell? ⟨gb311, 3, none⟩ = some (.bool false) := (blk_cell BK311.out 3).trans rfl; have hcz14_4 : w13.cell? ⟨gb311, 4, none⟩ = some (.int .i64 0) := (blk_cell BK311.out 4).trans rfl; have hcz14_5 : w13.cell? ⟨gb311, 5, none⟩ = some (.int .i64 0) := (blk_cell BK311.out 5).trans rfl; have hcz14_6 : w13.cell? ⟨gb311, 6, none⟩ = some (.int .i64 0) := (blk_cell BK311.out 6).trans rfl; have hcz14_7 : w13.cell? ⟨gb311, 7, none⟩ = some (.int .i64 0) := (blk_cell BK311.out 7).trans rfl; have hcz14_8 : w13.cell? ⟨gb311, 8, none⟩ = some (.int .i64 0) := (blk_cell BK311.out 8).trans rfl; have hfz14_0 := blk_frozen BK311.out 0; have hfz14_1 := blk_frozen BK311.out 1; have hfz14_2 := blk_frozen BK311.out 2; have hfz14_3 := blk_frozen BK311.out 3; have hfz14_4 := blk_frozen BK311.out 4; have hfz14_5 := blk_frozen BK311.out 5; have hfz14_6 := blk_frozen BK311.out 6; have hfz14_7 := blk_frozen BK311.out 7; have hfz14_8 := blk_frozen BK311.out 8))
                go_roundg k1
                case measure => have := HK1.out; omega
                case rel => exact ⟨(x7_1), (wrap64 (x15_1 + 1)), (by first | rfl | (simp; done) | (simp [*]; done)), H', ⟨by have := HK1.out; omega⟩, ⟨by (with_reducible repeat (first | apply Kd.R_alloc | apply Kd.R_drewN | apply Kd.R_drew)); exact Kd.R_mono (Kd.R_far (p := ⟨gb311, 8, none⟩) (Kd.R_far (p := ⟨gb311, 7, none⟩) (Kd.R_far (p := ⟨gb311, 6, none⟩) (Kd.R_far (p := ⟨gb311, 5, none⟩) (Kd.R_far (p := ⟨gb311, 4, none⟩) (Kd.R_far (p := ⟨gb311, 3, none⟩) (Kd.R_far (p := ⟨gb311, 2, none⟩) (Kd.R_far (p := ⟨gb311, 1, none⟩) (Kd.R_far (p := ⟨gb311, 0, none⟩) (Kd.R_mono HO_7.out (fun k_ hk => (⟨hk, hk.2⟩ : _ ∧ k_ ≠ gb311))) (fun _ hk => hk.2) (.string ((rd_T51 l0 x15_1).f0.f0))) (fun _ hk => hk.2) (.int .i64 ((rd_T51 l0 x15_1).f0.f1))) (fun _ hk => hk.2) (.int .i64 ((rd_T51 l0 x15_1).f0.f2))) (fun _ hk => hk.2) (.bool ((rd_T51 l0 x15_1).f0.f3))) (fun _ hk => hk.2) (.int .i64 ((rd_T51 l0 x15_1).f0.f4))) (fun _ hk => hk.2) (.int .i64 ((rd_T51 l0 x15_1).f0.f5))) (fun _ hk => hk.2) (.int .i64 ((rd_T51 l0 x15_1).f1.f0))) (fun _ hk => hk.2) (.int .i64 ((rd_T51 l0 x15_1).f1.f1))) (fun _ hk => hk.2) (.int .i64 ((rd_T51 l0 x15_1).f1.f2))) (fun _ hk => trivial)⟩, ⟨by repeat (first | (with_reducible first | exact HB.out | apply below_alloc | apply pw_below_drewN | apply below_drew1 | refine below_set ?_ GE311.out) | exact HB.out)⟩⟩
            · rw [if_neg c7] at H
              have c7b0 : (((rd_T51 l0 x15_1).f1.f0) == a1) = false := beq_eq_false_iff_ne.mpr c7
              have c7b1 : (((rd_T51 l0 x15_1).f1.f0) != a1) = true := bne_iff_ne.mpr c7
              have H' := Aside0.mk H
              clear H
              have p310 : 0 ≤ (x15_1 : Int) := of_decide_eq_true (by first | (with_reducible assumption) | assumption)
              have q310 : x15_1 < (l0.length : Int) := of_decide_eq_true (by first | (with_reducible assumption) | assumption)
              obtain ⟨ad310, e310, hx310_0, hx310_1, hx310_2, hx310_3, hx310_4, hx310_5, hx310_6, hx310_7, hx310_8⟩ := at_T51 HR0.out x15_1 p310 q310
              cases e310
              replace hx310_0 := (HB.out.cell (World.block_lt_of_cell? w _ hx310_0)).trans hx310_0
              replace hx310_1 := (HB.out.cell (World.block_lt_of_cell? w _ hx310_1)).trans hx310_1
              replace hx310_2 := (HB.out.cell (World.block_lt_of_cell? w _ hx310_2)).trans hx310_2
              replace hx310_3 := (HB.out.cell (World.block_lt_of_cell? w _ hx310_3)).trans hx310_3
              replace hx310_4 := (HB.out.cell (World.block_lt_of_cell? w _ hx310_4)).trans hx310_4
              replace hx310_5 := (HB.out.cell (World.block_lt_of_cell? w _ hx310_5)).trans hx310_5
              replace hx310_6 := (HB.out.cell (World.block_lt_of_cell? w _ hx310_6)).trans hx310_6
              replace hx310_7 := (HB.out.cell (World.block_lt_of_cell? w _ hx310_7)).trans hx310_7
              replace hx310_8 := (HB.out.cell (World.block_lt_of_cell? w _ hx310_8)).trans hx310_8
              replace p310 := eq_true p310
              replace q310 := eq_true q310
              go_wp2_with (first | ((with_reducible refine gate_dst (N := 9) rfl ?_); refine box_event ?hg (N := 9) ?hd (cs := #[.string (⟨#[]⟩ : ByteArray), .int .i64 0, .int .i64 0, .bool false, .int .i64 0, .int .i64 0, .int .i64 0, .int .i64 0, .int .i64 0]) (t := 51) ?hr ?_; (case hd => rfl); (case hg => rfl); (case hr => first | (go_simp; done) | (go_simp; rfl)); intro gb311 hg w15 hbox hb; have n0_ := Aside0.mk (Kd.R_below (Kd.R_elderB (by (with_reducible repeat (first | apply Kd.R_alloc | apply Kd.R_drewN | apply Kd.R_drew)); exact HO_7.out) gb311 (Nat.le_of_eq hg.symm)) hb); have n1_ := Aside0.mk (below_step Sk.bl_ hb); have n2_ := Aside0.mk (hbox); have n3_ := Aside0.mk ((by rw [hg]; exact (below_size Sk.bl_) : w.heap.size ≤ gb311)); have n4_ := Aside0.mk ((by rw [hg]; exact (below_size Sk.bl_) : w.heap.size ≤ gb311)); clear HO_7; clear HB; have HO_7 := n0_; have HB := n1_; have BK311 := n2_; have GW311 := n3_; have GE311 := n4_; clear n0_ n1_ n2_ n3_ n4_; clear hb hbox hg; have hcz16_0 : w15.cell? ⟨gb311, 0, none⟩ = some (.string (⟨#[]⟩ : ByteArray)) := (blk_cell BK311.out 0).trans rfl; have hcz16_1 : w15.cell? ⟨gb311, 1, none⟩ = some (.int .i64 0) := (blk_cell BK311.out 1).trans rfl; have hcz16_2 : w15.cell? ⟨gb311, 2, none⟩ = some (.int .i64 0) := (blk_cell BK311.out 2).trans rfl; have hcz16_3 : w15.cell? ⟨gb311, 3, none⟩ = some (.bool false) := (blk_cell BK311.out 3).trans rfl; have hcz16_4 : w15.cell? ⟨gb311, 4, none⟩ = some (.int .i64 0) := (blk_cell BK311.out 4).trans rfl; have hcz16_5 : w15.cell? ⟨gb311, 5, none⟩ = some (.int .i64 0) := (blk_cell BK311.out 5).trans rfl; have hcz16_6 : w15.cell? ⟨gb311, 6, none⟩ = some (.int .i64 0) := (blk_cell BK311.out 6).trans rfl; have hcz16_7 : w15.cell? ⟨gb311, 7, none⟩ = some (.int .i64 0) := (blk_cell BK311.out 7).trans rfl; have hcz16_8 : w15.cell? ⟨gb311, 8, none⟩ = some (.int .i64 0) := (blk_cell BK311.out 8).trans rfl; have hfz16_0 := blk_frozen BK311.out 0; have hfz16_1 := blk_frozen BK311.out 1; have hfz16_2 := blk_frozen BK311.out 2; have hfz16_3 := blk_frozen BK311.out 3; have hfz16_4 := blk_frozen BK311.out 4; have hfz16_5 := blk_frozen BK311.out 5; have hfz16_6 := blk_frozen BK311.out 6; have hfz16_7 := blk_frozen BK311.out 7; have hfz16_8 := blk_frozen BK311.out 8))
              go_roundg k1
              case measure => have := HK1.out; omega
              case rel => exact ⟨(x7_1), (wrap64 (x15_1 + 1)), (by first | rfl | (simp; done) | (simp [*]; done)), H', ⟨by have := HK1.out; omega⟩, ⟨by (with_reducible repeat (first | apply Kd.R_alloc | apply Kd.R_drewN | apply Kd.R_drew)); exact Kd.R_mono (Kd.R_far (p := ⟨gb311, 8, none⟩) (Kd.R_far (p := ⟨gb311, 7, none⟩) (Kd.R_far (p := ⟨gb311, 6, none⟩) (Kd.R_far (p := ⟨gb311, 5, none⟩) (Kd.R_far (p := ⟨gb311, 4, none⟩) (Kd.R_far (p := ⟨gb311, 3, none⟩) (Kd.R_far (p := ⟨gb311, 2, none⟩) (Kd.R_far (p := ⟨gb311, 1, none⟩) (Kd.R_far (p := ⟨gb311, 0, none⟩) (Kd.R_mono HO_7.out (fun k_ hk => (⟨hk, hk.2⟩ : _ ∧ k_ ≠ gb311))) (fun _ hk => hk.2) (.string ((rd_T51 l0 x15_1).f0.f0))) (fun _ hk => hk.2) (.int .i64 ((rd_T51 l0 x15_1).f0.f1))) (fun _ hk => hk.2) (.int .i64 ((rd_T51 l0 x15_1).f0.f2))) (fun _ hk => hk.2) (.bool ((rd_T51 l0 x15_1).f0.f3))) (fun _ hk => hk.2) (.int .i64 ((rd_T51 l0 x15_1).f0.f4))) (fun _ hk => hk.2) (.int .i64 ((rd_T51 l0 x15_1).f0.f5))) (fun _ hk => hk.2) (.int .i64 ((rd_T51 l0 x15_1).f1.f0))) (fun _ hk => hk.2) (.int .i64 ((rd_T51 l0 x15_1).f1.f1))) (fun _ hk => hk.2) (.int .i64 ((rd_T51 l0 x15_1).f1.f2))) (fun _ hk => trivial)⟩, ⟨by repeat (first | (with_reducible first | exact HB.out | apply below_alloc | apply pw_below_drewN | apply below_drew1 | refine below_set ?_ GE311.out) | exact HB.out)⟩⟩
          · rw [if_neg c6] at H
            exact absurd H (by simp)
        · rw [if_neg c5] at H
          exact absurd H (by simp)
      · rw [if_neg c4] at H
        have c4b0 : decide (x15_1 < (l0.length : Int)) = false := decide_eq_false c4
        clear c4
        by_cases c41 : 0 < x7_1.length ∧ x7_1.length ≤ 12
        rotate_left
        · rw [if_neg c41] at H
          exact absurd H (by simp)
        rw [if_pos c41] at H
        have hcon := impl_StowCode.sortR HO_7.out c41.1 c41.2 HB.out
        have hl := impl_StowCode.srt_len x7_1
        clear c41
        obtain ⟨Ao17, co17, eo17⟩ := Kd.R_slice HO_7.out
        subst eo17
        generalize impl_StowCode.srt x7_1 = y7 at H hcon hl
        clear HO_7 HB
        rw [← hl] at hcon
        rw [← hl]
        have H' := Aside0.mk H
        have HCON := Aside0.mk hcon
        clear H hcon hl
        go_wp2_with (go_at_call 51; refine HCON.out.mono ?_; rintro e w' ⟨rfl, ho_, hb_⟩; have HO_7 := Aside0.mk ho_; have HB := Aside0.mk hb_; clear ho_ hb_)
        go_loopg [10, 40] k1 (fun kq v10 v40 w' => ∃ (x10_2 : List (S48)) (x40_2 : Int), v40 = .int .i64 x40_2 ∧ Aside0 (impl_stackOf.l1 kq x10_2 y7 (y7.length : Int) x40_2 = some r) ∧ Aside0 (kq ≤ k1) ∧ Aside0 (Kd.R k48 48 w' w.heap.size (fun _ => True) v10 x10_2) ∧ Aside0 (Kd.R k51 51 w' w.heap.size (fun _ => True) (.slice Ao17 y7.length co17) y7) ∧ Aside0 (Below w.heap.size w w'))
        case atStart => exact ⟨(([] : List (S48))), (0), (by first | rfl | (simp; done) | (simp [*]; done)), H', ⟨Nat.le_refl _⟩, ⟨by first | exact Kd.R_nil _ _ _ _ _ | exact Kd.N_nil _ _ _ _ _ | exact Kd.V_nil _ _ _ _ _ | exact Kd.Q_nil _ _ _ _ _ | exact Kd.S_nil _ _ _ _ _⟩, ⟨by (with_reducible repeat (first | apply Kd.R_alloc | apply Kd.R_drewN | apply Kd.R_drew)); exact HO_7.out⟩, ⟨Sk.bl_⟩⟩
        case round =>
          clear H'
          try clear c2
          try clear p2
          try clear p3
          try clear q3
          try clear hx3
          try clear c4
          try clear c4b0
          try clear c5
          try clear c5b0
          try clear c6
          try clear c6b0
          try clear p6
          try clear c7
          try clear c7b0
          try clear c7b1
          try clear c8
          try clear c8b0
          try clear c8b1
          try clear c9
          try clear hcz11_0
          try clear hcz11_1
          try clear hcz11_2
          try clear hcz11_3
          try clear hcz11_4
          try clear hcz11_5
          try clear hcz11_6
          try clear hcz11_7
          try clear hcz11_8
          try clear hcz14_0
          try clear hcz14_1
          try clear hcz14_2
          try clear hcz14_3
          try clear hcz14_4
          try clear hcz14_5
          try clear hcz14_6
          try clear hcz14_7
          try clear hcz14_8
          try clear hcz16_0
          try clear hcz16_1
          try clear hcz16_2
          try clear hcz16_3
          try clear hcz16_4
          try clear hcz16_5
          try clear hcz16_6
          try clear hcz16_7
          try clear hcz16_8
          try clear hfz11_0
          try clear hfz11_1
          try clear hfz11_2
          try clear hfz11_3
          try clear hfz11_4
          try clear hfz11_5
          try clear hfz11_6
          try clear hfz11_7
          try clear hfz11_8
          try clear hfz14_0
          try clear hfz14_1
          try clear hfz14_2
          try clear hfz14_3
          try clear hfz14_4
          try clear hfz14_5
          try clear hfz14_6
          try clear hfz14_7
          try clear hfz14_8
          try clear hfz16_0
          try clear hfz16_1
          try clear hfz16_2
          try clear hfz16_3
          try clear hfz16_4
          try clear hfz16_5
          try clear hfz16_6
          try clear hfz16_7
          try clear hfz16_8
          try clear hx310_0
          try clear hx310_1
          try clear hx310_2
          try clear hx310_3
          try clear hx310_4
          try clear hx310_5
          try clear hx310_6
          try clear hx310_7
          try clear hx310_8
          try clear p2
          try clear p310
          try clear q310
          obtain ⟨x10_2, x40_2, rfl, HA, HK2, HO_10, HO_38, HB⟩ := hrel
          cases gk with
          | zero => exact absurd HA.out (by simp [impl_stackOf.l1])
          | succ k2 =>
            have H := HA.out
            clear HA
            simp only [impl_stackOf.l1] at H
            by_cases c18 : x40_2 < (y7.length : Int)
            · rw [if_pos c18] at H
              have c18b0 : decide (x40_2 < (y7.length : Int)) = true := decide_eq_true c18
              clear c18
              by_cases c19 : 0 ≤ x40_2
              · rw [if_pos c19] at H
                have c19b0 : decide (0 ≤ x40_2) = true := decide_eq_true c19
                clear c19
                by_cases c20 : x40_2 < (y7.length : Int)
                · rw [if_pos c20] at H
                  have c20b0 : decide (x40_2 < (y7.length : Int)) = true := decide_eq_true c20
                  clear c20
                  by_cases c21 : x10_2.length < 2513169434916
                  · rw [if_pos c21] at H
                    have LMc21 := Aside0.mk c21
                    clear c21
                    obtain ⟨y317, hy317⟩ : ∃ y_ : List (S48), y_ = (x10_2 ++ [(⟨(rd_T51 y7 x40_2).f0.f0, (rd_T51 y7 x40_2).f0.f1, (rd_T51 y7 x40_2).f0.f2, (rd_T51 y7 x40_2).f0.f3, (rd_T51 y7 x40_2).f0.f4, (rd_T51 y7 x40_2).f0.f5⟩ : S48)]) := ⟨_, rfl⟩
                    replace H : (impl_stackOf.l1 k2 y317 y7 (y7.length : Int) (wrap64 (x40_2 + 1))) = some r := by first | (rw [hy317]; with_reducible exact H) | (have H2_ := (Option.bind_some _ _).symm.trans H; rw [hy317]; with_reducible exact H2_) | (have H2_ := (Option.bind_some _ _).symm.trans H; with_reducible exact H2_) | with_reducible exact H | (rw [hy317]; exact H) | exact H
                    have Ny317 := Aside0.mk hy317
                    clear hy317
                    have H' := Aside0.mk H
                    clear H
                    have p315 : 0 ≤ (x40_2 : Int) := of_decide_eq_true (by first | (with_reducible assumption) | assumption)
                    have q315 : x40_2 < (y7.length : Int) := of_decide_eq_true (by first | (with_reducible assumption) | assumption)
                    obtain ⟨ad315, e315, hx315_0, hx315_1, hx315_2, hx315_3, hx315_4, hx315_5, hx315_6, hx315_7, hx315_8⟩ := at_T51 (Kd.R_reads' HO_38.out).2.2 x40_2 p315 q315
                    cases e315
                    replace p315 := eq_true p315
                    replace q315 := eq_true q315
                    go_wp2_with (first | ((with_reducible refine gate_dst (N := 12) rfl ?_); refine box_event ?hg (N := 12) ?hd (cs := #[.string (⟨#[]⟩ : ByteArray), .int .i64 0, .int .i64 0, .bool false, .int .i64 0, .int .i64 0, .int .i64 0, .int .i64 0, .int .i64 0]) (t := 51) ?hr ?_; (case hd => rfl); (case hg => rfl); (case hr => first | (go_simp; done) | (go_simp; rfl)); intro gb316 hg w22 hbox hb; have n0_ := Aside0.mk (Kd.R_below (by (with_reducible repeat (first | apply Kd.R_alloc | apply Kd.R_drewN | apply Kd.R_drew)); exact HO_10.out) hb); have n1_ := Aside0.mk (Kd.R_below (Kd.R_elderB (by (with_reducible repeat (first | apply Kd.R_alloc | apply Kd.R_drewN | apply Kd.R_drew)); exact HO_38.out) gb316 (Nat.le_of_eq hg.symm)) hb); have n2_ := Aside0.mk (below_step Sk.bl_ hb); have n3_ := Aside0.mk (hbox); have n4_ := Aside0.mk ((by rw [hg]; exact (below_size Sk.bl_) : w.heap.size ≤ gb316)); have n5_ := Aside0.mk ((by rw [hg]; exact (below_size Sk.bl_) : w.heap.size ≤ gb316)); clear HO_10; clear HO_38; clear HB; have HO_10 := n0_; have HO_38 := n1_; have HB := n2_; have BK316 := n3_; have GW316 := n4_; have GE316 := n5_; clear n0_ n1_ n2_ n3_ n4_ n5_; clear hb hbox hg; have hcz23_0 : w22.cell? ⟨gb316, 0, none⟩ = some (.string (⟨#[]⟩ : ByteArray)) := (blk_cell BK316.out 0).trans rfl; have hcz23_1 : w22.cell? ⟨gb316, 1, none⟩ = some (.int .i64 0) := (blk_cell BK316.out 1).trans rfl; have hcz23_2 : w22.cell? ⟨gb316, 2, none⟩ = some (.int .i64 0) := (blk_cell BK316.out 2).trans rfl; have hcz23_3 : w22.cell? ⟨gb316, 3, none⟩ = some (.bool false) := (blk_cell BK316.out 3).trans rfl; have hcz23_4 : w22.cell? ⟨gb316, 4, none⟩ = some (.int .i64 0) := (blk_cell BK316.out 4).trans rfl; have hcz23_5 : w22.cell? ⟨gb316, 5, none⟩ = some (.int .i64 0) := (blk_cell BK316.out 5).trans rfl; have hcz23_6 : w22.cell? ⟨gb316, 6, none⟩ = some (.int .i64 0) := (blk_cell BK316.out 6).trans rfl; have hcz23_7 : w22.cell? ⟨gb316, 7, none⟩ = some (.int .i64 0) := (blk_cell BK316.out 7).trans rfl; have hcz23_8 : w22.cell? ⟨gb316, 8, none⟩ = some (.int .i64 0) := (blk_cell BK316.out 8).trans rfl; have hfz23_0 := blk_frozen BK316.out 0; have hfz23_1 := blk_frozen BK316.out 1; have hfz23_2 := blk_frozen BK316.out 2; have hfz23_3 := blk_frozen BK316.out 3; have hfz23_4 := blk_frozen BK316.out 4; have hfz23_5 := blk_frozen BK316.out 5; have hfz23_6 := blk_frozen BK316.out 6; have hfz23_7 := blk_frozen BK316.out 7; have hfz23_8 := blk_frozen BK316.out 8) | ((with_reducible refine gate_builtin (b := .append) (xs := #[.tmp 44, .tmp 47]) rfl ?_); at_builtin; refine Kd.R_append k48 (w0 := w) w.heap.size rfl (.tmp 44) (.tmp 47) 60 48 (.agg #[(.string ⟨#[]⟩), (.int .i64 0), (.int .i64 0), (.bool false), (.int .i64 0), (.int .i64 0)]) 56 rfl Try.underlying60 info48 rfl (by decide) (by omega) u10 x10_2 (⟨(rd_T51 y7 x40_2).f0.f0, (rd_T51 y7 x40_2).f0.f1, (rd_T51 y7 x40_2).f0.f2, (rd_T51 y7 x40_2).f0.f3, (rd_T51 y7 x40_2).f0.f4, (rd_T51 y7 x40_2).f0.f5⟩ : S48) [.string ((rd_T51 y7 x40_2).f0.f0), .int .i64 ((rd_T51 y7 x40_2).f0.f1), .int .i64 ((rd_T51 y7 x40_2).f0.f2), .bool ((rd_T51 y7 x40_2).f0.f3), .int .i64 ((rd_T51 y7 x40_2).f0.f4), .int .i64 ((rd_T51 y7 x40_2).f0.f5)] (fun _ => True) (fun _ => False) rfl (by first | (go_simp; done) | (go_simp; rfl)) ?aP (fun _ hk => hk.elim) ?aF ?aO ?aB ?aS ?aL ?_; (case aP => exact k48_mkM _ _ _ (⟨(rd_T51 y7 x40_2).f0.f0, (rd_T51 y7 x40_2).f0.f1, (rd_T51 y7 x40_2).f0.f2, (rd_T51 y7 x40_2).f0.f3, (rd_T51 y7 x40_2).f0.f4, (rd_T51 y7 x40_2).f0.f5⟩ : S48)); (case aB => exact (by repeat (first | (with_reducible first | exact HB.out | apply below_alloc | apply pw_below_drewN | apply below_drew1 | refine below_set ?_ GE316.out) | exact HB.out))); (case aF => exact (fun _ _ => trivial)); (case aO => exact (by (with_reducible repeat (first | apply Kd.R_alloc | apply Kd.R_drewN | apply Kd.R_drew)); exact Kd.R_mono (Kd.R_far (p := ⟨gb316, 8, none⟩) (Kd.R_far (p := ⟨gb316, 7, none⟩) (Kd.R_far (p := ⟨gb316, 6, none⟩) (Kd.R_far (p := ⟨gb316, 5, none⟩) (Kd.R_far (p := ⟨gb316, 4, none⟩) (Kd.R_far (p := ⟨gb316, 3, none⟩) (Kd.R_far (p := ⟨gb316, 2, none⟩) (Kd.R_far (p := ⟨gb316, 1, none⟩) (Kd.R_far (p := ⟨gb316, 0, none⟩) (Kd.R_types HO_10.out BK316.out (by decide)) (fun _ hk => hk.2) (.string ((rd_T51 y7 x40_2).f0.f0))) (fun _ hk => hk.2) (.int .i64 ((rd_T51 y7 x40_2).f0.f1))) (fun _ hk => hk.2) (.int .i64 ((rd_T51 y7 x40_2).f0.f2))) (fun _ hk => hk.2) (.bool ((rd_T51 y7 x40_2).f0.f3))) (fun _ hk => hk.2) (.int .i64 ((rd_T51 y7 x40_2).f0.f4))) (fun _ hk => hk.2) (.int .i64 ((rd_T51 y7 x40_2).f0.f5))) (fun _ hk => hk.2) (.int .i64 ((rd_T51 y7 x40_2).f1.f0))) (fun _ hk => hk.2) (.int .i64 ((rd_T51 y7 x40_2).f1.f1))) (fun _ hk => hk.2) (.int .i64 ((rd_T51 y7 x40_2).f1.f2))) (fun _ hk => trivial))); (case aS => exact (below_size (by repeat (first | (with_reducible first | exact HB.out | apply below_alloc | apply pw_below_drewN | apply below_drew1 | refine below_set ?_ GE316.out) | exact HB.out)))); (case aL => have := LMc21.out; omega); intro v318 w24 ho hb hg hat; rw [← Ny317.out] at ho; have n0_ := Aside0.mk (Kd.R_over' (by (with_reducible repeat (first | apply Kd.R_alloc | apply Kd.R_drewN | apply Kd.R_drew)); exact (Kd.R_mono (Kd.R_far (p := ⟨gb316, 8, none⟩) (Kd.R_far (p := ⟨gb316, 7, none⟩) (Kd.R_far (p := ⟨gb316, 6, none⟩) (Kd.R_far (p := ⟨gb316, 5, none⟩) (Kd.R_far (p := ⟨gb316, 4, none⟩) (Kd.R_far (p := ⟨gb316, 3, none⟩) (Kd.R_far (p := ⟨gb316, 2, none⟩) (Kd.R_far (p := ⟨gb316, 1, none⟩) (Kd.R_far (p := ⟨gb316, 0, none⟩) (Kd.R_mono HO_38.out (fun k_ hk => (⟨hk, hk.2⟩ : _ ∧ k_ ≠ gb316))) (fun _ hk => hk.2) (.string ((rd_T51 y7 x40_2).f0.f0))) (fun _ hk => hk.2) (.int .i64 ((rd_T51 y7 x40_2).f0.f1))) (fun _ hk => hk.2) (.int .i64 ((rd_T51 y7 x40_2).f0.f2))) (fun _ hk => hk.2) (.bool ((rd_T51 y7 x40_2).f0.f3))) (fun _ hk => hk.2) (.int .i64 ((rd_T51 y7 x40_2).f0.f4))) (fun _ hk => hk.2) (.int .i64 ((rd_T51 y7 x40_2).f0.f5))) (fun _ hk => hk.2) (.int .i64 ((rd_T51 y7 x40_2).f1.f0))) (fun _ hk => hk.2) (.int .i64 ((rd_T51 y7 x40_2).f1.f1))) (fun _ hk => hk.2) (.int .i64 ((rd_T51 y7 x40_2).f1.f2))) (fun _ h_ => h_.1))) (Kd.R_typed (by (with_reducible repeat (first | apply Kd.R_alloc | apply Kd.R_drewN | apply Kd.R_drew)); exact (Kd.R_mono (Kd.R_far (p := ⟨gb316, 8, none⟩) (Kd.R_far (p := ⟨gb316, 7, none⟩) (Kd.R_far (p := ⟨gb316, 6, none⟩) (Kd.R_far (p := ⟨gb316, 5, none⟩) (Kd.R_far (p := ⟨gb316, 4, none⟩) (Kd.R_far (p := ⟨gb316, 3, none⟩) (Kd.R_far (p := ⟨gb316, 2, none⟩) (Kd.R_far (p := ⟨gb316, 1, none⟩) (Kd.R_far (p := ⟨gb316, 0, none⟩) (Kd.R_types HO_10.out BK316.out (by decide)) (fun _ hk => hk.2) (.string ((rd_T51 y7 x40_2).f0.f0))) (fun _ hk => hk.2) (.int .i64 ((rd_T51 y7 x40_2).f0.f1))) (fun _ hk => hk.2) (.int .i64 ((rd_T51 y7 x40_2).f0.f2))) (fun _ hk => hk.2) (.bool ((rd_T51 y7 x40_2).f0.f3))) (fun _ hk => hk.2) (.int .i64 ((rd_T51 y7 x40_2).f0.f4))) (fun _ hk => hk.2) (.int .i64 ((rd_T51 y7 x40_2).f0.f5))) (fun _ hk => hk.2) (.int .i64 ((rd_T51 y7 x40_2).f1.f0))) (fun _ hk => hk.2) (.int .i64 ((rd_T51 y7 x40_2).f1.f1))) (fun _ hk => hk.2) (.int .i64 ((rd_T51 y7 x40_2).f1.f2))) (fun _ h_ => h_.1)))) (by decide) hg); have n1_ := Aside0.mk (blk_grown (g := gb316) (o := .cells #[.string ((rd_T51 y7 x40_2).f0.f0), .int .i64 ((rd_T51 y7 x40_2).f0.f1), .int .i64 ((rd_T51 y7 x40_2).f0.f2), .bool ((rd_T51 y7 x40_2).f0.f3), .int .i64 ((rd_T51 y7 x40_2).f0.f4), .int .i64 ((rd_T51 y7 x40_2).f0.f5), .int .i64 ((rd_T51 y7 x40_2).f1.f0), .int .i64 ((rd_T51 y7 x40_2).f1.f1), .int .i64 ((rd_T51 y7 x40_2).f1.f2)] 51 (0, 0)) (by (with_reducible repeat (first | refine blk_drewN ?_ _ | refine blk_drew ?_ | refine blk_alloc ?_ _)); refine blk_put (cs := #[.string ((rd_T51 y7 x40_2).f0.f0), .int .i64 ((rd_T51 y7 x40_2).f0.f1), .int .i64 ((rd_T51 y7 x40_2).f0.f2), .bool ((rd_T51 y7 x40_2).f0.f3), .int .i64 ((rd_T51 y7 x40_2).f0.f4), .int .i64 ((rd_T51 y7 x40_2).f0.f5), .int .i64 ((rd_T51 y7 x40_2).f1.f0), .int .i64 ((rd_T51 y7 x40_2).f1.f1), .int .i64 0]) ?_ 8 _ rfl; (with_reducible repeat (first | refine blk_drewN ?_ _ | refine blk_drew ?_ | refine blk_alloc ?_ _)); refine blk_put (cs := #[.string ((rd_T51 y7 x40_2).f0.f0), .int .i64 ((rd_T51 y7 x40_2).f0.f1), .int .i64 ((rd_T51 y7 x40_2).f0.f2), .bool ((rd_T51 y7 x40_2).f0.f3), .int .i64 ((rd_T51 y7 x40_2).f0.f4), .int .i64 ((rd_T51 y7 x40_2).f0.f5), .int .i64 ((rd_T51 y7 x40_2).f1.f0), .int .i64 0, .int .i64 0]) ?_ 7 _ rfl; (with_reducible repeat (first | refine blk_drewN ?_ _ | refine blk_drew ?_ | refine blk_alloc ?_ _)); refine blk_put (cs := #[.string ((rd_T51 y7 x40_2).f0.f0), .int .i64 ((rd_T51 y7 x40_2).f0.f1), .int .i64 ((rd_T51 y7 x40_2).f0.f2), .bool ((rd_T51 y7 x40_2).f0.f3), .int .i64 ((rd_T51 y7 x40_2).f0.f4), .int .i64 ((rd_T51 y7 x40_2).f0.f5), .int .i64 0, .int .i64 0, .int .i64 0]) ?_ 6 _ rfl; (with_reducible repeat (first | refine blk_drewN ?_ _ | refine blk_drew ?_ | refine blk_alloc ?_ _)); refine blk_put (cs := #[.string ((rd_T51 y7 x40_2).f0.f0), .int .i64 ((rd_T51 y7 x40_2).f0.f1), .int .i64 ((rd_T51 y7 x40_2).f0.f2), .bool ((rd_T51 y7 x40_2).f0.f3), .int .i64 ((rd_T51 y7 x40_2).f0.f4), .int .i64 0, .int .i64 0, .int .i64 0, .int .i64 0]) ?_ 5 _ rfl; (with_reducible repeat (first | refine blk_drewN ?_ _ | refine blk_drew ?_ | refine blk_alloc ?_ _)); refine blk_put (cs := #[.string ((rd_T51 y7 x40_2).f0.f0), .int .i64 ((rd_T51 y7 x40_2).f0.f1), .int .i64 ((rd_T51 y7 x40_2).f0.f2), .bool ((rd_T51 y7 x40_2).f0.f3), .int .i64 0, .int .i64 0, .int .i64 0, .int .i64 0, .int .i64 0]) ?_ 4 _ rfl; (with_reducible repeat (first | refine blk_drewN ?_ _ | refine blk_drew ?_ | refine blk_alloc ?_ _)); refine blk_put (cs := #[.string ((rd_T51 y7 x40_2).f0.f0), .int .i64 ((rd_T51 y7 x40_2).f0.f1), .int .i64 ((rd_T51 y7 x40_2).f0.f2), .bool false, .int .i64 0, .int .i64 0, .int .i64 0, .int .i64 0, .int .i64 0]) ?_ 3 _ rfl; (with_reducible repeat (first | refine blk_drewN ?_ _ | refine blk_drew ?_ | refine blk_alloc ?_ _)); refine blk_put (cs := #[.string ((rd_T51 y7 x40_2).f0.f0), .int .i64 ((rd_T51 y7 x40_2).f0.f1), .int .i64 0, .bool false, .int .i64 0, .int .i64 0, .int .i64 0, .int .i64 0, .int .i64 0]) ?_ 2 _ rfl; (with_reducible repeat (first | refine blk_drewN ?_ _ | refine blk_drew ?_ | refine blk_alloc ?_ _)); refine blk_put (cs := #[.string ((rd_T51 y7 x40_2).f0.f0), .int .i64 0, .int .i64 0, .bool false, .int .i64 0, .int .i64 0, .int .i64 0, .int .i64 0, .int .i64 0]) ?_ 1 _ rfl; (with_reducible repeat (first | refine blk_drewN ?_ _ | refine blk_drew ?_ | refine blk_alloc ?_ _)); refine blk_put (cs := #[.string (⟨#[]⟩ : ByteArray), .int .i64 0, .int .i64 0, .bool false, .int .i64 0, .int .i64 0, .int .i64 0, .int .i64 0, .int .i64 0]) ?_ 0 _ rfl; (with_reducible repeat (first | refine blk_drewN ?_ _ | refine blk_drew ?_ | refine blk_alloc ?_ _)); exact BK316.out) hg (Kd.R_ne HO_10.out BK316.out (by decide))); have n2_ := Aside0.mk (hb); have n3_ := Aside0.mk (ho); clear HO_38; clear BK316; clear HB; clear HO_10; have HO_38 := n0_; have BK316 := n1_; have HB := n2_; have HO319 := n3_; clear n0_ n1_ n2_ n3_; clear ho hb hg hat))
                    go_roundg k2
                    case measure => have := HK1.out; have := HK2.out; omega
                    case rel => exact ⟨(y317), (wrap64 (x40_2 + 1)), (by first | rfl | (simp; done) | (simp [*]; done)), H', ⟨by have := HK1.out; have := HK2.out; omega⟩, ⟨by (with_reducible repeat (first | apply Kd.R_alloc | apply Kd.R_drewN | apply Kd.R_drew)); exact HO319.out⟩, ⟨by (with_reducible repeat (first | apply Kd.R_alloc | apply Kd.R_drewN | apply Kd.R_drew)); exact Kd.R_mono HO_38.out (fun _ hk => trivial)⟩, ⟨by repeat (first | (with_reducible first | exact HB.out | apply below_alloc | apply pw_below_drewN | apply below_drew1 | refine below_set ?_ GE316.out) | exact HB.out)⟩⟩
                  · rw [if_neg c21] at H
                    exact absurd H (by simp)
                · rw [if_neg c20] at H
                  exact absurd H (by simp)
              · rw [if_neg c19] at H
                exact absurd H (by simp)
            · rw [if_neg c18] at H
              have c18b0 : decide (x40_2 < (y7.length : Int)) = false := decide_eq_false c18
              clear c18
              obtain rfl := Option.some.inj H
              go_wp2
              go_ret
              exact ⟨_, by first | rfl | (simp [errW_none, errW_some] <;> rfl) | (simp [*, errW_none, errW_some] <;> rfl), by (with_reducible repeat (first | apply Kd.R_alloc | apply Kd.R_drewN | apply Kd.R_drew)); exact HO_10.out, Sk.bl_⟩
attribute [local go_sem high] eqA49
/-! ### the literals of impl_StowCode -/
def impl_StowCode.inb (a b c : Int) : Bool := decide (b ≤ a) && decide (a ≤ c)
theorem impl_StowCode.in_eq (a b c : Int) : impl_in.f a b c = some (impl_StowCode.inb a b c) := by
  unfold impl_in.f impl_StowCode.inb
  by_cases h : a ≥ b
  · rw [if_pos h]; simp [show b ≤ a from h]
  · rw [if_neg h]; simp [show ¬ b ≤ a from h]
def impl_StowCode.same (p q : S49) : Bool := p.f0 == q.f0 && (p.f1 == q.f1 && (p.f2 == q.f2))
def impl_StowCode.twice (x y : S51) : Bool := decide (y.f0.f0.toList = x.f0.f0.toList) || impl_StowCode.same y.f1 x.f1
def impl_StowCode.spot (l0 : List S45) (x : S51) : Bool := !impl_StowCode.inb x.f1.f0 0 (wrap64 ((l0.length : Int) - 1)) || (!impl_StowCode.inb x.f1.f1 0 (wrap64 ((rd_T45 l0 x.f1.f0).f0 - 1)) || !impl_StowCode.inb x.f1.f2 0 (wrap64 ((rd_T45 l0 x.f1.f0).f1 - 1)))
def impl_StowCode.floats (l1 : List S51) (x : S51) : Bool := decide (0 ≤ wrap64 (x.f1.f2 - 1)) && !(l1.any fun y => impl_StowCode.same y.f1 ⟨x.f1.f0, x.f1.f1, wrap64 (x.f1.f2 - 1)⟩)
def impl_StowCode.icy (b : Int) (y : S51) : Bool := y.f0.f3 && (y.f1.f0 == b)
def impl_StowCode.cold (l0 : List S45) (l1 : List S51) (x : S51) : Bool := x.f0.f3 && decide ((l1.countP (impl_StowCode.icy x.f1.f0) : Int) > (rd_T45 l0 x.f1.f0).f3)
def impl_StowCode.ka (k : Nat) (x y : S51) : Option Bool := impl_KeepsApart.f k y.f0.f0 y.f0.f1 y.f0.f2 y.f0.f3 y.f0.f4 y.f0.f5 y.f1.f0 y.f1.f1 y.f1.f2 x.f0.f0 x.f0.f1 x.f0.f2 x.f0.f3 x.f0.f4 x.f0.f5 x.f1.f0 x.f1.f1 x.f1.f2
/-- The boxes of the variables bays and list, and their rows. -/
structure impl_StowCode.Cap (A0 : Option Addr) (c0 : Nat) (l0 : List S45) (A1 : Option Addr) (c1 : Nat) (l1 : List S51) (gB gL : Nat) (W : World) : Prop where
  b : W.heap[gB]? = some (.cells #[.slice A0 l0.length c0] 28 (0, 0))
  l : W.heap[gL]? = some (.cells #[.slice A1 l1.length c1] 30 (0, 0))
  r0 : Kd.C k45 W A0 l0.length l0
  h0 : l0.length ≤ c0
  r1 : Kd.C k51 W A1 l1.length l1
  h1 : l1.length ≤ c1
section
variable {A0 A1 : Option Addr} {c0 c1 gB gL : Nat} {l0 : List S45} {l1 : List S51} {w W : World}
theorem impl_StowCode.Cap.below (h : impl_StowCode.Cap A0 c0 l0 A1 c1 l1 gB gL w) (hb : Below w.heap.size w W) : impl_StowCode.Cap A0 c0 l0 A1 c1 l1 gB gL W := ⟨blk_below h.b hb, blk_below h.l hb, Kd.C_below h.r0 hb, h.h0, Kd.C_below h.r1 hb, h.h1⟩
end
set_option maxHeartbeats 4000000 in
set_option maxRecDepth 100000 in
theorem impl_StowCode.lit22 (x y : S51) (g : Nat) (w : World) (hx : w.heap[g]? = some (.cells #[.string x.f0.f0, .int .i64 x.f0.f1, .int .i64 x.f0.f2, .bool x.f0.f3, .int .i64 x.f0.f4, .int .i64 x.f0.f5, .int .i64 x.f1.f0, .int .i64 x.f1.f1, .int .i64 x.f1.f2] 51 (0, 0))) :
    Calls Try.prog 22 #[.agg #[.string y.f0.f0, .int .i64 y.f0.f1, .int .i64 y.f0.f2, .bool y.f0.f3, .int .i64 y.f0.f4, .int .i64 y.f0.f5, .int .i64 y.f1.f0, .int .i64 y.f1.f1, .int .i64 y.f1.f2], .pointer (some ⟨g, 0, none⟩)] w fun e w' => e = .returned (.bool (impl_StowCode.twice x y)) ∧ Below w.heap.size w w' := by
  have hu51 := Try.underlying51
  have hu49 := Try.underlying49
  have hu48 := Try.underlying48
  have BKX := Aside0.mk hx
  clear hx
  have HB := Aside0.mk (Below.refl w.heap.size w)
  go_enter Try.func22, Try.ntmps22
  go_upto_region 1 with (first | ((with_reducible refine gate_dst (N := 2) rfl ?_); refine box_event ?hg (N := 2) ?hd (cs := #[.string y.f0.f0, .int .i64 y.f0.f1, .int .i64 y.f0.f2, .bool y.f0.f3, .int .i64 y.f0.f4, .int .i64 y.f0.f5, .int .i64 y.f1.f0, .int .i64 y.f1.f1, .int .i64 y.f1.f2]) (t := 51) ?hr ?_; (case hd => rfl); (case hg => rfl); (case hr => first | (go_simp; done) | (go_simp; rfl)); intro gy hg w1 hbox hb; have GBKY := Aside0.mk (show w.heap.size ≤ gy by rw [hg]; exact below_size Sk.bl_); have BKY := Aside0.mk hbox; have n0_ := Aside0.mk (below_step Sk.bl_ hb); have n1_ := Aside0.mk (blk_below (g := g) (o := .cells #[.string x.f0.f0, .int .i64 x.f0.f1, .int .i64 x.f0.f2, .bool x.f0.f3, .int .i64 x.f0.f4, .int .i64 x.f0.f5, .int .i64 x.f1.f0, .int .i64 x.f1.f1, .int .i64 x.f1.f2] 51 (0, 0)) (by (with_reducible repeat (first | refine blk_drewN ?_ _ | refine blk_drew ?_ | refine blk_alloc ?_ _)); exact BKX.out) hb); clear HB BKX; have HB := n0_; have BKX := n1_; clear n0_ n1_; clear hb hbox hg; have hcw1BKX_0 : w1.cell? ⟨g, 0, none⟩ = some (.string x.f0.f0) := (blk_cell BKX.out 0).trans rfl; have hcw1BKX_1 : w1.cell? ⟨g, 1, none⟩ = some (.int .i64 x.f0.f1) := (blk_cell BKX.out 1).trans rfl; have hcw1BKX_2 : w1.cell? ⟨g, 2, none⟩ = some (.int .i64 x.f0.f2) := (blk_cell BKX.out 2).trans rfl; have hcw1BKX_3 : w1.cell? ⟨g, 3, none⟩ = some (.bool x.f0.f3) := (blk_cell BKX.out 3).trans rfl; have hcw1BKX_4 : w1.cell? ⟨g, 4, none⟩ = some (.int .i64 x.f0.f4) := (blk_cell BKX.out 4).trans rfl; have hcw1BKX_5 : w1.cell? ⟨g, 5, none⟩ = some (.int .i64 x.f0.f5) := (blk_cell BKX.out 5).trans rfl; have hcw1BKX_6 : w1.cell? ⟨g, 6, none⟩ = some (.int .i64 x.f1.f0) := (blk_cell BKX.out 6).trans rfl; have hcw1BKX_7 : w1.cell? ⟨g, 7, none⟩ = some (.int .i64 x.f1.f1) := (blk_cell BKX.out 7).trans rfl; have hcw1BKX_8 : w1.cell? ⟨g, 8, none⟩ = some (.int .i64 x.f1.f2) := (blk_cell BKX.out 8).trans rfl; have hcw1BKY_0 : w1.cell? ⟨gy, 0, none⟩ = some (.string y.f0.f0) := (blk_cell BKY.out 0).trans rfl; have hcw1BKY_1 : w1.cell? ⟨gy, 1, none⟩ = some (.int .i64 y.f0.f1) := (blk_cell BKY.out 1).trans rfl; have hcw1BKY_2 : w1.cell? ⟨gy, 2, none⟩ = some (.int .i64 y.f0.f2) := (blk_cell BKY.out 2).trans rfl; have hcw1BKY_3 : w1.cell? ⟨gy, 3, none⟩ = some (.bool y.f0.f3) := (blk_cell BKY.out 3).trans rfl; have hcw1BKY_4 : w1.cell? ⟨gy, 4, none⟩ = some (.int .i64 y.f0.f4) := (blk_cell BKY.out 4).trans rfl; have hcw1BKY_5 : w1.cell? ⟨gy, 5, none⟩ = some (.int .i64 y.f0.f5) := (blk_cell BKY.out 5).trans rfl; have hcw1BKY_6 : w1.cell? ⟨gy, 6, none⟩ = some (.int .i64 y.f1.f0) := (blk_cell BKY.out 6).trans rfl; have hcw1BKY_7 : w1.cell? ⟨gy, 7, none⟩ = some (.int .i64 y.f1.f1) := (blk_cell BKY.out 7).trans rfl; have hcw1BKY_8 : w1.cell? ⟨gy, 8, none⟩ = some (.int .i64 y.f1.f2) := (blk_cell BKY.out 8).trans rfl))
  by_cases s1 : y.f0.f0.toList = x.f0.f0.toList
  · have HP := Aside0.mk (show impl_StowCode.twice x y = true by simp [impl_StowCode.twice, s1])
    have s0 : (y.f0.f0.toList == x.f0.f0.toList) = true := beq_iff_eq.mpr s1
    have s2 : (y.f0.f0.toList != x.f0.f0.toList) = false := bne_eq_false_iff_eq.mpr s1
    clear s1
    go_wp2
    go_ret
    exact ⟨by rw [HP.out]; rfl, Sk.bl_⟩
  · have s0 : (y.f0.f0.toList == x.f0.f0.toList) = false := beq_eq_false_iff_ne.mpr s1
    have s2 : (y.f0.f0.toList != x.f0.f0.toList) = true := bne_iff_ne.mpr s1
    have HP := Aside0.mk (show impl_StowCode.twice x y = (y.f1.f0 == x.f1.f0 && (y.f1.f1 == x.f1.f1 && (y.f1.f2 == x.f1.f2))) by simp [impl_StowCode.twice, s1, impl_StowCode.same])
    clear s1
    go_wp2
    go_ret
    exact ⟨by rw [HP.out]; rfl, Sk.bl_⟩
set_option maxHeartbeats 4000000 in
set_option maxRecDepth 100000 in
theorem impl_StowCode.lit26 (p : S49) (y : S51) (g : Nat) (w : World) (hx : w.heap[g]? = some (.cells #[.int .i64 p.f0, .int .i64 p.f1, .int .i64 p.f2] 49 (0, 0))) :
    Calls Try.prog 26 #[.agg #[.string y.f0.f0, .int .i64 y.f0.f1, .int .i64 y.f0.f2, .bool y.f0.f3, .int .i64 y.f0.f4, .int .i64 y.f0.f5, .int .i64 y.f1.f0, .int .i64 y.f1.f1, .int .i64 y.f1.f2], .pointer (some ⟨g, 0, none⟩)] w fun e w' => e = .returned (.bool (impl_StowCode.same y.f1 p)) ∧ Below w.heap.size w w' := by
  have hu51 := Try.underlying51
  have hu49 := Try.underlying49
  have hu48 := Try.underlying48
  have BKX := Aside0.mk hx
  clear hx
  have HB := Aside0.mk (Below.refl w.heap.size w)
  go_enter Try.func26, Try.ntmps26
  go_wp2_with (first | ((with_reducible refine gate_dst (N := 2) rfl ?_); refine box_event ?hg (N := 2) ?hd (cs := #[.string y.f0.f0, .int .i64 y.f0.f1, .int .i64 y.f0.f2, .bool y.f0.f3, .int .i64 y.f0.f4, .int .i64 y.f0.f5, .int .i64 y.f1.f0, .int .i64 y.f1.f1, .int .i64 y.f1.f2]) (t := 51) ?hr ?_; (case hd => rfl); (case hg => rfl); (case hr => first | (go_simp; done) | (go_simp; rfl)); intro gy hg w1 hbox hb; have GBKY := Aside0.mk (show w.heap.size ≤ gy by rw [hg]; exact below_size Sk.bl_); have BKY := Aside0.mk hbox; have n0_ := Aside0.mk (below_step Sk.bl_ hb); have n1_ := Aside0.mk (blk_below (g := g) (o := .cells #[.int .i64 p.f0, .int .i64 p.f1, .int .i64 p.f2] 49 (0, 0)) (by (with_reducible repeat (first | refine blk_drewN ?_ _ | refine blk_drew ?_ | refine blk_alloc ?_ _)); exact BKX.out) hb); clear HB BKX; have HB := n0_; have BKX := n1_; clear n0_ n1_; clear hb hbox hg; have hcw1BKX_0 : w1.cell? ⟨g, 0, none⟩ = some (.int .i64 p.f0) := (blk_cell BKX.out 0).trans rfl; have hcw1BKX_1 : w1.cell? ⟨g, 1, none⟩ = some (.int .i64 p.f1) := (blk_cell BKX.out 1).trans rfl; have hcw1BKX_2 : w1.cell? ⟨g, 2, none⟩ = some (.int .i64 p.f2) := (blk_cell BKX.out 2).trans rfl; have hcw1BKY_0 : w1.cell? ⟨gy, 0, none⟩ = some (.string y.f0.f0) := (blk_cell BKY.out 0).trans rfl; have hcw1BKY_1 : w1.cell? ⟨gy, 1, none⟩ = some (.int .i64 y.f0.f1) := (blk_cell BKY.out 1).trans rfl; have hcw1BKY_2 : w1.cell? ⟨gy, 2, none⟩ = some (.int .i64 y.f0.f2) := (blk_cell BKY.out 2).trans rfl; have hcw1BKY_3 : w1.cell? ⟨gy, 3, none⟩ = some (.bool y.f0.f3) := (blk_cell BKY.out 3).trans rfl; have hcw1BKY_4 : w1.cell? ⟨gy, 4, none⟩ = some (.int .i64 y.f0.f4) := (blk_cell BKY.out 4).trans rfl; have hcw1BKY_5 : w1.cell? ⟨gy, 5, none⟩ = some (.int .i64 y.f0.f5) := (blk_cell BKY.out 5).trans rfl; have hcw1BKY_6 : w1.cell? ⟨gy, 6, none⟩ = some (.int .i64 y.f1.f0) := (blk_cell BKY.out 6).trans rfl; have hcw1BKY_7 : w1.cell? ⟨gy, 7, none⟩ = some (.int .i64 y.f1.f1) := (blk_cell BKY.out 7).trans rfl; have hcw1BKY_8 : w1.cell? ⟨gy, 8, none⟩ = some (.int .i64 y.f1.f2) := (blk_cell BKY.out 8).trans rfl))
  go_ret
  exact ⟨rfl, Sk.bl_⟩
set_option maxHeartbeats 4000000 in
set_option maxRecDepth 100000 in
theorem impl_StowCode.lit32 (k : Nat) (x y : S51) (b : Bool) (g : Nat) (w : World) (hx : w.heap[g]? = some (.cells #[.string x.f0.f0, .int .i64 x.f0.f1, .int .i64 x.f0.f2, .bool x.f0.f3, .int .i64 x.f0.f4, .int .i64 x.f0.f5, .int .i64 x.f1.f0, .int .i64 x.f1.f1, .int .i64 x.f1.f2] 51 (0, 0))) (h : impl_StowCode.ka k x y = some b) :
    Calls Try.prog 32 #[.agg #[.string y.f0.f0, .int .i64 y.f0.f1, .int .i64 y.f0.f2, .bool y.f0.f3, .int .i64 y.f0.f4, .int .i64 y.f0.f5, .int .i64 y.f1.f0, .int .i64 y.f1.f1, .int .i64 y.f1.f2], .pointer (some ⟨g, 0, none⟩)] w fun e w' => e = .returned (.bool (!b)) ∧ Below w.heap.size w w' := by
  have hu51 := Try.underlying51
  have hu49 := Try.underlying49
  have hu48 := Try.underlying48
  have HK : Aside0 (impl_KeepsApart.f k y.f0.f0 y.f0.f1 y.f0.f2 y.f0.f3 y.f0.f4 y.f0.f5 y.f1.f0 y.f1.f1 y.f1.f2 x.f0.f0 x.f0.f1 x.f0.f2 x.f0.f3 x.f0.f4 x.f0.f5 x.f1.f0 x.f1.f1 x.f1.f2 = some b) := ⟨h⟩
  have BKX := Aside0.mk hx
  clear hx h
  have HB := Aside0.mk (Below.refl w.heap.size w)
  go_enter Try.func32, Try.ntmps32
  go_wp2_with (first | ((with_reducible refine gate_dst (N := 2) rfl ?_); refine box_event ?hg (N := 2) ?hd (cs := #[.string y.f0.f0, .int .i64 y.f0.f1, .int .i64 y.f0.f2, .bool y.f0.f3, .int .i64 y.f0.f4, .int .i64 y.f0.f5, .int .i64 y.f1.f0, .int .i64 y.f1.f1, .int .i64 y.f1.f2]) (t := 51) ?hr ?_; (case hd => rfl); (case hg => rfl); (case hr => first | (go_simp; done) | (go_simp; rfl)); intro gy hg w1 hbox hb; have GBKY := Aside0.mk (show w.heap.size ≤ gy by rw [hg]; exact below_size Sk.bl_); have BKY := Aside0.mk hbox; have n0_ := Aside0.mk (below_step Sk.bl_ hb); have n1_ := Aside0.mk (blk_below (g := g) (o := .cells #[.string x.f0.f0, .int .i64 x.f0.f1, .int .i64 x.f0.f2, .bool x.f0.f3, .int .i64 x.f0.f4, .int .i64 x.f0.f5, .int .i64 x.f1.f0, .int .i64 x.f1.f1, .int .i64 x.f1.f2] 51 (0, 0)) (by (with_reducible repeat (first | refine blk_drewN ?_ _ | refine blk_drew ?_ | refine blk_alloc ?_ _)); exact BKX.out) hb); clear HB BKX; have HB := n0_; have BKX := n1_; clear n0_ n1_; clear hb hbox hg; have hcw1BKX_0 : w1.cell? ⟨g, 0, none⟩ = some (.string x.f0.f0) := (blk_cell BKX.out 0).trans rfl; have hcw1BKX_1 : w1.cell? ⟨g, 1, none⟩ = some (.int .i64 x.f0.f1) := (blk_cell BKX.out 1).trans rfl; have hcw1BKX_2 : w1.cell? ⟨g, 2, none⟩ = some (.int .i64 x.f0.f2) := (blk_cell BKX.out 2).trans rfl; have hcw1BKX_3 : w1.cell? ⟨g, 3, none⟩ = some (.bool x.f0.f3) := (blk_cell BKX.out 3).trans rfl; have hcw1BKX_4 : w1.cell? ⟨g, 4, none⟩ = some (.int .i64 x.f0.f4) := (blk_cell BKX.out 4).trans rfl; have hcw1BKX_5 : w1.cell? ⟨g, 5, none⟩ = some (.int .i64 x.f0.f5) := (blk_cell BKX.out 5).trans rfl; have hcw1BKX_6 : w1.cell? ⟨g, 6, none⟩ = some (.int .i64 x.f1.f0) := (blk_cell BKX.out 6).trans rfl; have hcw1BKX_7 : w1.cell? ⟨g, 7, none⟩ = some (.int .i64 x.f1.f1) := (blk_cell BKX.out 7).trans rfl; have hcw1BKX_8 : w1.cell? ⟨g, 8, none⟩ = some (.int .i64 x.f1.f2) := (blk_cell BKX.out 8).trans rfl; have hcw1BKY_0 : w1.cell? ⟨gy, 0, none⟩ = some (.string y.f0.f0) := (blk_cell BKY.out 0).trans rfl; have hcw1BKY_1 : w1.cell? ⟨gy, 1, none⟩ = some (.int .i64 y.f0.f1) := (blk_cell BKY.out 1).trans rfl; have hcw1BKY_2 : w1.cell? ⟨gy, 2, none⟩ = some (.int .i64 y.f0.f2) := (blk_cell BKY.out 2).trans rfl; have hcw1BKY_3 : w1.cell? ⟨gy, 3, none⟩ = some (.bool y.f0.f3) := (blk_cell BKY.out 3).trans rfl; have hcw1BKY_4 : w1.cell? ⟨gy, 4, none⟩ = some (.int .i64 y.f0.f4) := (blk_cell BKY.out 4).trans rfl; have hcw1BKY_5 : w1.cell? ⟨gy, 5, none⟩ = some (.int .i64 y.f0.f5) := (blk_cell BKY.out 5).trans rfl; have hcw1BKY_6 : w1.cell? ⟨gy, 6, none⟩ = some (.int .i64 y.f1.f0) := (blk_cell BKY.out 6).trans rfl; have hcw1BKY_7 : w1.cell? ⟨gy, 7, none⟩ = some (.int .i64 y.f1.f1) := (blk_cell BKY.out 7).trans rfl; have hcw1BKY_8 : w1.cell? ⟨gy, 8, none⟩ = some (.int .i64 y.f1.f2) := (blk_cell BKY.out 8).trans rfl) | (go_at_call 33; (with_reducible refine (impl_KeepsApart.calls k y.f0.f0 y.f0.f1 y.f0.f2 y.f0.f3 y.f0.f4 y.f0.f5 y.f1.f0 y.f1.f1 y.f1.f2 x.f0.f0 x.f0.f1 x.f0.f2 x.f0.f3 x.f0.f4 x.f0.f5 x.f1.f0 x.f1.f1 x.f1.f2 b _ HK.out).mono ?_); rintro e w5 ⟨rfl, hb⟩; have HB_ := Aside0.mk (below_step HB.out hb); clear HB hb; have HB := HB_; clear HB_))
  go_ret
  exact ⟨rfl, Sk.bl_⟩
/-! #### 2 and 7: a cut of the list, and ContainsFunc -/
set_option maxHeartbeats 4000000 in
set_option maxRecDepth 100000 in
theorem impl_StowCode.lit2 (A0 : Option Addr) (c0 : Nat) (l0 : List S45) (A1 : Option Addr) (c1 : Nat) (l1 : List S51) (gB gL : Nat) (i : Int) (x : S51) (w : World) (h : impl_StowCode.Cap A0 c0 l0 A1 c1 l1 gB gL w) (hi : 0 ≤ i ∧ i ≤ (l1.length : Int)) :
    Calls Try.prog 20 #[.int .i64 i, .agg #[.string x.f0.f0, .int .i64 x.f0.f1, .int .i64 x.f0.f2, .bool x.f0.f3, .int .i64 x.f0.f4, .int .i64 x.f0.f5, .int .i64 x.f1.f0, .int .i64 x.f1.f1, .int .i64 x.f1.f2], .pointer (some ⟨gL, 0, none⟩)] w fun e w' => e = .returned (.bool ((l1.take i.toNat).any (impl_StowCode.twice x))) ∧ Below w.heap.size w w' := by
  have hu51 := Try.underlying51
  have hu30 := Try.underlying30
  have hmf : ∀ (fn : Fn) (first cap : Array Value) (w : World), (Instr.makeFunc fn first cap).run Try.prog w = .ok (.func fn first cap) w := fun _ _ _ _ => rfl
  obtain ⟨i0, hi0, _⟩ := Option.map_eq_some_iff.1 info51
  have hcut := cut_to (P := Try.prog) 30 51 .i64 Try.underlying30 hi0 A1 l1.length c1 i hi.1 hi.2 h.h1
  have hl : (l1.take i.toNat).length = i.toNat := by rw [List.length_take]; omega
  have HR := Aside0.mk (Kd.C_take h.r1 (show i.toNat ≤ l1.length by omega))
  have BKL := Aside0.mk h.l
  have HCF : Aside0 (∀ (W : World) (g : Nat), Below w.heap.size w W → W.heap[g]? = some (.cells #[.string x.f0.f0, .int .i64 x.f0.f1, .int .i64 x.f0.f2, .bool x.f0.f3, .int .i64 x.f0.f4, .int .i64 x.f0.f5, .int .i64 x.f1.f0, .int .i64 x.f1.f1, .int .i64 x.f1.f2] 51 (0, 0)) → Calls Try.prog 21 #[.slice A1 i.toNat c1, .func (.func 22) #[] #[.pointer (some ⟨g, 0, none⟩)]] W fun e w' => e = .returned (.bool ((l1.take i.toNat).any (impl_StowCode.twice x))) ∧ Below W.heap.size W w') := ⟨fun W g hb hg => by
    have h2 := impl_Stow_21.callsP 22 #[.pointer (some ⟨g, 0, none⟩)] (impl_StowCode.twice x) A1 c1 (l1.take i.toNat) W (enters_of Try.func22 (by kernel_rfl) rfl) (fun W2 y _ hb2 => impl_StowCode.lit22 x y g W2 (blk_below hg hb2)) (Kd.C_below HR.out hb)
    rw [hl] at h2
    exact h2⟩
  have p0 : 0 ≤ i := hi.1
  have p1 : i ≤ (l1.length : Int) := hi.2
  clear h hi hi0 hl
  have HB := Aside0.mk (Below.refl w.heap.size w)
  go_enter Try.func20, Try.ntmps20
  go_wp2_with (first | ((with_reducible refine gate_dst (N := 4) rfl ?_); refine box_event ?hg (N := 4) ?hd (cs := #[.string x.f0.f0, .int .i64 x.f0.f1, .int .i64 x.f0.f2, .bool x.f0.f3, .int .i64 x.f0.f4, .int .i64 x.f0.f5, .int .i64 x.f1.f0, .int .i64 x.f1.f1, .int .i64 x.f1.f2]) (t := 51) ?hr ?_; (case hd => rfl); (case hg => rfl); (case hr => first | (go_simp; done) | (go_simp; rfl)); intro gx hg w1 hbox hb; have GBKX := Aside0.mk (show w.heap.size ≤ gx by rw [hg]; exact below_size Sk.bl_); have BKX := Aside0.mk hbox; have n0_ := Aside0.mk (below_step Sk.bl_ hb); have n1_ := Aside0.mk (blk_below (g := gL) (o := .cells #[.slice A1 l1.length c1] 30 (0, 0)) (by (with_reducible repeat (first | refine blk_drewN ?_ _ | refine blk_drew ?_ | refine blk_alloc ?_ _)); exact BKL.out) hb); clear HB BKL; have HB := n0_; have BKL := n1_; clear n0_ n1_; clear hb hbox hg; have hcw1BKL_0 : w1.cell? ⟨gL, 0, none⟩ = some (.slice A1 l1.length c1) := (blk_cell BKL.out 0).trans rfl; have hcw1BKX_0 : w1.cell? ⟨gx, 0, none⟩ = some (.string x.f0.f0) := (blk_cell BKX.out 0).trans rfl; have hcw1BKX_1 : w1.cell? ⟨gx, 1, none⟩ = some (.int .i64 x.f0.f1) := (blk_cell BKX.out 1).trans rfl; have hcw1BKX_2 : w1.cell? ⟨gx, 2, none⟩ = some (.int .i64 x.f0.f2) := (blk_cell BKX.out 2).trans rfl; have hcw1BKX_3 : w1.cell? ⟨gx, 3, none⟩ = some (.bool x.f0.f3) := (blk_cell BKX.out 3).trans rfl; have hcw1BKX_4 : w1.cell? ⟨gx, 4, none⟩ = some (.int .i64 x.f0.f4) := (blk_cell BKX.out 4).trans rfl; have hcw1BKX_5 : w1.cell? ⟨gx, 5, none⟩ = some (.int .i64 x.f0.f5) := (blk_cell BKX.out 5).trans rfl; have hcw1BKX_6 : w1.cell? ⟨gx, 6, none⟩ = some (.int .i64 x.f1.f0) := (blk_cell BKX.out 6).trans rfl; have hcw1BKX_7 : w1.cell? ⟨gx, 7, none⟩ = some (.int .i64 x.f1.f1) := (blk_cell BKX.out 7).trans rfl; have hcw1BKX_8 : w1.cell? ⟨gx, 8, none⟩ = some (.int .i64 x.f1.f2) := (blk_cell BKX.out 8).trans rfl) | (go_at_call 21; (with_reducible refine (HCF.out _ _ HB.out BKX.out).mono ?_); rintro e w5 ⟨rfl, hb⟩; have HB_ := Aside0.mk (below_step HB.out hb); clear HB hb; have HB := HB_; clear HB_))
  go_ret
  exact ⟨rfl, Sk.bl_⟩
set_option maxHeartbeats 4000000 in
set_option maxRecDepth 100000 in
theorem impl_StowCode.lit7 (k : Nat) (A0 : Option Addr) (c0 : Nat) (l0 : List S45) (A1 : Option Addr) (c1 : Nat) (l1 : List S51) (gB gL : Nat) (i : Int) (x : S51) (w : World) (h : impl_StowCode.Cap A0 c0 l0 A1 c1 l1 gB gL w) (hi : 0 ≤ i ∧ i ≤ (l1.length : Int)) (hk : ∀ y ∈ l1.take i.toNat, (impl_StowCode.ka k x y).isSome = true) :
    Calls Try.prog 31 #[.int .i64 i, .agg #[.string x.f0.f0, .int .i64 x.f0.f1, .int .i64 x.f0.f2, .bool x.f0.f3, .int .i64 x.f0.f4, .int .i64 x.f0.f5, .int .i64 x.f1.f0, .int .i64 x.f1.f1, .int .i64 x.f1.f2], .pointer (some ⟨gL, 0, none⟩)] w fun e w' => e = .returned (.bool ((l1.take i.toNat).any (fun y => !(impl_StowCode.ka k x y == some true)))) ∧ Below w.heap.size w w' := by
  have hu51 := Try.underlying51
  have hu30 := Try.underlying30
  have hmf : ∀ (fn : Fn) (first cap : Array Value) (w : World), (Instr.makeFunc fn first cap).run Try.prog w = .ok (.func fn first cap) w := fun _ _ _ _ => rfl
  obtain ⟨i0, hi0, _⟩ := Option.map_eq_some_iff.1 info51
  have hcut := cut_to (P := Try.prog) 30 51 .i64 Try.underlying30 hi0 A1 l1.length c1 i hi.1 hi.2 h.h1
  have hl : (l1.take i.toNat).length = i.toNat := by rw [List.length_take]; omega
  have HR := Aside0.mk (Kd.C_take h.r1 (show i.toNat ≤ l1.length by omega))
  have BKL := Aside0.mk h.l
  have HCF : Aside0 (∀ (W : World) (g : Nat), Below w.heap.size w W → W.heap[g]? = some (.cells #[.string x.f0.f0, .int .i64 x.f0.f1, .int .i64 x.f0.f2, .bool x.f0.f3, .int .i64 x.f0.f4, .int .i64 x.f0.f5, .int .i64 x.f1.f0, .int .i64 x.f1.f1, .int .i64 x.f1.f2] 51 (0, 0)) → Calls Try.prog 21 #[.slice A1 i.toNat c1, .func (.func 32) #[] #[.pointer (some ⟨g, 0, none⟩)]] W fun e w' => e = .returned (.bool ((l1.take i.toNat).any (fun y => !(impl_StowCode.ka k x y == some true)))) ∧ Below W.heap.size W w') := ⟨fun W g hb hg => by
    have h2 := impl_Stow_21.callsP 32 #[.pointer (some ⟨g, 0, none⟩)] (fun y => !(impl_StowCode.ka k x y == some true)) A1 c1 (l1.take i.toNat) W (enters_of Try.func32 (by kernel_rfl) rfl) (fun W2 y hy hb2 => impl_StowCode.lit32 k x y (impl_StowCode.ka k x y == some true) g W2 (blk_below hg hb2) (by obtain ⟨b, hb⟩ := Option.isSome_iff_exists.1 (hk y hy); rw [hb]; cases b <;> rfl)) (Kd.C_below HR.out hb)
    rw [hl] at h2
    exact h2⟩
  have p0 : 0 ≤ i := hi.1
  have p1 : i ≤ (l1.length : Int) := hi.2
  clear h hi hi0 hl
  have HB := Aside0.mk (Below.refl w.heap.size w)
  go_enter Try.func31, Try.ntmps31
  go_wp2_with (first | ((with_reducible refine gate_dst (N := 4) rfl ?_); refine box_event ?hg (N := 4) ?hd (cs := #[.string x.f0.f0, .int .i64 x.f0.f1, .int .i64 x.f0.f2, .bool x.f0.f3, .int .i64 x.f0.f4, .int .i64 x.f0.f5, .int .i64 x.f1.f0, .int .i64 x.f1.f1, .int .i64 x.f1.f2]) (t := 51) ?hr ?_; (case hd => rfl); (case hg => rfl); (case hr => first | (go_simp; done) | (go_simp; rfl)); intro gx hg w1 hbox hb; have GBKX := Aside0.mk (show w.heap.size ≤ gx by rw [hg]; exact below_size Sk.bl_); have BKX := Aside0.mk hbox; have n0_ := Aside0.mk (below_step Sk.bl_ hb); have n1_ := Aside0.mk (blk_below (g := gL) (o := .cells #[.slice A1 l1.length c1] 30 (0, 0)) (by (with_reducible repeat (first | refine blk_drewN ?_ _ | refine blk_drew ?_ | refine blk_alloc ?_ _)); exact BKL.out) hb); clear HB BKL; have HB := n0_; have BKL := n1_; clear n0_ n1_; clear hb hbox hg; have hcw1BKL_0 : w1.cell? ⟨gL, 0, none⟩ = some (.slice A1 l1.length c1) := (blk_cell BKL.out 0).trans rfl; have hcw1BKX_0 : w1.cell? ⟨gx, 0, none⟩ = some (.string x.f0.f0) := (blk_cell BKX.out 0).trans rfl; have hcw1BKX_1 : w1.cell? ⟨gx, 1, none⟩ = some (.int .i64 x.f0.f1) := (blk_cell BKX.out 1).trans rfl; have hcw1BKX_2 : w1.cell? ⟨gx, 2, none⟩ = some (.int .i64 x.f0.f2) := (blk_cell BKX.out 2).trans rfl; have hcw1BKX_3 : w1.cell? ⟨gx, 3, none⟩ = some (.bool x.f0.f3) := (blk_cell BKX.out 3).trans rfl; have hcw1BKX_4 : w1.cell? ⟨gx, 4, none⟩ = some (.int .i64 x.f0.f4) := (blk_cell BKX.out 4).trans rfl; have hcw1BKX_5 : w1.cell? ⟨gx, 5, none⟩ = some (.int .i64 x.f0.f5) := (blk_cell BKX.out 5).trans rfl; have hcw1BKX_6 : w1.cell? ⟨gx, 6, none⟩ = some (.int .i64 x.f1.f0) := (blk_cell BKX.out 6).trans rfl; have hcw1BKX_7 : w1.cell? ⟨gx, 7, none⟩ = some (.int .i64 x.f1.f1) := (blk_cell BKX.out 7).trans rfl; have hcw1BKX_8 : w1.cell? ⟨gx, 8, none⟩ = some (.int .i64 x.f1.f2) := (blk_cell BKX.out 8).trans rfl) | (go_at_call 21; (with_reducible refine (HCF.out _ _ HB.out BKX.out).mono ?_); rintro e w5 ⟨rfl, hb⟩; have HB_ := Aside0.mk (below_step HB.out hb); clear HB hb; have HB := HB_; clear HB_))
  go_ret
  exact ⟨rfl, Sk.bl_⟩
/-! #### 3 -/
set_option maxHeartbeats 4000000 in
set_option maxRecDepth 100000 in
theorem impl_StowCode.lit3 (A0 : Option Addr) (c0 : Nat) (l0 : List S45) (A1 : Option Addr) (c1 : Nat) (l1 : List S51) (gB gL : Nat) (i : Int) (x : S51) (w : World) (h : impl_StowCode.Cap A0 c0 l0 A1 c1 l1 gB gL w) :
    Calls Try.prog 23 #[.int .i64 i, .agg #[.string x.f0.f0, .int .i64 x.f0.f1, .int .i64 x.f0.f2, .bool x.f0.f3, .int .i64 x.f0.f4, .int .i64 x.f0.f5, .int .i64 x.f1.f0, .int .i64 x.f1.f1, .int .i64 x.f1.f2], .pointer (some ⟨gB, 0, none⟩)] w fun e w' => e = .returned (.bool (impl_StowCode.spot l0 x)) ∧ Below w.heap.size w w' := by
  have hu51 := Try.underlying51
  have hu49 := Try.underlying49
  have hu48 := Try.underlying48
  have hu45 := Try.underlying45
  have hu28 := Try.underlying28
  have BKB := Aside0.mk h.b
  have HR0 := Aside0.mk h.r0
  have HN := Aside0.mk h.r0.2.1
  clear h
  have HB := Aside0.mk (Below.refl w.heap.size w)
  have r0 : IntKind.i64.wrap ((l0.length : Int) - 1) = wrap64 ((l0.length : Int) - 1) := IntWalk.i64_left _
  have H1 := Aside0.mk (impl_StowCode.in_eq x.f1.f0 0 (wrap64 ((l0.length : Int) - 1)))
  have HV : Aside0 (impl_StowCode.spot l0 x = (!impl_StowCode.inb x.f1.f0 0 (wrap64 ((l0.length : Int) - 1)) || (!impl_StowCode.inb x.f1.f1 0 (wrap64 ((rd_T45 l0 x.f1.f0).f0 - 1)) || !impl_StowCode.inb x.f1.f2 0 (wrap64 ((rd_T45 l0 x.f1.f0).f1 - 1))))) := ⟨rfl⟩
  have HW := Aside0.mk (show wrap64 ((l0.length : Int) - 1) = (l0.length : Int) - 1 by have := HN.out; unfold wrap64; omega)
  go_enter Try.func23, Try.ntmps23
  go_upto_region 2 with (first | ((with_reducible refine gate_dst (N := 4) rfl ?_); refine box_event ?hg (N := 4) ?hd (cs := #[.string x.f0.f0, .int .i64 x.f0.f1, .int .i64 x.f0.f2, .bool x.f0.f3, .int .i64 x.f0.f4, .int .i64 x.f0.f5, .int .i64 x.f1.f0, .int .i64 x.f1.f1, .int .i64 x.f1.f2]) (t := 51) ?hr ?_; (case hd => rfl); (case hg => rfl); (case hr => first | (go_simp; done) | (go_simp; rfl)); intro gx hg w1 hbox hb; have GBKX := Aside0.mk (show w.heap.size ≤ gx by rw [hg]; exact below_size Sk.bl_); have BKX := Aside0.mk hbox; have n0_ := Aside0.mk (below_step Sk.bl_ hb); have n1_ := Aside0.mk (blk_below (g := gB) (o := .cells #[.slice A0 l0.length c0] 28 (0, 0)) (by (with_reducible repeat (first | refine blk_drewN ?_ _ | refine blk_drew ?_ | refine blk_alloc ?_ _)); exact BKB.out) hb); clear HB BKB; have HB := n0_; have BKB := n1_; clear n0_ n1_; clear hb hbox hg; have hcw1BKB_0 : w1.cell? ⟨gB, 0, none⟩ = some (.slice A0 l0.length c0) := (blk_cell BKB.out 0).trans rfl; have hcw1BKX_0 : w1.cell? ⟨gx, 0, none⟩ = some (.string x.f0.f0) := (blk_cell BKX.out 0).trans rfl; have hcw1BKX_1 : w1.cell? ⟨gx, 1, none⟩ = some (.int .i64 x.f0.f1) := (blk_cell BKX.out 1).trans rfl; have hcw1BKX_2 : w1.cell? ⟨gx, 2, none⟩ = some (.int .i64 x.f0.f2) := (blk_cell BKX.out 2).trans rfl; have hcw1BKX_3 : w1.cell? ⟨gx, 3, none⟩ = some (.bool x.f0.f3) := (blk_cell BKX.out 3).trans rfl; have hcw1BKX_4 : w1.cell? ⟨gx, 4, none⟩ = some (.int .i64 x.f0.f4) := (blk_cell BKX.out 4).trans rfl; have hcw1BKX_5 : w1.cell? ⟨gx, 5, none⟩ = some (.int .i64 x.f0.f5) := (blk_cell BKX.out 5).trans rfl; have hcw1BKX_6 : w1.cell? ⟨gx, 6, none⟩ = some (.int .i64 x.f1.f0) := (blk_cell BKX.out 6).trans rfl; have hcw1BKX_7 : w1.cell? ⟨gx, 7, none⟩ = some (.int .i64 x.f1.f1) := (blk_cell BKX.out 7).trans rfl; have hcw1BKX_8 : w1.cell? ⟨gx, 8, none⟩ = some (.int .i64 x.f1.f2) := (blk_cell BKX.out 8).trans rfl) | ((with_reducible refine gate_dst (N := 6) rfl ?_); refine box_event ?hg (N := 6) ?hd (cs := #[.int .i64 0, .int .i64 0, .int .i64 0]) (t := 49) ?hr ?_; (case hd => rfl); (case hg => rfl); (case hr => first | (go_simp; done) | (go_simp; rfl)); intro gp hg w2 hbox hb; have GBKP := Aside0.mk (show w.heap.size ≤ gp by rw [hg]; exact below_size Sk.bl_); have BKP := Aside0.mk hbox; have n0_ := Aside0.mk (below_step Sk.bl_ hb); have n1_ := Aside0.mk (blk_below (g := gx) (o := .cells #[.string x.f0.f0, .int .i64 x.f0.f1, .int .i64 x.f0.f2, .bool x.f0.f3, .int .i64 x.f0.f4, .int .i64 x.f0.f5, .int .i64 x.f1.f0, .int .i64 x.f1.f1, .int .i64 x.f1.f2] 51 (0, 0)) (by (with_reducible repeat (first | refine blk_drewN ?_ _ | refine blk_drew ?_ | refine blk_alloc ?_ _)); exact BKX.out) hb); have n2_ := Aside0.mk (blk_below (g := gB) (o := .cells #[.slice A0 l0.length c0] 28 (0, 0)) (by (with_reducible repeat (first | refine blk_drewN ?_ _ | refine blk_drew ?_ | refine blk_alloc ?_ _)); exact BKB.out) hb); clear HB BKX BKB; have HB := n0_; have BKX := n1_; have BKB := n2_; clear n0_ n1_ n2_; clear hb hbox hg; have hcw2BKX_0 : w2.cell? ⟨gx, 0, none⟩ = some (.string x.f0.f0) := (blk_cell BKX.out 0).trans rfl; have hcw2BKX_1 : w2.cell? ⟨gx, 1, none⟩ = some (.int .i64 x.f0.f1) := (blk_cell BKX.out 1).trans rfl; have hcw2BKX_2 : w2.cell? ⟨gx, 2, none⟩ = some (.int .i64 x.f0.f2) := (blk_cell BKX.out 2).trans rfl; have hcw2BKX_3 : w2.cell? ⟨gx, 3, none⟩ = some (.bool x.f0.f3) := (blk_cell BKX.out 3).trans rfl; have hcw2BKX_4 : w2.cell? ⟨gx, 4, none⟩ = some (.int .i64 x.f0.f4) := (blk_cell BKX.out 4).trans rfl; have hcw2BKX_5 : w2.cell? ⟨gx, 5, none⟩ = some (.int .i64 x.f0.f5) := (blk_cell BKX.out 5).trans rfl; have hcw2BKX_6 : w2.cell? ⟨gx, 6, none⟩ = some (.int .i64 x.f1.f0) := (blk_cell BKX.out 6).trans rfl; have hcw2BKX_7 : w2.cell? ⟨gx, 7, none⟩ = some (.int .i64 x.f1.f1) := (blk_cell BKX.out 7).trans rfl; have hcw2BKX_8 : w2.cell? ⟨gx, 8, none⟩ = some (.int .i64 x.f1.f2) := (blk_cell BKX.out 8).trans rfl; have hcw2BKB_0 : w2.cell? ⟨gB, 0, none⟩ = some (.slice A0 l0.length c0) := (blk_cell BKB.out 0).trans rfl; have hcw2BKP_0 : w2.cell? ⟨gp, 0, none⟩ = some (.int .i64 0) := (blk_cell BKP.out 0).trans rfl; have hcw2BKP_1 : w2.cell? ⟨gp, 1, none⟩ = some (.int .i64 0) := (blk_cell BKP.out 1).trans rfl; have hcw2BKP_2 : w2.cell? ⟨gp, 2, none⟩ = some (.int .i64 0) := (blk_cell BKP.out 2).trans rfl; have hfw2BKX_0 := blk_frozen BKX.out 0; have hfw2BKX_1 := blk_frozen BKX.out 1; have hfw2BKX_2 := blk_frozen BKX.out 2; have hfw2BKX_3 := blk_frozen BKX.out 3; have hfw2BKX_4 := blk_frozen BKX.out 4; have hfw2BKX_5 := blk_frozen BKX.out 5; have hfw2BKX_6 := blk_frozen BKX.out 6; have hfw2BKX_7 := blk_frozen BKX.out 7; have hfw2BKX_8 := blk_frozen BKX.out 8; have hfw2BKB_0 := blk_frozen BKB.out 0; have hfw2BKP_0 := blk_frozen BKP.out 0; have hfw2BKP_1 := blk_frozen BKP.out 1; have hfw2BKP_2 := blk_frozen BKP.out 2) | ((with_reducible refine gate_store (t := 49) (p := 6) rfl ?_); refine store_event (t := 49) (p := 6) (v := ?vo_w3) (w1 := (((w2.setCell ⟨gp, 0, none⟩ (.int .i64 x.f1.f0)).setCell ⟨gp, 1, none⟩ (.int .i64 x.f1.f1)).setCell ⟨gp, 2, none⟩ (.int .i64 x.f1.f2))) ?hg ?ho ?hn ?hr ?_; (case ho => rfl); (case hg => rfl); (case hn => rfl); (case hr => first | (go_simp; done) | (go_simp; rfl)); intro w3 hw; have n0_ : Aside0 (w3.heap[gp]? = some (.cells #[.int .i64 x.f1.f0, .int .i64 x.f1.f1, .int .i64 x.f1.f2] 49 (0, 0))) := Aside0.mk (by rw [hw]; exact (blk_put (cs := #[.int .i64 x.f1.f0, .int .i64 x.f1.f1, .int .i64 0]) (cs' := #[.int .i64 x.f1.f0, .int .i64 x.f1.f1, .int .i64 x.f1.f2]) (blk_put (cs := #[.int .i64 x.f1.f0, .int .i64 0, .int .i64 0]) (cs' := #[.int .i64 x.f1.f0, .int .i64 x.f1.f1, .int .i64 0]) (blk_put (cs := #[.int .i64 0, .int .i64 0, .int .i64 0]) (cs' := #[.int .i64 x.f1.f0, .int .i64 0, .int .i64 0]) BKP.out 0 (.int .i64 x.f1.f0) rfl) 1 (.int .i64 x.f1.f1) rfl) 2 (.int .i64 x.f1.f2) rfl)); have n1_ : Aside0 (Below w.heap.size w w3) := Aside0.mk (by rw [hw]; exact (below_set (below_set (below_set HB.out GBKP.out) GBKP.out) GBKP.out)); have n2_ : Aside0 (w3.heap[gx]? = some (.cells #[.string x.f0.f0, .int .i64 x.f0.f1, .int .i64 x.f0.f2, .bool x.f0.f3, .int .i64 x.f0.f4, .int .i64 x.f0.f5, .int .i64 x.f1.f0, .int .i64 x.f1.f1, .int .i64 x.f1.f2] 51 (0, 0))) := Aside0.mk (by rw [hw]; exact (blk_far (blk_far (blk_far BKX.out (p := ⟨gp, 0, none⟩) (blk_ne BKX.out BKP.out (by decide)) (.int .i64 x.f1.f0)) (p := ⟨gp, 1, none⟩) (blk_ne BKX.out BKP.out (by decide)) (.int .i64 x.f1.f1)) (p := ⟨gp, 2, none⟩) (blk_ne BKX.out BKP.out (by decide)) (.int .i64 x.f1.f2))); have n3_ : Aside0 (w3.heap[gB]? = some (.cells #[.slice A0 l0.length c0] 28 (0, 0))) := Aside0.mk (by rw [hw]; exact (blk_far (blk_far (blk_far BKB.out (p := ⟨gp, 0, none⟩) (blk_ne BKB.out BKP.out (by decide)) (.int .i64 x.f1.f0)) (p := ⟨gp, 1, none⟩) (blk_ne BKB.out BKP.out (by decide)) (.int .i64 x.f1.f1)) (p := ⟨gp, 2, none⟩) (blk_ne BKB.out BKP.out (by decide)) (.int .i64 x.f1.f2))); clear HB BKP BKX BKB hw; have BKP := n0_; have HB := n1_; have BKX := n2_; have BKB := n3_; clear n0_ n1_ n2_ n3_; have hcw3BKX_0 : w3.cell? ⟨gx, 0, none⟩ = some (.string x.f0.f0) := (blk_cell BKX.out 0).trans rfl; have hcw3BKX_1 : w3.cell? ⟨gx, 1, none⟩ = some (.int .i64 x.f0.f1) := (blk_cell BKX.out 1).trans rfl; have hcw3BKX_2 : w3.cell? ⟨gx, 2, none⟩ = some (.int .i64 x.f0.f2) := (blk_cell BKX.out 2).trans rfl; have hcw3BKX_3 : w3.cell? ⟨gx, 3, none⟩ = some (.bool x.f0.f3) := (blk_cell BKX.out 3).trans rfl; have hcw3BKX_4 : w3.cell? ⟨gx, 4, none⟩ = some (.int .i64 x.f0.f4) := (blk_cell BKX.out 4).trans rfl; have hcw3BKX_5 : w3.cell? ⟨gx, 5, none⟩ = some (.int .i64 x.f0.f5) := (blk_cell BKX.out 5).trans rfl; have hcw3BKX_6 : w3.cell? ⟨gx, 6, none⟩ = some (.int .i64 x.f1.f0) := (blk_cell BKX.out 6).trans rfl; have hcw3BKX_7 : w3.cell? ⟨gx, 7, none⟩ = some (.int .i64 x.f1.f1) := (blk_cell BKX.out 7).trans rfl; have hcw3BKX_8 : w3.cell? ⟨gx, 8, none⟩ = some (.int .i64 x.f1.f2) := (blk_cell BKX.out 8).trans rfl; have hcw3BKB_0 : w3.cell? ⟨gB, 0, none⟩ = some (.slice A0 l0.length c0) := (blk_cell BKB.out 0).trans rfl; have hcw3BKP_0 : w3.cell? ⟨gp, 0, none⟩ = some (.int .i64 x.f1.f0) := (blk_cell BKP.out 0).trans rfl; have hcw3BKP_1 : w3.cell? ⟨gp, 1, none⟩ = some (.int .i64 x.f1.f1) := (blk_cell BKP.out 1).trans rfl; have hcw3BKP_2 : w3.cell? ⟨gp, 2, none⟩ = some (.int .i64 x.f1.f2) := (blk_cell BKP.out 2).trans rfl; have hfw3BKX_0 := blk_frozen BKX.out 0; have hfw3BKX_1 := blk_frozen BKX.out 1; have hfw3BKX_2 := blk_frozen BKX.out 2; have hfw3BKX_3 := blk_frozen BKX.out 3; have hfw3BKX_4 := blk_frozen BKX.out 4; have hfw3BKX_5 := blk_frozen BKX.out 5; have hfw3BKX_6 := blk_frozen BKX.out 6; have hfw3BKX_7 := blk_frozen BKX.out 7; have hfw3BKX_8 := blk_frozen BKX.out 8; have hfw3BKB_0 := blk_frozen BKB.out 0; have hfw3BKP_0 := blk_frozen BKP.out 0; have hfw3BKP_1 := blk_frozen BKP.out 1; have hfw3BKP_2 := blk_frozen BKP.out 2))
  clear hcw1BKX_0 hcw1BKX_1 hcw1BKX_2 hcw1BKX_3 hcw1BKX_4 hcw1BKX_5 hcw1BKX_6 hcw1BKX_7 hcw1BKX_8 hcw1BKB_0 hcw2BKX_0 hcw2BKX_1 hcw2BKX_2 hcw2BKX_3 hcw2BKX_4 hcw2BKX_5 hcw2BKX_6 hcw2BKX_7 hcw2BKX_8 hcw2BKB_0 hcw2BKP_0 hcw2BKP_1 hcw2BKP_2 hfw2BKX_0 hfw2BKX_1 hfw2BKX_2 hfw2BKX_3 hfw2BKX_4 hfw2BKX_5 hfw2BKX_6 hfw2BKX_7 hfw2BKX_8 hfw2BKB_0 hfw2BKP_0 hfw2BKP_1 hfw2BKP_2 hfw3BKX_0 hfw3BKX_1 hfw3BKX_2 hfw3BKX_3 hfw3BKX_4 hfw3BKX_5 hfw3BKX_6 hfw3BKX_7 hfw3BKX_8 hfw3BKB_0 hfw3BKP_0 hfw3BKP_1 hfw3BKP_2
  (try simp only [Act.put, List.setIfInBounds_toArray, List.set_cons_zero, List.set_cons_succ])
  cases h1 : impl_StowCode.inb x.f1.f0 0 (wrap64 ((l0.length : Int) - 1)) with
  | false =>
    have hv := HV.out
    rw [h1] at H1 hv
    have HV2 := Aside0.mk hv
    clear h1 hv HV
    go_quiet (first | (go_at_call 24; (with_reducible refine (impl_in.calls x.f1.f0 0 (wrap64 ((l0.length : Int) - 1)) _ _ H1.out).mono ?_); rintro e w' ⟨rfl, ⟨⟨nd, rfl⟩⟩⟩; (first | exact ⟨rfl, _, World.drewN_drewN _ _ _⟩ | exact ⟨rfl, _, Eq.trans (World.drewN_drewN _ _ _) (congrArg (World.drewN _) (Nat.add_assoc _ _ _))⟩ | exact ⟨rfl, _, rfl⟩)))
    try go_wp2
    go_ret
    exact ⟨by rw [HV2.out]; rfl, pw_below_drewN HB.out _⟩
  | true =>
    have hb : 0 ≤ x.f1.f0 ∧ x.f1.f0 < (l0.length : Int) := by
      have h2 := h1
      rw [HW.out] at h2
      simp only [impl_StowCode.inb, Bool.and_eq_true, decide_eq_true_eq] at h2
      omega
    have hv := HV.out
    rw [h1] at H1 hv
    clear h1 HV
    obtain ⟨hb0, hb1⟩ := hb
    obtain ⟨ad3, f_, hz0, hz1, hz2, hz3⟩ := at_T45 HR0.out x.f1.f0 hb0 hb1
    cases f_
    generalize rd_T45 l0 x.f1.f0 = b at hz0 hz1 hz2 hz3 hv
    replace hz0 := pw_cell_below HB.out hz0
    replace hz1 := pw_cell_below HB.out hz1
    replace hz2 := pw_cell_below HB.out hz2
    replace hz3 := pw_cell_below HB.out hz3
    have d4 : decide (0 ≤ x.f1.f0) = true := decide_eq_true hb0
    have d5 : decide (x.f1.f0 < (l0.length : Int)) = true := decide_eq_true hb1
    replace hb0 := eq_true hb0
    replace hb1 := eq_true hb1
    have r1 : IntKind.i64.wrap (b.f0 - 1) = wrap64 (b.f0 - 1) := IntWalk.i64_left _
    have r2 : IntKind.i64.wrap (b.f1 - 1) = wrap64 (b.f1 - 1) := IntWalk.i64_left _
    have H2 := Aside0.mk (impl_StowCode.in_eq x.f1.f1 0 (wrap64 (b.f0 - 1)))
    have H3 := Aside0.mk (impl_StowCode.in_eq x.f1.f2 0 (wrap64 (b.f1 - 1)))
    generalize impl_StowCode.inb x.f1.f1 0 (wrap64 (b.f0 - 1)) = t2 at hv H2
    generalize impl_StowCode.inb x.f1.f2 0 (wrap64 (b.f1 - 1)) = t3 at hv H3
    have HV2 := Aside0.mk hv
    clear hv
    cases t2 with
    | false =>
      go_quiet (first | (go_at_call 24; (with_reducible refine (impl_in.calls x.f1.f0 0 (wrap64 ((l0.length : Int) - 1)) _ _ H1.out).mono ?_); rintro e w' ⟨rfl, ⟨⟨nd, rfl⟩⟩⟩; (first | exact ⟨rfl, _, World.drewN_drewN _ _ _⟩ | exact ⟨rfl, _, Eq.trans (World.drewN_drewN _ _ _) (congrArg (World.drewN _) (Nat.add_assoc _ _ _))⟩ | exact ⟨rfl, _, rfl⟩)) | (go_at_call 24; (with_reducible refine (impl_in.calls x.f1.f1 0 (wrap64 (b.f0 - 1)) _ _ H2.out).mono ?_); rintro e w' ⟨rfl, ⟨⟨nd, rfl⟩⟩⟩; (first | exact ⟨rfl, _, World.drewN_drewN _ _ _⟩ | exact ⟨rfl, _, Eq.trans (World.drewN_drewN _ _ _) (congrArg (World.drewN _) (Nat.add_assoc _ _ _))⟩ | exact ⟨rfl, _, rfl⟩)))
      try go_wp2
      go_ret
      exact ⟨by rw [HV2.out]; rfl, pw_below_drewN HB.out _⟩
    | true =>
      go_quiet (first | (go_at_call 24; (with_reducible refine (impl_in.calls x.f1.f0 0 (wrap64 ((l0.length : Int) - 1)) _ _ H1.out).mono ?_); rintro e w' ⟨rfl, ⟨⟨nd, rfl⟩⟩⟩; (first | exact ⟨rfl, _, World.drewN_drewN _ _ _⟩ | exact ⟨rfl, _, Eq.trans (World.drewN_drewN _ _ _) (congrArg (World.drewN _) (Nat.add_assoc _ _ _))⟩ | exact ⟨rfl, _, rfl⟩)) | (go_at_call 24; (with_reducible refine (impl_in.calls x.f1.f1 0 (wrap64 (b.f0 - 1)) _ _ H2.out).mono ?_); rintro e w' ⟨rfl, ⟨⟨nd, rfl⟩⟩⟩; (first | exact ⟨rfl, _, World.drewN_drewN _ _ _⟩ | exact ⟨rfl, _, Eq.trans (World.drewN_drewN _ _ _) (congrArg (World.drewN _) (Nat.add_assoc _ _ _))⟩ | exact ⟨rfl, _, rfl⟩)) | (go_at_call 24; (with_reducible refine (impl_in.calls x.f1.f2 0 (wrap64 (b.f1 - 1)) _ _ H3.out).mono ?_); rintro e w' ⟨rfl, ⟨⟨nd, rfl⟩⟩⟩; (first | exact ⟨rfl, _, World.drewN_drewN _ _ _⟩ | exact ⟨rfl, _, Eq.trans (World.drewN_drewN _ _ _) (congrArg (World.drewN _) (Nat.add_assoc _ _ _))⟩ | exact ⟨rfl, _, rfl⟩)))
      try go_wp2
      go_ret
      exact ⟨by rw [HV2.out]; cases t3 <;> rfl, pw_below_drewN HB.out _⟩
/-! #### 4 -/
set_option maxHeartbeats 4000000 in
set_option maxRecDepth 100000 in
theorem impl_StowCode.lit4 (A0 : Option Addr) (c0 : Nat) (l0 : List S45) (A1 : Option Addr) (c1 : Nat) (l1 : List S51) (gB gL : Nat) (i : Int) (x : S51) (w : World) (h : impl_StowCode.Cap A0 c0 l0 A1 c1 l1 gB gL w) :
    Calls Try.prog 25 #[.int .i64 i, .agg #[.string x.f0.f0, .int .i64 x.f0.f1, .int .i64 x.f0.f2, .bool x.f0.f3, .int .i64 x.f0.f4, .int .i64 x.f0.f5, .int .i64 x.f1.f0, .int .i64 x.f1.f1, .int .i64 x.f1.f2], .pointer (some ⟨gL, 0, none⟩)] w fun e w' => e = .returned (.bool (impl_StowCode.floats l1 x)) ∧ Below w.heap.size w w' := by
  have hu51 := Try.underlying51
  have hu49 := Try.underlying49
  have hu30 := Try.underlying30
  have hmf : ∀ (fn : Fn) (first cap : Array Value) (w : World), (Instr.makeFunc fn first cap).run Try.prog w = .ok (.func fn first cap) w := fun _ _ _ _ => rfl
  have BKL := Aside0.mk h.l
  have HR1 := Aside0.mk h.r1
  clear h
  have HB := Aside0.mk (Below.refl w.heap.size w)
  have HCF : Aside0 (∀ (W : World) (g : Nat), Below w.heap.size w W → W.heap[g]? = some (.cells #[.int .i64 x.f1.f0, .int .i64 x.f1.f1, .int .i64 (wrap64 (x.f1.f2 - 1))] 49 (0, 0)) → Calls Try.prog 21 #[.slice A1 l1.length c1, .func (.func 26) #[] #[.pointer (some ⟨g, 0, none⟩)]] W fun e w' => e = .returned (.bool (l1.any fun y => impl_StowCode.same y.f1 ⟨x.f1.f0, x.f1.f1, wrap64 (x.f1.f2 - 1)⟩)) ∧ Below W.heap.size W w') := ⟨fun W g hb hg => impl_Stow_21.callsP 26 #[.pointer (some ⟨g, 0, none⟩)] (fun y => impl_StowCode.same y.f1 ⟨x.f1.f0, x.f1.f1, wrap64 (x.f1.f2 - 1)⟩) A1 c1 l1 W (enters_of Try.func26 (by kernel_rfl) rfl) (fun W2 y _ hb2 => impl_StowCode.lit26 ⟨x.f1.f0, x.f1.f1, wrap64 (x.f1.f2 - 1)⟩ y g W2 (blk_below hg hb2)) (Kd.C_below HR1.out hb)⟩
  have r0 : IntKind.i64.wrap (x.f1.f2 - 1) = wrap64 (x.f1.f2 - 1) := IntWalk.i64_left _
  have HV : Aside0 (impl_StowCode.floats l1 x = (decide (0 ≤ wrap64 (x.f1.f2 - 1)) && !(l1.any fun y => impl_StowCode.same y.f1 ⟨x.f1.f0, x.f1.f1, wrap64 (x.f1.f2 - 1)⟩))) := ⟨rfl⟩
  generalize (l1.any fun y => impl_StowCode.same y.f1 ⟨x.f1.f0, x.f1.f1, wrap64 (x.f1.f2 - 1)⟩) = t at HCF HV
  go_enter Try.func25, Try.ntmps25
  go_upto_region 3 with (first | ((with_reducible refine gate_dst (N := 4) rfl ?_); refine box_event ?hg (N := 4) ?hd (cs := #[.string x.f0.f0, .int .i64 x.f0.f1, .int .i64 x.f0.f2, .bool x.f0.f3, .int .i64 x.f0.f4, .int .i64 x.f0.f5, .int .i64 x.f1.f0, .int .i64 x.f1.f1, .int .i64 x.f1.f2]) (t := 51) ?hr ?_; (case hd => rfl); (case hg => rfl); (case hr => first | (go_simp; done) | (go_simp; rfl)); intro gx hg w1 hbox hb; have GBKX := Aside0.mk (show w.heap.size ≤ gx by rw [hg]; exact below_size Sk.bl_); have BKX := Aside0.mk hbox; have n0_ := Aside0.mk (below_step Sk.bl_ hb); have n1_ := Aside0.mk (blk_below (g := gL) (o := .cells #[.slice A1 l1.length c1] 30 (0, 0)) (by (with_reducible repeat (first | refine blk_drewN ?_ _ | refine blk_drew ?_ | refine blk_alloc ?_ _)); exact BKL.out) hb); clear HB BKL; have HB := n0_; have BKL := n1_; clear n0_ n1_; clear hb hbox hg; have hcw1BKL_0 : w1.cell? ⟨gL, 0, none⟩ = some (.slice A1 l1.length c1) := (blk_cell BKL.out 0).trans rfl; have hcw1BKX_0 : w1.cell? ⟨gx, 0, none⟩ = some (.string x.f0.f0) := (blk_cell BKX.out 0).trans rfl; have hcw1BKX_1 : w1.cell? ⟨gx, 1, none⟩ = some (.int .i64 x.f0.f1) := (blk_cell BKX.out 1).trans rfl; have hcw1BKX_2 : w1.cell? ⟨gx, 2, none⟩ = some (.int .i64 x.f0.f2) := (blk_cell BKX.out 2).trans rfl; have hcw1BKX_3 : w1.cell? ⟨gx, 3, none⟩ = some (.bool x.f0.f3) := (blk_cell BKX.out 3).trans rfl; have hcw1BKX_4 : w1.cell? ⟨gx, 4, none⟩ = some (.int .i64 x.f0.f4) := (blk_cell BKX.out 4).trans rfl; have hcw1BKX_5 : w1.cell? ⟨gx, 5, none⟩ = some (.int .i64 x.f0.f5) := (blk_cell BKX.out 5).trans rfl; have hcw1BKX_6 : w1.cell? ⟨gx, 6, none⟩ = some (.int .i64 x.f1.f0) := (blk_cell BKX.out 6).trans rfl; have hcw1BKX_7 : w1.cell? ⟨gx, 7, none⟩ = some (.int .i64 x.f1.f1) := (blk_cell BKX.out 7).trans rfl; have hcw1BKX_8 : w1.cell? ⟨gx, 8, none⟩ = some (.int .i64 x.f1.f2) := (blk_cell BKX.out 8).trans rfl) | ((with_reducible refine gate_dst (N := 6) rfl ?_); refine box_event ?hg (N := 6) ?hd (cs := #[.int .i64 0, .int .i64 0, .int .i64 0]) (t := 49) ?hr ?_; (case hd => rfl); (case hg => rfl); (case hr => first | (go_simp; done) | (go_simp; rfl)); intro gp hg w2 hbox hb; have GBKP := Aside0.mk (show w.heap.size ≤ gp by rw [hg]; exact below_size Sk.bl_); have BKP := Aside0.mk hbox; have n0_ := Aside0.mk (below_step Sk.bl_ hb); have n1_ := Aside0.mk (blk_below (g := gx) (o := .cells #[.string x.f0.f0, .int .i64 x.f0.f1, .int .i64 x.f0.f2, .bool x.f0.f3, .int .i64 x.f0.f4, .int .i64 x.f0.f5, .int .i64 x.f1.f0, .int .i64 x.f1.f1, .int .i64 x.f1.f2] 51 (0, 0)) (by (with_reducible repeat (first | refine blk_drewN ?_ _ | refine blk_drew ?_ | refine blk_alloc ?_ _)); exact BKX.out) hb); have n2_ := Aside0.mk (blk_below (g := gL) (o := .cells #[.slice A1 l1.length c1] 30 (0, 0)) (by (with_reducible repeat (first | refine blk_drewN ?_ _ | refine blk_drew ?_ | refine blk_alloc ?_ _)); exact BKL.out) hb); clear HB BKX BKL; have HB := n0_; have BKX := n1_; have BKL := n2_; clear n0_ n1_ n2_; clear hb hbox hg; have hcw2BKX_0 : w2.cell? ⟨gx, 0, none⟩ = some (.string x.f0.f0) := (blk_cell BKX.out 0).trans rfl; have hcw2BKX_1 : w2.cell? ⟨gx, 1, none⟩ = some (.int .i64 x.f0.f1) := (blk_cell BKX.out 1).trans rfl; have hcw2BKX_2 : w2.cell? ⟨gx, 2, none⟩ = some (.int .i64 x.f0.f2) := (blk_cell BKX.out 2).trans rfl; have hcw2BKX_3 : w2.cell? ⟨gx, 3, none⟩ = some (.bool x.f0.f3) := (blk_cell BKX.out 3).trans rfl; have hcw2BKX_4 : w2.cell? ⟨gx, 4, none⟩ = some (.int .i64 x.f0.f4) := (blk_cell BKX.out 4).trans rfl; have hcw2BKX_5 : w2.cell? ⟨gx, 5, none⟩ = some (.int .i64 x.f0.f5) := (blk_cell BKX.out 5).trans rfl; have hcw2BKX_6 : w2.cell? ⟨gx, 6, none⟩ = some (.int .i64 x.f1.f0) := (blk_cell BKX.out 6).trans rfl; have hcw2BKX_7 : w2.cell? ⟨gx, 7, none⟩ = some (.int .i64 x.f1.f1) := (blk_cell BKX.out 7).trans rfl; have hcw2BKX_8 : w2.cell? ⟨gx, 8, none⟩ = some (.int .i64 x.f1.f2) := (blk_cell BKX.out 8).trans rfl; have hcw2BKL_0 : w2.cell? ⟨gL, 0, none⟩ = some (.slice A1 l1.length c1) := (blk_cell BKL.out 0).trans rfl; have hcw2BKP_0 : w2.cell? ⟨gp, 0, none⟩ = some (.int .i64 0) := (blk_cell BKP.out 0).trans rfl; have hcw2BKP_1 : w2.cell? ⟨gp, 1, none⟩ = some (.int .i64 0) := (blk_cell BKP.out 1).trans rfl; have hcw2BKP_2 : w2.cell? ⟨gp, 2, none⟩ = some (.int .i64 0) := (blk_cell BKP.out 2).trans rfl; have hfw2BKX_0 := blk_frozen BKX.out 0; have hfw2BKX_1 := blk_frozen BKX.out 1; have hfw2BKX_2 := blk_frozen BKX.out 2; have hfw2BKX_3 := blk_frozen BKX.out 3; have hfw2BKX_4 := blk_frozen BKX.out 4; have hfw2BKX_5 := blk_frozen BKX.out 5; have hfw2BKX_6 := blk_frozen BKX.out 6; have hfw2BKX_7 := blk_frozen BKX.out 7; have hfw2BKX_8 := blk_frozen BKX.out 8; have hfw2BKL_0 := blk_frozen BKL.out 0; have hfw2BKP_0 := blk_frozen BKP.out 0; have hfw2BKP_1 := blk_frozen BKP.out 1; have hfw2BKP_2 := blk_frozen BKP.out 2) | ((with_reducible refine gate_store (t := 49) (p := 6) rfl ?_); refine store_event (t := 49) (p := 6) (v := ?vo_w3) (w1 := (((w2.setCell ⟨gp, 0, none⟩ (.int .i64 x.f1.f0)).setCell ⟨gp, 1, none⟩ (.int .i64 x.f1.f1)).setCell ⟨gp, 2, none⟩ (.int .i64 x.f1.f2))) ?hg ?ho ?hn ?hr ?_; (case ho => rfl); (case hg => rfl); (case hn => rfl); (case hr => first | (go_simp; done) | (go_simp; rfl)); intro w3 hw; have n0_ : Aside0 (w3.heap[gp]? = some (.cells #[.int .i64 x.f1.f0, .int .i64 x.f1.f1, .int .i64 x.f1.f2] 49 (0, 0))) := Aside0.mk (by rw [hw]; exact (blk_put (cs := #[.int .i64 x.f1.f0, .int .i64 x.f1.f1, .int .i64 0]) (cs' := #[.int .i64 x.f1.f0, .int .i64 x.f1.f1, .int .i64 x.f1.f2]) (blk_put (cs := #[.int .i64 x.f1.f0, .int .i64 0, .int .i64 0]) (cs' := #[.int .i64 x.f1.f0, .int .i64 x.f1.f1, .int .i64 0]) (blk_put (cs := #[.int .i64 0, .int .i64 0, .int .i64 0]) (cs' := #[.int .i64 x.f1.f0, .int .i64 0, .int .i64 0]) BKP.out 0 (.int .i64 x.f1.f0) rfl) 1 (.int .i64 x.f1.f1) rfl) 2 (.int .i64 x.f1.f2) rfl)); have n1_ : Aside0 (Below w.heap.size w w3) := Aside0.mk (by rw [hw]; exact (below_set (below_set (below_set HB.out GBKP.out) GBKP.out) GBKP.out)); have n2_ : Aside0 (w3.heap[gx]? = some (.cells #[.string x.f0.f0, .int .i64 x.f0.f1, .int .i64 x.f0.f2, .bool x.f0.f3, .int .i64 x.f0.f4, .int .i64 x.f0.f5, .int .i64 x.f1.f0, .int .i64 x.f1.f1, .int .i64 x.f1.f2] 51 (0, 0))) := Aside0.mk (by rw [hw]; exact (blk_far (blk_far (blk_far BKX.out (p := ⟨gp, 0, none⟩) (blk_ne BKX.out BKP.out (by decide)) (.int .i64 x.f1.f0)) (p := ⟨gp, 1, none⟩) (blk_ne BKX.out BKP.out (by decide)) (.int .i64 x.f1.f1)) (p := ⟨gp, 2, none⟩) (blk_ne BKX.out BKP.out (by decide)) (.int .i64 x.f1.f2))); have n3_ : Aside0 (w3.heap[gL]? = some (.cells #[.slice A1 l1.length c1] 30 (0, 0))) := Aside0.mk (by rw [hw]; exact (blk_far (blk_far (blk_far BKL.out (p := ⟨gp, 0, none⟩) (blk_ne BKL.out BKP.out (by decide)) (.int .i64 x.f1.f0)) (p := ⟨gp, 1, none⟩) (blk_ne BKL.out BKP.out (by decide)) (.int .i64 x.f1.f1)) (p := ⟨gp, 2, none⟩) (blk_ne BKL.out BKP.out (by decide)) (.int .i64 x.f1.f2))); clear HB BKP BKX BKL hw; have BKP := n0_; have HB := n1_; have BKX := n2_; have BKL := n3_; clear n0_ n1_ n2_ n3_; have hcw3BKX_0 : w3.cell? ⟨gx, 0, none⟩ = some (.string x.f0.f0) := (blk_cell BKX.out 0).trans rfl; have hcw3BKX_1 : w3.cell? ⟨gx, 1, none⟩ = some (.int .i64 x.f0.f1) := (blk_cell BKX.out 1).trans rfl; have hcw3BKX_2 : w3.cell? ⟨gx, 2, none⟩ = some (.int .i64 x.f0.f2) := (blk_cell BKX.out 2).trans rfl; have hcw3BKX_3 : w3.cell? ⟨gx, 3, none⟩ = some (.bool x.f0.f3) := (blk_cell BKX.out 3).trans rfl; have hcw3BKX_4 : w3.cell? ⟨gx, 4, none⟩ = some (.int .i64 x.f0.f4) := (blk_cell BKX.out 4).trans rfl; have hcw3BKX_5 : w3.cell? ⟨gx, 5, none⟩ = some (.int .i64 x.f0.f5) := (blk_cell BKX.out 5).trans rfl; have hcw3BKX_6 : w3.cell? ⟨gx, 6, none⟩ = some (.int .i64 x.f1.f0) := (blk_cell BKX.out 6).trans rfl; have hcw3BKX_7 : w3.cell? ⟨gx, 7, none⟩ = some (.int .i64 x.f1.f1) := (blk_cell BKX.out 7).trans rfl; have hcw3BKX_8 : w3.cell? ⟨gx, 8, none⟩ = some (.int .i64 x.f1.f2) := (blk_cell BKX.out 8).trans rfl; have hcw3BKL_0 : w3.cell? ⟨gL, 0, none⟩ = some (.slice A1 l1.length c1) := (blk_cell BKL.out 0).trans rfl; have hcw3BKP_0 : w3.cell? ⟨gp, 0, none⟩ = some (.int .i64 x.f1.f0) := (blk_cell BKP.out 0).trans rfl; have hcw3BKP_1 : w3.cell? ⟨gp, 1, none⟩ = some (.int .i64 x.f1.f1) := (blk_cell BKP.out 1).trans rfl; have hcw3BKP_2 : w3.cell? ⟨gp, 2, none⟩ = some (.int .i64 x.f1.f2) := (blk_cell BKP.out 2).trans rfl; have hfw3BKX_0 := blk_frozen BKX.out 0; have hfw3BKX_1 := blk_frozen BKX.out 1; have hfw3BKX_2 := blk_frozen BKX.out 2; have hfw3BKX_3 := blk_frozen BKX.out 3; have hfw3BKX_4 := blk_frozen BKX.out 4; have hfw3BKX_5 := blk_frozen BKX.out 5; have hfw3BKX_6 := blk_frozen BKX.out 6; have hfw3BKX_7 := blk_frozen BKX.out 7; have hfw3BKX_8 := blk_frozen BKX.out 8; have hfw3BKL_0 := blk_frozen BKL.out 0; have hfw3BKP_0 := blk_frozen BKP.out 0; have hfw3BKP_1 := blk_frozen BKP.out 1; have hfw3BKP_2 := blk_frozen BKP.out 2) | ((with_reducible refine gate_store (t := 3) (p := 12) rfl ?_); refine store_event (t := 3) (p := 12) (v := ?vo_w4) (w1 := (w3.setCell ⟨gp, 2, none⟩ (.int .i64 (wrap64 (x.f1.f2 - 1))))) ?hg ?ho ?hn ?hr ?_; (case ho => rfl); (case hg => rfl); (case hn => rfl); (case hr => first | (go_simp; done) | (go_simp; rfl)); intro w4 hw; have n0_ : Aside0 (w4.heap[gp]? = some (.cells #[.int .i64 x.f1.f0, .int .i64 x.f1.f1, .int .i64 (wrap64 (x.f1.f2 - 1))] 49 (0, 0))) := Aside0.mk (by rw [hw]; exact (blk_put (cs := #[.int .i64 x.f1.f0, .int .i64 x.f1.f1, .int .i64 x.f1.f2]) (cs' := #[.int .i64 x.f1.f0, .int .i64 x.f1.f1, .int .i64 (wrap64 (x.f1.f2 - 1))]) BKP.out 2 (.int .i64 (wrap64 (x.f1.f2 - 1))) rfl)); have n1_ : Aside0 (Below w.heap.size w w4) := Aside0.mk (by rw [hw]; exact (below_set HB.out GBKP.out)); have n2_ : Aside0 (w4.heap[gx]? = some (.cells #[.string x.f0.f0, .int .i64 x.f0.f1, .int .i64 x.f0.f2, .bool x.f0.f3, .int .i64 x.f0.f4, .int .i64 x.f0.f5, .int .i64 x.f1.f0, .int .i64 x.f1.f1, .int .i64 x.f1.f2] 51 (0, 0))) := Aside0.mk (by rw [hw]; exact (blk_far BKX.out (p := ⟨gp, 2, none⟩) (blk_ne BKX.out BKP.out (by decide)) (.int .i64 (wrap64 (x.f1.f2 - 1))))); have n3_ : Aside0 (w4.heap[gL]? = some (.cells #[.slice A1 l1.length c1] 30 (0, 0))) := Aside0.mk (by rw [hw]; exact (blk_far BKL.out (p := ⟨gp, 2, none⟩) (blk_ne BKL.out BKP.out (by decide)) (.int .i64 (wrap64 (x.f1.f2 - 1))))); clear HB BKP BKX BKL hw; have BKP := n0_; have HB := n1_; have BKX := n2_; have BKL := n3_; clear n0_ n1_ n2_ n3_; have hcw4BKX_0 : w4.cell? ⟨gx, 0, none⟩ = some (.string x.f0.f0) := (blk_cell BKX.out 0).trans rfl; have hcw4BKX_1 : w4.cell? ⟨gx, 1, none⟩ = some (.int .i64 x.f0.f1) := (blk_cell BKX.out 1).trans rfl; have hcw4BKX_2 : w4.cell? ⟨gx, 2, none⟩ = some (.int .i64 x.f0.f2) := (blk_cell BKX.out 2).trans rfl; have hcw4BKX_3 : w4.cell? ⟨gx, 3, none⟩ = some (.bool x.f0.f3) := (blk_cell BKX.out 3).trans rfl; have hcw4BKX_4 : w4.cell? ⟨gx, 4, none⟩ = some (.int .i64 x.f0.f4) := (blk_cell BKX.out 4).trans rfl; have hcw4BKX_5 : w4.cell? ⟨gx, 5, none⟩ = some (.int .i64 x.f0.f5) := (blk_cell BKX.out 5).trans rfl; have hcw4BKX_6 : w4.cell? ⟨gx, 6, none⟩ = some (.int .i64 x.f1.f0) := (blk_cell BKX.out 6).trans rfl; have hcw4BKX_7 : w4.cell? ⟨gx, 7, none⟩ = some (.int .i64 x.f1.f1) := (blk_cell BKX.out 7).trans rfl; have hcw4BKX_8 : w4.cell? ⟨gx, 8, none⟩ = some (.int .i64 x.f1.f2) := (blk_cell BKX.out 8).trans rfl; have hcw4BKL_0 : w4.cell? ⟨gL, 0, none⟩ = some (.slice A1 l1.length c1) := (blk_cell BKL.out 0).trans rfl; have hcw4BKP_0 : w4.cell? ⟨gp, 0, none⟩ = some (.int .i64 x.f1.f0) := (blk_cell BKP.out 0).trans rfl; have hcw4BKP_1 : w4.cell? ⟨gp, 1, none⟩ = some (.int .i64 x.f1.f1) := (blk_cell BKP.out 1).trans rfl; have hcw4BKP_2 : w4.cell? ⟨gp, 2, none⟩ = some (.int .i64 (wrap64 (x.f1.f2 - 1))) := (blk_cell BKP.out 2).trans rfl; have hfw4BKX_0 := blk_frozen BKX.out 0; have hfw4BKX_1 := blk_frozen BKX.out 1; have hfw4BKX_2 := blk_frozen BKX.out 2; have hfw4BKX_3 := blk_frozen BKX.out 3; have hfw4BKX_4 := blk_frozen BKX.out 4; have hfw4BKX_5 := blk_frozen BKX.out 5; have hfw4BKX_6 := blk_frozen BKX.out 6; have hfw4BKX_7 := blk_frozen BKX.out 7; have hfw4BKX_8 := blk_frozen BKX.out 8; have hfw4BKL_0 := blk_frozen BKL.out 0; have hfw4BKP_0 := blk_frozen BKP.out 0; have hfw4BKP_1 := blk_frozen BKP.out 1; have hfw4BKP_2 := blk_frozen BKP.out 2))
  by_cases ht : 0 ≤ wrap64 (x.f1.f2 - 1)
  · have e0 : decide (0 ≤ wrap64 (x.f1.f2 - 1)) = true := decide_eq_true ht
    have hv := HV.out
    rw [e0] at hv
    have HV2 := Aside0.mk hv
    have e1 : decide (wrap64 (x.f1.f2 - 1) ≥ 0) = true := decide_eq_true ht
    clear ht hv HV
    go_wp2_with (first | (go_at_call 21; (with_reducible refine (HCF.out _ _ HB.out BKP.out).mono ?_); rintro e w9 ⟨rfl, hb⟩; have HB_ := Aside0.mk (below_step HB.out hb); clear HB hb; have HB := HB_; clear HB_))
    go_ret
    exact ⟨by rw [HV2.out]; rfl, Sk.bl_⟩
  · have e0 : decide (0 ≤ wrap64 (x.f1.f2 - 1)) = false := decide_eq_false ht
    have hv := HV.out
    rw [e0] at hv
    have HV2 := Aside0.mk hv
    have e1 : decide (wrap64 (x.f1.f2 - 1) ≥ 0) = false := decide_eq_false ht
    clear ht hv HV
    go_wp2
    go_ret
    exact ⟨by rw [HV2.out]; rfl, Sk.bl_⟩
/-! #### 6 -/
set_option maxHeartbeats 4000000 in
set_option maxRecDepth 100000 in
theorem impl_StowCode.lit6 (A0 : Option Addr) (c0 : Nat) (l0 : List S45) (A1 : Option Addr) (c1 : Nat) (l1 : List S51) (gB gL : Nat) (i : Int) (x : S51) (w : World) (h : impl_StowCode.Cap A0 c0 l0 A1 c1 l1 gB gL w) (hb : 0 ≤ x.f1.f0 ∧ x.f1.f0 < (l0.length : Int)) :
    Calls Try.prog 30 #[.int .i64 i, .agg #[.string x.f0.f0, .int .i64 x.f0.f1, .int .i64 x.f0.f2, .bool x.f0.f3, .int .i64 x.f0.f4, .int .i64 x.f0.f5, .int .i64 x.f1.f0, .int .i64 x.f1.f1, .int .i64 x.f1.f2], .pointer (some ⟨gL, 0, none⟩), .pointer (some ⟨gB, 0, none⟩)] w fun e w' => e = .returned (.bool (impl_StowCode.cold l0 l1 x)) ∧ Below w.heap.size w w' := by
  have hu51 := Try.underlying51
  have hu49 := Try.underlying49
  have hu48 := Try.underlying48
  have hu45 := Try.underlying45
  have hu30 := Try.underlying30
  have hu28 := Try.underlying28
  have BKL := Aside0.mk h.l
  have BKB := Aside0.mk h.b
  have HR0 := Aside0.mk h.r0
  have HR1 := Aside0.mk h.r1
  have HN := Aside0.mk h.r1.2.1
  have HBD := Aside0.mk hb
  clear h hb
  have HB := Aside0.mk (Below.refl w.heap.size w)
  go_enter Try.func30, Try.ntmps30
  go_wp2_with (first | ((with_reducible refine gate_dst (N := 5) rfl ?_); refine box_event ?hg (N := 5) ?hd (cs := #[.string x.f0.f0, .int .i64 x.f0.f1, .int .i64 x.f0.f2, .bool x.f0.f3, .int .i64 x.f0.f4, .int .i64 x.f0.f5, .int .i64 x.f1.f0, .int .i64 x.f1.f1, .int .i64 x.f1.f2]) (t := 51) ?hr ?_; (case hd => rfl); (case hg => rfl); (case hr => first | (go_simp; done) | (go_simp; rfl)); intro gx hg w1 hbox hb; have GBKX := Aside0.mk (show w.heap.size ≤ gx by rw [hg]; exact below_size Sk.bl_); have BKX := Aside0.mk hbox; have n0_ := Aside0.mk (below_step Sk.bl_ hb); have n1_ := Aside0.mk (blk_below (g := gB) (o := .cells #[.slice A0 l0.length c0] 28 (0, 0)) (by (with_reducible repeat (first | refine blk_drewN ?_ _ | refine blk_drew ?_ | refine blk_alloc ?_ _)); exact BKB.out) hb); have n2_ := Aside0.mk (blk_below (g := gL) (o := .cells #[.slice A1 l1.length c1] 30 (0, 0)) (by (with_reducible repeat (first | refine blk_drewN ?_ _ | refine blk_drew ?_ | refine blk_alloc ?_ _)); exact BKL.out) hb); clear HB BKB BKL; have HB := n0_; have BKB := n1_; have BKL := n2_; clear n0_ n1_ n2_; clear hb hbox hg; have hcw1BKB_0 : w1.cell? ⟨gB, 0, none⟩ = some (.slice A0 l0.length c0) := (blk_cell BKB.out 0).trans rfl; have hcw1BKL_0 : w1.cell? ⟨gL, 0, none⟩ = some (.slice A1 l1.length c1) := (blk_cell BKL.out 0).trans rfl; have hcw1BKX_0 : w1.cell? ⟨gx, 0, none⟩ = some (.string x.f0.f0) := (blk_cell BKX.out 0).trans rfl; have hcw1BKX_1 : w1.cell? ⟨gx, 1, none⟩ = some (.int .i64 x.f0.f1) := (blk_cell BKX.out 1).trans rfl; have hcw1BKX_2 : w1.cell? ⟨gx, 2, none⟩ = some (.int .i64 x.f0.f2) := (blk_cell BKX.out 2).trans rfl; have hcw1BKX_3 : w1.cell? ⟨gx, 3, none⟩ = some (.bool x.f0.f3) := (blk_cell BKX.out 3).trans rfl; have hcw1BKX_4 : w1.cell? ⟨gx, 4, none⟩ = some (.int .i64 x.f0.f4) := (blk_cell BKX.out 4).trans rfl; have hcw1BKX_5 : w1.cell? ⟨gx, 5, none⟩ = some (.int .i64 x.f0.f5) := (blk_cell BKX.out 5).trans rfl; have hcw1BKX_6 : w1.cell? ⟨gx, 6, none⟩ = some (.int .i64 x.f1.f0) := (blk_cell BKX.out 6).trans rfl; have hcw1BKX_7 : w1.cell? ⟨gx, 7, none⟩ = some (.int .i64 x.f1.f1) := (blk_cell BKX.out 7).trans rfl; have hcw1BKX_8 : w1.cell? ⟨gx, 8, none⟩ = some (.int .i64 x.f1.f2) := (blk_cell BKX.out 8).trans rfl))
  go_loopg [7, 12] l1.length (fun gg v7 v12 wr => ∃ j : Int, v7 = .int .i64 (((l1.take j.toNat).countP (impl_StowCode.icy x.f1.f0) : Nat) : Int) ∧ v12 = .int .i64 j ∧ Aside0 (0 ≤ j ∧ j ≤ l1.length ∧ l1.length - j.toNat ≤ gg) ∧ Aside0 (wr.heap[gx]? = some (.cells #[.string x.f0.f0, .int .i64 x.f0.f1, .int .i64 x.f0.f2, .bool x.f0.f3, .int .i64 x.f0.f4, .int .i64 x.f0.f5, .int .i64 x.f1.f0, .int .i64 x.f1.f1, .int .i64 x.f1.f2] 51 (0, 0))) ∧ Aside0 (wr.heap[gB]? = some (.cells #[.slice A0 l0.length c0] 28 (0, 0))) ∧ Aside0 (Below w.heap.size w wr))
  case atStart => exact ⟨0, rfl, rfl, ⟨by omega⟩, BKX, BKB, HB⟩
  case round =>
    clear BKX BKB BKL HB
    obtain ⟨j, rfl, rfl, HJ, BKX, BKB, HB⟩ := hrel
    by_cases hlt : j < (l1.length : Int)
    · have h0 : 0 ≤ j := HJ.out.1
      have HJ2 := Aside0.mk (show j.toNat < l1.length ∧ (j + 1).toNat = j.toNat + 1 by omega)
      have hy : l1[j.toNat]? = some (rd_T51 l1 j) := by
        rw [List.getElem?_eq_getElem HJ2.out.1]; simp [rd_T51, List.getD, HJ2.out.1]
      obtain ⟨ad, e_, hy0, hy1, hy2, hy3, hy4, hy5, hy6, hy7, hy8⟩ := at_T51 HR1.out j h0 hlt
      cases e_
      generalize rd_T51 l1 j = y at hy hy0 hy1 hy2 hy3 hy4 hy5 hy6 hy7 hy8
      have hcnt : (l1.take (j + 1).toNat).countP (impl_StowCode.icy x.f1.f0) = (l1.take j.toNat).countP (impl_StowCode.icy x.f1.f0) + if impl_StowCode.icy x.f1.f0 y = true then 1 else 0 := by
        rw [HJ2.out.2, List.take_add_one, hy]
        simp [List.countP_cons]
      have hle : (l1.take j.toNat).countP (impl_StowCode.icy x.f1.f0) ≤ j.toNat := Nat.le_trans List.countP_le_length (by rw [List.length_take]; omega)
      have HC := Aside0.mk hcnt
      generalize (l1.take j.toNat).countP (impl_StowCode.icy x.f1.f0) = n at HC hle
      have hwn : wrap64 ((n : Int) + 1) = (n : Int) + 1 := by have := HN.out; have := HJ2.out; unfold wrap64; omega
      have hwj : wrap64 (j + 1) = j + 1 := by have := HN.out; unfold wrap64; omega
      have HW := Aside0.mk (And.intro hwn hwj)
      clear hcnt hle hy hwn hwj
      replace hy0 := pw_cell_below HB.out hy0
      replace hy1 := pw_cell_below HB.out hy1
      replace hy2 := pw_cell_below HB.out hy2
      replace hy3 := pw_cell_below HB.out hy3
      replace hy4 := pw_cell_below HB.out hy4
      replace hy5 := pw_cell_below HB.out hy5
      replace hy6 := pw_cell_below HB.out hy6
      replace hy7 := pw_cell_below HB.out hy7
      replace hy8 := pw_cell_below HB.out hy8
      have d0 : decide (j < (l1.length : Int)) = true := decide_eq_true hlt
      have d1 : decide (0 ≤ j) = true := decide_eq_true h0
      replace h0 := eq_true h0
      replace hlt := eq_true hlt
      have hiy : impl_StowCode.icy x.f1.f0 y = (y.f0.f3 && (y.f1.f0 == x.f1.f0)) := rfl
      generalize y.f0.f3 = cy at hy3 hiy
      have hcqBKX_0 : wr.cell? ⟨gx, 0, none⟩ = some (.string x.f0.f0) := (blk_cell BKX.out 0).trans rfl
      have hcqBKX_1 : wr.cell? ⟨gx, 1, none⟩ = some (.int .i64 x.f0.f1) := (blk_cell BKX.out 1).trans rfl
      have hcqBKX_2 : wr.cell? ⟨gx, 2, none⟩ = some (.int .i64 x.f0.f2) := (blk_cell BKX.out 2).trans rfl
      have hcqBKX_3 : wr.cell? ⟨gx, 3, none⟩ = some (.bool x.f0.f3) := (blk_cell BKX.out 3).trans rfl
      have hcqBKX_4 : wr.cell? ⟨gx, 4, none⟩ = some (.int .i64 x.f0.f4) := (blk_cell BKX.out 4).trans rfl
      have hcqBKX_5 : wr.cell? ⟨gx, 5, none⟩ = some (.int .i64 x.f0.f5) := (blk_cell BKX.out 5).trans rfl
      have hcqBKX_6 : wr.cell? ⟨gx, 6, none⟩ = some (.int .i64 x.f1.f0) := (blk_cell BKX.out 6).trans rfl
      have hcqBKX_7 : wr.cell? ⟨gx, 7, none⟩ = some (.int .i64 x.f1.f1) := (blk_cell BKX.out 7).trans rfl
      have hcqBKX_8 : wr.cell? ⟨gx, 8, none⟩ = some (.int .i64 x.f1.f2) := (blk_cell BKX.out 8).trans rfl
      have hcqBKB_0 : wr.cell? ⟨gB, 0, none⟩ = some (.slice A0 l0.length c0) := (blk_cell BKB.out 0).trans rfl
      go_upto_region 5 with (first | ((with_reducible refine gate_dst (N := 9) rfl ?_); refine box_event ?hg (N := 9) ?hd (cs := #[.string (⟨#[]⟩ : ByteArray), .int .i64 0, .int .i64 0, .bool false, .int .i64 0, .int .i64 0, .int .i64 0, .int .i64 0, .int .i64 0]) (t := 51) ?hr ?_; (case hd => rfl); (case hg => rfl); (case hr => first | (go_simp; done) | (go_simp; rfl)); intro gy hg w3 hbox hb; have NXY := Aside0.mk (show gx ≠ gy from fun e_ => by have h_ := blk_lt BKX.out; rw [e_, hg] at h_; exact absurd h_ (Nat.lt_irrefl _)); have GBKY := Aside0.mk (show w.heap.size ≤ gy by rw [hg]; exact below_size Sk.bl_); have BKY := Aside0.mk hbox; have n0_ := Aside0.mk (below_step Sk.bl_ hb); have n1_ := Aside0.mk (blk_below (g := gx) (o := .cells #[.string x.f0.f0, .int .i64 x.f0.f1, .int .i64 x.f0.f2, .bool x.f0.f3, .int .i64 x.f0.f4, .int .i64 x.f0.f5, .int .i64 x.f1.f0, .int .i64 x.f1.f1, .int .i64 x.f1.f2] 51 (0, 0)) (by (with_reducible repeat (first | refine blk_drewN ?_ _ | refine blk_drew ?_ | refine blk_alloc ?_ _)); exact BKX.out) hb); have n2_ := Aside0.mk (blk_below (g := gB) (o := .cells #[.slice A0 l0.length c0] 28 (0, 0)) (by (with_reducible repeat (first | refine blk_drewN ?_ _ | refine blk_drew ?_ | refine blk_alloc ?_ _)); exact BKB.out) hb); clear HB BKX BKB; have HB := n0_; have BKX := n1_; have BKB := n2_; clear n0_ n1_ n2_; clear hb hbox hg; have hcw3BKX_0 : w3.cell? ⟨gx, 0, none⟩ = some (.string x.f0.f0) := (blk_cell BKX.out 0).trans rfl; have hcw3BKX_1 : w3.cell? ⟨gx, 1, none⟩ = some (.int .i64 x.f0.f1) := (blk_cell BKX.out 1).trans rfl; have hcw3BKX_2 : w3.cell? ⟨gx, 2, none⟩ = some (.int .i64 x.f0.f2) := (blk_cell BKX.out 2).trans rfl; have hcw3BKX_3 : w3.cell? ⟨gx, 3, none⟩ = some (.bool x.f0.f3) := (blk_cell BKX.out 3).trans rfl; have hcw3BKX_4 : w3.cell? ⟨gx, 4, none⟩ = some (.int .i64 x.f0.f4) := (blk_cell BKX.out 4).trans rfl; have hcw3BKX_5 : w3.cell? ⟨gx, 5, none⟩ = some (.int .i64 x.f0.f5) := (blk_cell BKX.out 5).trans rfl; have hcw3BKX_6 : w3.cell? ⟨gx, 6, none⟩ = some (.int .i64 x.f1.f0) := (blk_cell BKX.out 6).trans rfl; have hcw3BKX_7 : w3.cell? ⟨gx, 7, none⟩ = some (.int .i64 x.f1.f1) := (blk_cell BKX.out 7).trans rfl; have hcw3BKX_8 : w3.cell? ⟨gx, 8, none⟩ = some (.int .i64 x.f1.f2) := (blk_cell BKX.out 8).trans rfl; have hcw3BKB_0 : w3.cell? ⟨gB, 0, none⟩ = some (.slice A0 l0.length c0) := (blk_cell BKB.out 0).trans rfl; have hcw3BKY_0 : w3.cell? ⟨gy, 0, none⟩ = some (.string (⟨#[]⟩ : ByteArray)) := (blk_cell BKY.out 0).trans rfl; have hcw3BKY_1 : w3.cell? ⟨gy, 1, none⟩ = some (.int .i64 0) := (blk_cell BKY.out 1).trans rfl; have hcw3BKY_2 : w3.cell? ⟨gy, 2, none⟩ = some (.int .i64 0) := (blk_cell BKY.out 2).trans rfl; have hcw3BKY_3 : w3.cell? ⟨gy, 3, none⟩ = some (.bool false) := (blk_cell BKY.out 3).trans rfl; have hcw3BKY_4 : w3.cell? ⟨gy, 4, none⟩ = some (.int .i64 0) := (blk_cell BKY.out 4).trans rfl; have hcw3BKY_5 : w3.cell? ⟨gy, 5, none⟩ = some (.int .i64 0) := (blk_cell BKY.out 5).trans rfl; have hcw3BKY_6 : w3.cell? ⟨gy, 6, none⟩ = some (.int .i64 0) := (blk_cell BKY.out 6).trans rfl; have hcw3BKY_7 : w3.cell? ⟨gy, 7, none⟩ = some (.int .i64 0) := (blk_cell BKY.out 7).trans rfl; have hcw3BKY_8 : w3.cell? ⟨gy, 8, none⟩ = some (.int .i64 0) := (blk_cell BKY.out 8).trans rfl; have hfw3BKX_0 := blk_frozen BKX.out 0; have hfw3BKX_1 := blk_frozen BKX.out 1; have hfw3BKX_2 := blk_frozen BKX.out 2; have hfw3BKX_3 := blk_frozen BKX.out 3; have hfw3BKX_4 := blk_frozen BKX.out 4; have hfw3BKX_5 := blk_frozen BKX.out 5; have hfw3BKX_6 := blk_frozen BKX.out 6; have hfw3BKX_7 := blk_frozen BKX.out 7; have hfw3BKX_8 := blk_frozen BKX.out 8; have hfw3BKB_0 := blk_frozen BKB.out 0; have hfw3BKY_0 := blk_frozen BKY.out 0; have hfw3BKY_1 := blk_frozen BKY.out 1; have hfw3BKY_2 := blk_frozen BKY.out 2; have hfw3BKY_3 := blk_frozen BKY.out 3; have hfw3BKY_4 := blk_frozen BKY.out 4; have hfw3BKY_5 := blk_frozen BKY.out 5; have hfw3BKY_6 := blk_frozen BKY.out 6; have hfw3BKY_7 := blk_frozen BKY.out 7; have hfw3BKY_8 := blk_frozen BKY.out 8) | ((with_reducible refine gate_store (t := 51) (p := 9) rfl ?_); refine store_event (t := 51) (p := 9) (v := ?vo_w4) (w1 := (((((((((w3.setCell ⟨gy, 0, none⟩ (.string y.f0.f0)).setCell ⟨gy, 1, none⟩ (.int .i64 y.f0.f1)).setCell ⟨gy, 2, none⟩ (.int .i64 y.f0.f2)).setCell ⟨gy, 3, none⟩ (.bool cy)).setCell ⟨gy, 4, none⟩ (.int .i64 y.f0.f4)).setCell ⟨gy, 5, none⟩ (.int .i64 y.f0.f5)).setCell ⟨gy, 6, none⟩ (.int .i64 y.f1.f0)).setCell ⟨gy, 7, none⟩ (.int .i64 y.f1.f1)).setCell ⟨gy, 8, none⟩ (.int .i64 y.f1.f2))) ?hg ?ho ?hn ?hr ?_; (case ho => rfl); (case hg => rfl); (case hn => rfl); (case hr => first | (go_simp; done) | (go_simp; rfl)); intro w4 hw; have n0_ : Aside0 (w4.heap[gy]? = some (.cells #[.string y.f0.f0, .int .i64 y.f0.f1, .int .i64 y.f0.f2, .bool cy, .int .i64 y.f0.f4, .int .i64 y.f0.f5, .int .i64 y.f1.f0, .int .i64 y.f1.f1, .int .i64 y.f1.f2] 51 (0, 0))) := Aside0.mk (by rw [hw]; exact (blk_put (cs := #[.string y.f0.f0, .int .i64 y.f0.f1, .int .i64 y.f0.f2, .bool cy, .int .i64 y.f0.f4, .int .i64 y.f0.f5, .int .i64 y.f1.f0, .int .i64 y.f1.f1, .int .i64 0]) (cs' := #[.string y.f0.f0, .int .i64 y.f0.f1, .int .i64 y.f0.f2, .bool cy, .int .i64 y.f0.f4, .int .i64 y.f0.f5, .int .i64 y.f1.f0, .int .i64 y.f1.f1, .int .i64 y.f1.f2]) (blk_put (cs := #[.string y.f0.f0, .int .i64 y.f0.f1, .int .i64 y.f0.f2, .bool cy, .int .i64 y.f0.f4, .int .i64 y.f0.f5, .int .i64 y.f1.f0, .int .i64 0, .int .i64 0]) (cs' := #[.string y.f0.f0, .int .i64 y.f0.f1, .int .i64 y.f0.f2, .bool cy, .int .i64 y.f0.f4, .int .i64 y.f0.f5, .int .i64 y.f1.f0, .int .i64 y.f1.f1, .int .i64 0]) (blk_put (cs := #[.string y.f0.f0, .int .i64 y.f0.f1, .int .i64 y.f0.f2, .bool cy, .int .i64 y.f0.f4, .int .i64 y.f0.f5, .int .i64 0, .int .i64 0, .int .i64 0]) (cs' := #[.string y.f0.f0, .int .i64 y.f0.f1, .int .i64 y.f0.f2, .bool cy, .int .i64 y.f0.f4, .int .i64 y.f0.f5, .int .i64 y.f1.f0, .int .i64 0, .int .i64 0]) (blk_put (cs := #[.string y.f0.f0, .int .i64 y.f0.f1, .int .i64 y.f0.f2, .bool cy, .int .i64 y.f0.f4, .int .i64 0, .int .i64 0, .int .i64 0, .int .i64 0]) (cs' := #[.string y.f0.f0, .int .i64 y.f0.f1, .int .i64 y.f0.f2, .bool cy, .int .i64 y.f0.f4, .int .i64 y.f0.f5, .int .i64 0, .int .i64 0, .int .i64 0]) (blk_put (cs := #[.string y.f0.f0, .int .i64 y.f0.f1, .int .i64 y.f0.f2, .bool cy, .int .i64 0, .int .i64 0, .int .i64 0, .int .i64 0, .int .i64 0]) (cs' := #[.string y.f0.f0, .int .i64 y.f0.f1, .int .i64 y.f0.f2, .bool cy, .int .i64 y.f0.f4, .int .i64 0, .int .i64 0, .int .i64 0, .int .i64 0]) (blk_put (cs := #[.string y.f0.f0, .int .i64 y.f0.f1, .int .i64 y.f0.f2, .bool false, .int .i64 0, .int .i64 0, .int .i64 0, .int .i64 0, .int .i64 0]) (cs' := #[.string y.f0.f0, .int .i64 y.f0.f1, .int .i64 y.f0.f2, .bool cy, .int .i64 0, .int .i64 0, .int .i64 0, .int .i64 0, .int .i64 0]) (blk_put (cs := #[.string y.f0.f0, .int .i64 y.f0.f1, .int .i64 0, .bool false, .int .i64 0, .int .i64 0, .int .i64 0, .int .i64 0, .int .i64 0]) (cs' := #[.string y.f0.f0, .int .i64 y.f0.f1, .int .i64 y.f0.f2, .bool false, .int .i64 0, .int .i64 0, .int .i64 0, .int .i64 0, .int .i64 0]) (blk_put (cs := #[.string y.f0.f0, .int .i64 0, .int .i64 0, .bool false, .int .i64 0, .int .i64 0, .int .i64 0, .int .i64 0, .int .i64 0]) (cs' := #[.string y.f0.f0, .int .i64 y.f0.f1, .int .i64 0, .bool false, .int .i64 0, .int .i64 0, .int .i64 0, .int .i64 0, .int .i64 0]) (blk_put (cs := #[.string (⟨#[]⟩ : ByteArray), .int .i64 0, .int .i64 0, .bool false, .int .i64 0, .int .i64 0, .int .i64 0, .int .i64 0, .int .i64 0]) (cs' := #[.string y.f0.f0, .int .i64 0, .int .i64 0, .bool false, .int .i64 0, .int .i64 0, .int .i64 0, .int .i64 0, .int .i64 0]) BKY.out 0 (.string y.f0.f0) rfl) 1 (.int .i64 y.f0.f1) rfl) 2 (.int .i64 y.f0.f2) rfl) 3 (.bool cy) rfl) 4 (.int .i64 y.f0.f4) rfl) 5 (.int .i64 y.f0.f5) rfl) 6 (.int .i64 y.f1.f0) rfl) 7 (.int .i64 y.f1.f1) rfl) 8 (.int .i64 y.f1.f2) rfl)); have n1_ : Aside0 (Below w.heap.size w w4) := Aside0.mk (by rw [hw]; exact (below_set (below_set (below_set (below_set (below_set (below_set (below_set (below_set (below_set HB.out GBKY.out) GBKY.out) GBKY.out) GBKY.out) GBKY.out) GBKY.out) GBKY.out) GBKY.out) GBKY.out)); have n2_ : Aside0 (w4.heap[gx]? = some (.cells #[.string x.f0.f0, .int .i64 x.f0.f1, .int .i64 x.f0.f2, .bool x.f0.f3, .int .i64 x.f0.f4, .int .i64 x.f0.f5, .int .i64 x.f1.f0, .int .i64 x.f1.f1, .int .i64 x.f1.f2] 51 (0, 0))) := Aside0.mk (by rw [hw]; exact (blk_far (blk_far (blk_far (blk_far (blk_far (blk_far (blk_far (blk_far (blk_far BKX.out (p := ⟨gy, 0, none⟩) NXY.out (.string y.f0.f0)) (p := ⟨gy, 1, none⟩) NXY.out (.int .i64 y.f0.f1)) (p := ⟨gy, 2, none⟩) NXY.out (.int .i64 y.f0.f2)) (p := ⟨gy, 3, none⟩) NXY.out (.bool cy)) (p := ⟨gy, 4, none⟩) NXY.out (.int .i64 y.f0.f4)) (p := ⟨gy, 5, none⟩) NXY.out (.int .i64 y.f0.f5)) (p := ⟨gy, 6, none⟩) NXY.out (.int .i64 y.f1.f0)) (p := ⟨gy, 7, none⟩) NXY.out (.int .i64 y.f1.f1)) (p := ⟨gy, 8, none⟩) NXY.out (.int .i64 y.f1.f2))); have n3_ : Aside0 (w4.heap[gB]? = some (.cells #[.slice A0 l0.length c0] 28 (0, 0))) := Aside0.mk (by rw [hw]; exact (blk_far (blk_far (blk_far (blk_far (blk_far (blk_far (blk_far (blk_far (blk_far BKB.out (p := ⟨gy, 0, none⟩) (blk_ne BKB.out BKY.out (by decide)) (.string y.f0.f0)) (p := ⟨gy, 1, none⟩) (blk_ne BKB.out BKY.out (by decide)) (.int .i64 y.f0.f1)) (p := ⟨gy, 2, none⟩) (blk_ne BKB.out BKY.out (by decide)) (.int .i64 y.f0.f2)) (p := ⟨gy, 3, none⟩) (blk_ne BKB.out BKY.out (by decide)) (.bool cy)) (p := ⟨gy, 4, none⟩) (blk_ne BKB.out BKY.out (by decide)) (.int .i64 y.f0.f4)) (p := ⟨gy, 5, none⟩) (blk_ne BKB.out BKY.out (by decide)) (.int .i64 y.f0.f5)) (p := ⟨gy, 6, none⟩) (blk_ne BKB.out BKY.out (by decide)) (.int .i64 y.f1.f0)) (p := ⟨gy, 7, none⟩) (blk_ne BKB.out BKY.out (by decide)) (.int .i64 y.f1.f1)) (p := ⟨gy, 8, none⟩) (blk_ne BKB.out BKY.out (by decide)) (.int .i64 y.f1.f2))); clear HB BKY BKX BKB hw; have BKY := n0_; have HB := n1_; have BKX := n2_; have BKB := n3_; clear n0_ n1_ n2_ n3_; have hcw4BKX_0 : w4.cell? ⟨gx, 0, none⟩ = some (.string x.f0.f0) := (blk_cell BKX.out 0).trans rfl; have hcw4BKX_1 : w4.cell? ⟨gx, 1, none⟩ = some (.int .i64 x.f0.f1) := (blk_cell BKX.out 1).trans rfl; have hcw4BKX_2 : w4.cell? ⟨gx, 2, none⟩ = some (.int .i64 x.f0.f2) := (blk_cell BKX.out 2).trans rfl; have hcw4BKX_3 : w4.cell? ⟨gx, 3, none⟩ = some (.bool x.f0.f3) := (blk_cell BKX.out 3).trans rfl; have hcw4BKX_4 : w4.cell? ⟨gx, 4, none⟩ = some (.int .i64 x.f0.f4) := (blk_cell BKX.out 4).trans rfl; have hcw4BKX_5 : w4.cell? ⟨gx, 5, none⟩ = some (.int .i64 x.f0.f5) := (blk_cell BKX.out 5).trans rfl; have hcw4BKX_6 : w4.cell? ⟨gx, 6, none⟩ = some (.int .i64 x.f1.f0) := (blk_cell BKX.out 6).trans rfl; have hcw4BKX_7 : w4.cell? ⟨gx, 7, none⟩ = some (.int .i64 x.f1.f1) := (blk_cell BKX.out 7).trans rfl; have hcw4BKX_8 : w4.cell? ⟨gx, 8, none⟩ = some (.int .i64 x.f1.f2) := (blk_cell BKX.out 8).trans rfl; have hcw4BKB_0 : w4.cell? ⟨gB, 0, none⟩ = some (.slice A0 l0.length c0) := (blk_cell BKB.out 0).trans rfl; have hcw4BKY_0 : w4.cell? ⟨gy, 0, none⟩ = some (.string y.f0.f0) := (blk_cell BKY.out 0).trans rfl; have hcw4BKY_1 : w4.cell? ⟨gy, 1, none⟩ = some (.int .i64 y.f0.f1) := (blk_cell BKY.out 1).trans rfl; have hcw4BKY_2 : w4.cell? ⟨gy, 2, none⟩ = some (.int .i64 y.f0.f2) := (blk_cell BKY.out 2).trans rfl; have hcw4BKY_3 : w4.cell? ⟨gy, 3, none⟩ = some (.bool cy) := (blk_cell BKY.out 3).trans rfl; have hcw4BKY_4 : w4.cell? ⟨gy, 4, none⟩ = some (.int .i64 y.f0.f4) := (blk_cell BKY.out 4).trans rfl; have hcw4BKY_5 : w4.cell? ⟨gy, 5, none⟩ = some (.int .i64 y.f0.f5) := (blk_cell BKY.out 5).trans rfl; have hcw4BKY_6 : w4.cell? ⟨gy, 6, none⟩ = some (.int .i64 y.f1.f0) := (blk_cell BKY.out 6).trans rfl; have hcw4BKY_7 : w4.cell? ⟨gy, 7, none⟩ = some (.int .i64 y.f1.f1) := (blk_cell BKY.out 7).trans rfl; have hcw4BKY_8 : w4.cell? ⟨gy, 8, none⟩ = some (.int .i64 y.f1.f2) := (blk_cell BKY.out 8).trans rfl; have hfw4BKX_0 := blk_frozen BKX.out 0; have hfw4BKX_1 := blk_frozen BKX.out 1; have hfw4BKX_2 := blk_frozen BKX.out 2; have hfw4BKX_3 := blk_frozen BKX.out 3; have hfw4BKX_4 := blk_frozen BKX.out 4; have hfw4BKX_5 := blk_frozen BKX.out 5; have hfw4BKX_6 := blk_frozen BKX.out 6; have hfw4BKX_7 := blk_frozen BKX.out 7; have hfw4BKX_8 := blk_frozen BKX.out 8; have hfw4BKB_0 := blk_frozen BKB.out 0; have hfw4BKY_0 := blk_frozen BKY.out 0; have hfw4BKY_1 := blk_frozen BKY.out 1; have hfw4BKY_2 := blk_frozen BKY.out 2; have hfw4BKY_3 := blk_frozen BKY.out 3; have hfw4BKY_4 := blk_frozen BKY.out 4; have hfw4BKY_5 := blk_frozen BKY.out 5; have hfw4BKY_6 := blk_frozen BKY.out 6; have hfw4BKY_7 := blk_frozen BKY.out 7; have hfw4BKY_8 := blk_frozen BKY.out 8))
      have HBS := Aside0.mk (And.intro BKX.out (And.intro BKB.out HB.out))
      cases cy with
      | false =>
        have HI := Aside0.mk hiy
        go_wp2
        go_roundg (l1.length - (j + 1).toNat)
        case measure => have := HJ.out; have := HJ2.out; omega
        case rel => exact ⟨j + 1, (by rw [HC.out, HI.out]; rfl), (by first | rfl | (rw [HW.out.2])), ⟨by have := HJ.out; have := HJ2.out; omega⟩, ⟨HBS.out.1⟩, ⟨HBS.out.2.1⟩, ⟨HBS.out.2.2⟩⟩
      | true =>
        by_cases hc2 : y.f1.f0 = x.f1.f0
        · have q0 : (y.f1.f0 == x.f1.f0) = true := beq_iff_eq.2 hc2
          rw [q0] at hiy
          have HI := Aside0.mk hiy
          clear hc2
          go_wp2
          go_roundg (l1.length - (j + 1).toNat)
          case measure => have := HJ.out; have := HJ2.out; omega
          case rel => exact ⟨j + 1, (by rw [HC.out, HI.out]; first | (rw [HW.out.1]; rfl) | (simp [HW.out.1])), (by first | rfl | (rw [HW.out.2])), ⟨by have := HJ.out; have := HJ2.out; omega⟩, ⟨HBS.out.1⟩, ⟨HBS.out.2.1⟩, ⟨HBS.out.2.2⟩⟩
        · have q0 : (y.f1.f0 == x.f1.f0) = false := beq_eq_false_iff_ne.2 hc2
          rw [q0] at hiy
          have HI := Aside0.mk hiy
          clear hc2
          go_wp2
          go_roundg (l1.length - (j + 1).toNat)
          case measure => have := HJ.out; have := HJ2.out; omega
          case rel => exact ⟨j + 1, (by rw [HC.out, HI.out]; rfl), (by first | rfl | (rw [HW.out.2])), ⟨by have := HJ.out; have := HJ2.out; omega⟩, ⟨HBS.out.1⟩, ⟨HBS.out.2.1⟩, ⟨HBS.out.2.2⟩⟩
    · have d0 : decide (j < (l1.length : Int)) = false := decide_eq_false hlt
      have hjj : j.toNat = l1.length := by have := HJ.out; omega
      have HL := Aside0.mk (show (l1.take j.toNat).countP (impl_StowCode.icy x.f1.f0) = l1.countP (impl_StowCode.icy x.f1.f0) by rw [hjj, List.take_length])
      clear hjj hlt
      obtain ⟨hb0, hb1⟩ := HBD.out
      obtain ⟨ad3, f_, hz0, hz1, hz2, hz3⟩ := at_T45 HR0.out x.f1.f0 hb0 hb1
      cases f_
      have hv : impl_StowCode.cold l0 l1 x = (x.f0.f3 && decide ((l1.countP (impl_StowCode.icy x.f1.f0) : Int) > (rd_T45 l0 x.f1.f0).f3)) := rfl
      rw [← HL.out] at hv
      clear HL
      generalize rd_T45 l0 x.f1.f0 = b at hz0 hz1 hz2 hz3 hv
      generalize (((l1.take j.toNat).countP (impl_StowCode.icy x.f1.f0) : Nat) : Int) = n at hv ⊢
      replace hz0 := pw_cell_below HB.out hz0
      replace hz1 := pw_cell_below HB.out hz1
      replace hz2 := pw_cell_below HB.out hz2
      replace hz3 := pw_cell_below HB.out hz3
      have d4 : decide (0 ≤ x.f1.f0) = true := decide_eq_true hb0
      have d5 : decide (x.f1.f0 < (l0.length : Int)) = true := decide_eq_true hb1
      replace hb0 := eq_true hb0
      replace hb1 := eq_true hb1
      have hcX3 : wr.cell? ⟨gx, 3, none⟩ = some (.bool x.f0.f3) := (blk_cell BKX.out 3).trans rfl
      have hcX6 : wr.cell? ⟨gx, 6, none⟩ = some (.int .i64 x.f1.f0) := (blk_cell BKX.out 6).trans rfl
      have hcB0 : wr.cell? ⟨gB, 0, none⟩ = some (.slice (some ad3) l0.length c0) := (blk_cell BKB.out 0).trans rfl
      generalize hc_ : x.f0.f3 = cd at hcX3 hv
      clear hc_
      have HV2 := Aside0.mk hv
      clear hv
      cases cd with
      | false =>
        go_wp2
        go_ret
        exact ⟨by rw [HV2.out]; rfl, HB.out⟩
      | true =>
        go_wp2
        go_ret
        exact ⟨by rw [HV2.out, Bool.true_and]; rfl, HB.out⟩
/-! #### 5 -/
def impl_StowCode.T5 : Bool × List (List Nat × List Nat) := (true, [([], []), ([], []), ([1], [1]), ([2], [2]), ([], []), ([4], [4]), ([5], [5]), ([0, 3, 6], [0, 3, 6]), ([], []), ([], []), ([9], [9]), ([10], [10]), ([8, 11], [8, 11]), ([12], [12]), ([13], [13]), ([7, 14, 7], [7, 14]), ([15], [15]), ([16, 15, 0, 1, 2, 3, 4, 5, 6, 7, 8, 9, 10, 11, 12, 13, 14, 15, 16], [16])])
def impl_StowCode.B5 : List Nat := [0, 0, 2, 6, 0, 16, 48, 127, 0, 0, 512, 1536, 3840, 7936, 16128, 32767, 65535, 131071]
theorem impl_StowCode.tab5 : rtab .any (opsOf Try.f27 1) = impl_StowCode.T5 := by kernel_rfl
theorem impl_StowCode.bits5 : waitsOk impl_StowCode.T5.2 impl_StowCode.B5 = true := by kernel_rfl
set_option maxHeartbeats 4000000 in
set_option maxRecDepth 100000 in
theorem impl_StowCode.lit5 (k : Nat) (A0 : Option Addr) (c0 : Nat) (l0 : List S45) (A1 : Option Addr) (c1 : Nat) (l1 : List S51) (gB gL : Nat) (i : Int) (x : S51) (st : List S48) (t : Bool) (w : World) (h : impl_StowCode.Cap A0 c0 l0 A1 c1 l1 gB gL w) (hb : 0 ≤ x.f1.f0 ∧ x.f1.f0 < (l0.length : Int)) (hs : impl_stackOf.f k l1 x.f1.f0 x.f1.f1 = some st) (ht : impl_StackOk.f k st (rd_T45 l0 x.f1.f0).f2 = some t) :
    Calls Try.prog 27 #[.int .i64 i, .agg #[.string x.f0.f0, .int .i64 x.f0.f1, .int .i64 x.f0.f2, .bool x.f0.f3, .int .i64 x.f0.f4, .int .i64 x.f0.f5, .int .i64 x.f1.f0, .int .i64 x.f1.f1, .int .i64 x.f1.f2], .pointer (some ⟨gL, 0, none⟩), .pointer (some ⟨gB, 0, none⟩)] w fun e w' => e = .returned (.bool (!t)) ∧ Below w.heap.size w w' := by
  have hu51 := Try.underlying51
  have hu49 := Try.underlying49
  have hu48 := Try.underlying48
  have hu45 := Try.underlying45
  have hu30 := Try.underlying30
  have hu28 := Try.underlying28
  have BKL := Aside0.mk h.l
  have BKB := Aside0.mk h.b
  have HR1 := Aside0.mk h.r1
  have HC1 := Aside0.mk h.h1
  obtain ⟨hb0, hb1⟩ := hb
  obtain ⟨ad3, f_, hz0, hz1, hz2, hz3⟩ := at_T45 h.r0 x.f1.f0 hb0 hb1
  cases f_
  clear h
  generalize rd_T45 l0 x.f1.f0 = b at hz0 hz1 hz2 hz3 ht
  have H1 := Aside0.mk hs
  have H2 := Aside0.mk ht
  have HZ := Aside0.mk (And.intro hz0 (And.intro hz1 (And.intro hz2 hz3)))
  have d4 : decide (0 ≤ x.f1.f0) = true := decide_eq_true hb0
  have d5 : decide (x.f1.f0 < (l0.length : Int)) = true := decide_eq_true hb1
  replace hb0 := eq_true hb0
  replace hb1 := eq_true hb1
  clear hs ht hz0 hz1 hz2 hz3
  have HB := Aside0.mk (Below.refl w.heap.size w)
  go_enter Try.func27, Try.ntmps27
  go_upto_region 1 with (first | ((with_reducible refine gate_dst (N := 5) rfl ?_); refine box_event ?hg (N := 5) ?hd (cs := #[.string x.f0.f0, .int .i64 x.f0.f1, .int .i64 x.f0.f2, .bool x.f0.f3, .int .i64 x.f0.f4, .int .i64 x.f0.f5, .int .i64 x.f1.f0, .int .i64 x.f1.f1, .int .i64 x.f1.f2]) (t := 51) ?hr ?_; (case hd => rfl); (case hg => rfl); (case hr => first | (go_simp; done) | (go_simp; rfl)); intro gx hg w1 hbox hb; have GBKX := Aside0.mk (show w.heap.size ≤ gx by rw [hg]; exact below_size Sk.bl_); have BKX := Aside0.mk hbox; have n0_ := Aside0.mk (below_step Sk.bl_ hb); have n1_ := Aside0.mk (blk_below (g := gB) (o := .cells #[.slice (some ad3) l0.length c0] 28 (0, 0)) (by (with_reducible repeat (first | refine blk_drewN ?_ _ | refine blk_drew ?_ | refine blk_alloc ?_ _)); exact BKB.out) hb); have n2_ := Aside0.mk (blk_below (g := gL) (o := .cells #[.slice A1 l1.length c1] 30 (0, 0)) (by (with_reducible repeat (first | refine blk_drewN ?_ _ | refine blk_drew ?_ | refine blk_alloc ?_ _)); exact BKL.out) hb); clear HB BKB BKL; have HB := n0_; have BKB := n1_; have BKL := n2_; clear n0_ n1_ n2_; clear hb hbox hg; have hcw1BKB_0 : w1.cell? ⟨gB, 0, none⟩ = some (.slice (some ad3) l0.length c0) := (blk_cell BKB.out 0).trans rfl; have hcw1BKL_0 : w1.cell? ⟨gL, 0, none⟩ = some (.slice A1 l1.length c1) := (blk_cell BKL.out 0).trans rfl; have hcw1BKX_0 : w1.cell? ⟨gx, 0, none⟩ = some (.string x.f0.f0) := (blk_cell BKX.out 0).trans rfl; have hcw1BKX_1 : w1.cell? ⟨gx, 1, none⟩ = some (.int .i64 x.f0.f1) := (blk_cell BKX.out 1).trans rfl; have hcw1BKX_2 : w1.cell? ⟨gx, 2, none⟩ = some (.int .i64 x.f0.f2) := (blk_cell BKX.out 2).trans rfl; have hcw1BKX_3 : w1.cell? ⟨gx, 3, none⟩ = some (.bool x.f0.f3) := (blk_cell BKX.out 3).trans rfl; have hcw1BKX_4 : w1.cell? ⟨gx, 4, none⟩ = some (.int .i64 x.f0.f4) := (blk_cell BKX.out 4).trans rfl; have hcw1BKX_5 : w1.cell? ⟨gx, 5, none⟩ = some (.int .i64 x.f0.f5) := (blk_cell BKX.out 5).trans rfl; have hcw1BKX_6 : w1.cell? ⟨gx, 6, none⟩ = some (.int .i64 x.f1.f0) := (blk_cell BKX.out 6).trans rfl; have hcw1BKX_7 : w1.cell? ⟨gx, 7, none⟩ = some (.int .i64 x.f1.f1) := (blk_cell BKX.out 7).trans rfl; have hcw1BKX_8 : w1.cell? ⟨gx, 8, none⟩ = some (.int .i64 x.f1.f2) := (blk_cell BKX.out 8).trans rfl))
  have n0_ := Aside0.mk (below_drew1 HB.out)
  have n1_ := Aside0.mk (blk_drew BKX.out)
  have n2_ := Aside0.mk (blk_drew BKB.out)
  have n3_ := Aside0.mk (blk_drew BKL.out)
  clear HB BKX BKB BKL
  have HB := n0_
  have BKX := n1_
  have BKB := n2_
  have BKL := n3_
  clear n0_ n1_ n2_ n3_
  refine start_ (n := 18) (S := fun w' => w'.cell? ⟨gL, 0, none⟩ = some (.slice A1 l1.length c1) ∧ w'.cell? ⟨gB, 0, none⟩ = some (.slice (some ad3) l0.length c0) ∧ w'.cell? ⟨gx, 6, none⟩ = some (.int .i64 x.f1.f0) ∧ w'.cell? ⟨gx, 7, none⟩ = some (.int .i64 x.f1.f1) ∧ w'.cell? (ad3.add (x.f1.f0.toNat * 4)) = some (.int .i64 b.f0) ∧ w'.cell? ⟨(ad3.add (x.f1.f0.toNat * 4)).block, (ad3.add (x.f1.f0.toNat * 4)).off + 1, none⟩ = some (.int .i64 b.f1) ∧ w'.cell? ⟨(ad3.add (x.f1.f0.toNat * 4)).block, (ad3.add (x.f1.f0.toNat * 4)).off + 2, none⟩ = some (.int .i64 b.f2) ∧ w'.cell? ⟨(ad3.add (x.f1.f0.toNat * 4)).block, (ad3.add (x.f1.f0.toNat * 4)).off + 3, none⟩ = some (.int .i64 b.f3)) (ds := []) #[false, false, false, false, false, false, false, false, false, false, false, false, false, false, false, false, false, false] (by kernel_rfl) rfl rfl ⟨(blk_cell BKL.out 0).trans rfl, (blk_cell BKB.out 0).trans rfl, (blk_cell BKX.out 6).trans rfl, (blk_cell BKX.out 7).trans rfl, pw_cell_below HB.out HZ.out.1, pw_cell_below HB.out HZ.out.2.1, pw_cell_below HB.out HZ.out.2.2.1, pw_cell_below HB.out HZ.out.2.2.2⟩ (fun hHeld => ?_); refine with_tabW impl_StowCode.tab5 impl_StowCode.bits5 (fun HT_ HW_ => ?_)
  generalize w1.drew = w2 at HB BKX BKB BKL hHeld ⊢
  refine Sk.pq 1 8 #[false, true, false, false, false, false, false, false, false, false, false, false, false, false, false, false, false, false] HT_.out (h := ?_)
  refine Sk.pq 2 9 #[false, true, true, false, false, false, false, false, false, false, false, false, false, false, false, false, false, false] HT_.out (h := ?_)
  refine Sk.pq 4 11 #[false, true, true, false, true, false, false, false, false, false, false, false, false, false, false, false, false, false] HT_.out (h := ?_)
  refine Sk.pq 5 12 #[false, true, true, false, true, true, false, false, false, false, false, false, false, false, false, false, false, false] HT_.out (h := ?_)
  refine Sk.pq 9 16 #[false, true, true, false, true, true, false, false, false, true, false, false, false, false, false, false, false, false] HT_.out (h := ?_)
  refine Sk.pq 10 17 #[false, true, true, false, true, true, false, false, false, true, true, false, false, false, false, false, false, false] HT_.out (h := ?_)
  refine Sk.tk8 0 7 #[true, true, true, false, true, true, false, false, false, true, true, false, false, false, false, false, false, false] HT_.out HW_.out hHeld (h := ?_)
  refine Sk.tk8 3 10 #[true, true, true, true, true, true, false, false, false, true, true, false, false, false, false, false, false, false] HT_.out HW_.out hHeld (h := ?_)
  refine Sk.tk8 6 13 #[true, true, true, true, true, true, true, false, false, true, true, false, false, false, false, false, false, false] HT_.out HW_.out hHeld (h := ?_)
  refine Sk.tk8 8 15 #[true, true, true, true, true, true, true, false, true, true, true, false, false, false, false, false, false, false] HT_.out HW_.out hHeld (h := ?_)
  refine Sk.tk8 11 18 #[true, true, true, true, true, true, true, false, true, true, true, true, false, false, false, false, false, false] HT_.out HW_.out hHeld (h := ?_)
  refine Sk.pq 12 19 #[true, true, true, true, true, true, true, false, true, true, true, true, true, false, false, false, false, false] HT_.out (h := ?_)
  refine Sk.pq 13 20 #[true, true, true, true, true, true, true, false, true, true, true, true, true, true, false, false, false, false] HT_.out (h := ?_)
  refine Sk.tk8 14 21 #[true, true, true, true, true, true, true, false, true, true, true, true, true, true, true, false, false, false] HT_.out HW_.out hHeld (h := ?_)
  refine one_ (i := 7) (N := some 14) #[true, true, true, true, true, true, true, true, true, true, true, true, true, true, true, false, false, false] rfl rfl (one_of HT_.out (by kernel_rfl)) (by decide) (fun K hK => ?_)
  refine goes_ Try.func29 (by kernel_rfl) rfl #[.slice A1 l1.length c1, .int .i64 x.f1.f0, .int .i64 x.f1.f1] (by rfl) rfl rfl (by (try simp only [List.map_toArray, List.map_cons, List.map_nil]); first | done | rfl | (simp only [List.length_drop, List.length_take]; rfl)) ?_
  with_reducible refine (impl_stackOf.calls k _ _ l1 x.f1.f0 x.f1.f1 st _ (Kd.C_below HR1.out HB.out) HC1.out H1.out).mono ?_
  rintro e w3 ⟨vs, rfl, ho, hb⟩
  refine ⟨_, rfl, ?_⟩
  have HO := Aside0.mk ho
  have n0_ := Aside0.mk (below_step Sk.bl_ hb)
  have n1_ := Aside0.mk (blk_below (g := gx) (o := .cells #[.string x.f0.f0, .int .i64 x.f0.f1, .int .i64 x.f0.f2, .bool x.f0.f3, .int .i64 x.f0.f4, .int .i64 x.f0.f5, .int .i64 x.f1.f0, .int .i64 x.f1.f1, .int .i64 x.f1.f2] 51 (0, 0)) (by (with_reducible repeat (first | refine blk_drewN ?_ _ | refine blk_drew ?_ | refine blk_alloc ?_ _)); exact BKX.out) hb)
  have n2_ := Aside0.mk (blk_below (g := gB) (o := .cells #[.slice (some ad3) l0.length c0] 28 (0, 0)) (by (with_reducible repeat (first | refine blk_drewN ?_ _ | refine blk_drew ?_ | refine blk_alloc ?_ _)); exact BKB.out) hb)
  have n3_ := Aside0.mk (blk_below (g := gL) (o := .cells #[.slice A1 l1.length c1] 30 (0, 0)) (by (with_reducible repeat (first | refine blk_drewN ?_ _ | refine blk_drew ?_ | refine blk_alloc ?_ _)); exact BKL.out) hb)
  clear HB BKX BKB BKL
  have HB := n0_
  have BKX := n1_
  have BKB := n2_
  have BKL := n3_
  clear n0_ n1_ n2_ n3_
  clear ho hb
  obtain ⟨Ao, co, eo⟩ := Kd.R_slice HO.out
  subst eo
  refine hK.out _ _ ⟨(blk_cell BKL.out 0).trans rfl, (blk_cell BKB.out 0).trans rfl, (blk_cell BKX.out 6).trans rfl, (blk_cell BKX.out 7).trans rfl, pw_cell_below HB.out HZ.out.1, pw_cell_below HB.out HZ.out.2.1, pw_cell_below HB.out HZ.out.2.2.1, pw_cell_below HB.out HZ.out.2.2.2⟩ (fun hHeld => ?_)
  clear hK K
  refine Sk.nm 14 (h := ?_)
  refine one_ (i := 15) (N := some 22) #[true, true, true, true, true, true, true, true, true, true, true, true, true, true, true, true, false, false] rfl rfl (one_of HT_.out (by kernel_rfl)) (by decide) (fun K hK => ?_)
  refine goes_ Try.func28 (by kernel_rfl) rfl #[.slice Ao st.length co, .int .i64 b.f2] (by rfl) rfl rfl (by (try simp only [List.map_toArray, List.map_cons, List.map_nil]); first | done | rfl | (simp only [List.length_drop, List.length_take]; rfl)) ?_
  with_reducible refine (impl_StackOk.calls k _ _ st b.f2 t _ (Kd.R_reads' HO.out).2.2 (Kd.R_reads' HO.out).2.1 H2.out).mono ?_
  rintro e w4 ⟨rfl, hb⟩
  refine ⟨_, rfl, ?_⟩
  have n0_ := Aside0.mk (below_step Sk.bl_ hb)
  have n1_ := Aside0.mk (blk_below (g := gx) (o := .cells #[.string x.f0.f0, .int .i64 x.f0.f1, .int .i64 x.f0.f2, .bool x.f0.f3, .int .i64 x.f0.f4, .int .i64 x.f0.f5, .int .i64 x.f1.f0, .int .i64 x.f1.f1, .int .i64 x.f1.f2] 51 (0, 0)) (by (with_reducible repeat (first | refine blk_drewN ?_ _ | refine blk_drew ?_ | refine blk_alloc ?_ _)); exact BKX.out) hb)
  have n2_ := Aside0.mk (blk_below (g := gB) (o := .cells #[.slice (some ad3) l0.length c0] 28 (0, 0)) (by (with_reducible repeat (first | refine blk_drewN ?_ _ | refine blk_drew ?_ | refine blk_alloc ?_ _)); exact BKB.out) hb)
  have n3_ := Aside0.mk (blk_below (g := gL) (o := .cells #[.slice A1 l1.length c1] 30 (0, 0)) (by (with_reducible repeat (first | refine blk_drewN ?_ _ | refine blk_drew ?_ | refine blk_alloc ?_ _)); exact BKL.out) hb)
  clear HB BKX BKB BKL
  have HB := n0_
  have BKX := n1_
  have BKB := n2_
  have BKL := n3_
  clear n0_ n1_ n2_ n3_
  clear HO hb
  refine hK.out _ _ ⟨(blk_cell BKL.out 0).trans rfl, (blk_cell BKB.out 0).trans rfl, (blk_cell BKX.out 6).trans rfl, (blk_cell BKX.out 7).trans rfl, pw_cell_below HB.out HZ.out.1, pw_cell_below HB.out HZ.out.2.1, pw_cell_below HB.out HZ.out.2.2.1, pw_cell_below HB.out HZ.out.2.2.2⟩ (fun hHeld => ?_)
  clear hK K
  refine Sk.nm 22 (h := ?_)
  refine Sk.pq 16 23 #[true, true, true, true, true, true, true, true, true, true, true, true, true, true, true, true, true, false] HT_.out (h := ?_)
  refine Sk.pq 17 6 #[true, true, true, true, true, true, true, true, true, true, true, true, true, true, true, true, true, true] HT_.out (h := ?_)
  refine done_ (done_of HT_.out (by kernel_rfl)) ?_
  try go_wp2
  go_ret
  exact ⟨rfl, HB.out⟩
/-! ### impl_StowCode: function 9 -/
def impl_StowCode.bo (k : Nat) (x : S51) : Option Bool := impl_BoxOk.f k x.f0.f0 x.f0.f1 x.f0.f2 x.f0.f3 x.f0.f4 x.f0.f5
def impl_StowCode.so (k : Nat) (l0 : List S45) (l1 : List S51) (x : S51) : Option Bool := (impl_stackOf.f k l1 x.f1.f0 x.f1.f1).bind fun s => impl_StackOk.f k s (rd_T45 l0 x.f1.f0).f2
def impl_StowCode.ready (k : Nat) (l0 : List S45) (l1 : List S51) : Bool := (List.range l1.length).all fun j => (impl_StowCode.bo k (rd_T51 l1 j) == some true) && (!((l1.take j).any (impl_StowCode.twice (rd_T51 l1 j))) && (!impl_StowCode.spot l0 (rd_T51 l1 j) && !impl_StowCode.floats l1 (rd_T51 l1 j)))
def impl_StowCode.fails (k : Nat) (l0 : List S45) (l1 : List S51) (c i : Nat) : Bool := match c with
  | 1 => !(impl_StowCode.bo k (rd_T51 l1 i) == some true)
  | 2 => (l1.take i).any (impl_StowCode.twice (rd_T51 l1 i))
  | 3 => impl_StowCode.spot l0 (rd_T51 l1 i)
  | 4 => impl_StowCode.floats l1 (rd_T51 l1 i)
  | 5 => impl_StowCode.ready k l0 l1 && !(impl_StowCode.so k l0 l1 (rd_T51 l1 i) == some true)
  | 6 => impl_StowCode.cold l0 l1 (rd_T51 l1 i)
  | _ => (l1.take i).any fun y => !(impl_StowCode.ka k (rd_T51 l1 i) y == some true)
def impl_StowCode.whole (k : Nat) (l0 : List S45) (l1 : List S51) : Bool := (l1.all fun x => (impl_StowCode.bo k x).isSome) && ((l1.all fun x => l1.all fun y => (impl_StowCode.ka k x y).isSome) && (!impl_StowCode.ready k l0 l1 || l1.all fun x => (impl_StowCode.so k l0 l1 x).isSome))
def impl_StowCode.row (p : Nat → Bool) : Nat → Nat → Option Nat
  | 0, _ => none
  | m + 1, i => if p i = true then some i else impl_StowCode.row p m (i + 1)
def impl_StowCode.rows (P : Nat → Nat → Bool) (n : Nat) : Nat → Nat → Int × Int
  | 0, _ => (0, 0)
  | m + 1, c => match impl_StowCode.row (P c) n 0 with
    | some i => ((c : Int), (i : Int))
    | none => impl_StowCode.rows P n m (c + 1)
def impl_StowCode.f (k : Nat) (l0 : List S45) (l1 : List S51) : Option (Int × Int) := (impl_HatchesOk.f l0).bind fun t => if t = true then (if (l1.length : Int) > 40 then some (1, 0) else (if impl_StowCode.whole k l0 l1 = true then some (impl_StowCode.rows (impl_StowCode.fails k l0 l1) l1.length 7 1) else none)) else some (1, 0)
theorem impl_StowCode.row_congr {p q : Nat → Bool} : ∀ (m i : Nat), (∀ j, i ≤ j → j < i + m → p j = q j) → impl_StowCode.row p m i = impl_StowCode.row q m i
  | 0, _, _ => rfl
  | m + 1, i, h => by
    rw [impl_StowCode.row, impl_StowCode.row, h i (Nat.le_refl _) (by omega), impl_StowCode.row_congr m (i + 1) fun j h1 h2 => h j (by omega) (by omega)]
theorem impl_StowCode.rows_congr {P Q : Nat → Nat → Bool} {n : Nat} (h : ∀ c j, j < n → P c j = Q c j) : ∀ m c, impl_StowCode.rows P n m c = impl_StowCode.rows Q n m c
  | 0, _ => rfl
  | m + 1, c => by
    rw [impl_StowCode.rows, impl_StowCode.rows, impl_StowCode.row_congr n 0 fun j _ hj => h c j (by omega), impl_StowCode.rows_congr h m (c + 1)]
theorem impl_StowCode.mem_rd {l : List S51} {i : Nat} (h : i < l.length) : rd_T51 l (i : Int) ∈ l := by
  have : l[i] = rd_T51 l (i : Int) := by simp [rd_T51, h]
  rw [← this]; exact List.getElem_mem _
theorem impl_StowCode.up {α : Type} {o1 o2 : Option α} (h : LeO o1 o2) (hs : o1.isSome = true) : o2 = o1 := by
  obtain ⟨b, hb⟩ := Option.isSome_iff_exists.1 hs
  rw [h b hb, hb]
theorem impl_StowCode.so_up (k : Nat) (l0 : List S45) (l1 : List S51) (x : S51) : LeO (impl_StowCode.so k l0 l1 x) (impl_StowCode.so (k + 1) l0 l1 x) := LeO.bind (impl_stackOf.mono _ _ _ _) fun _ => impl_StackOk.mono _ _ _
theorem impl_StowCode.mono : ∀ a0 a1 k, LeO (impl_StowCode.f k a0 a1) (impl_StowCode.f (k + 1) a0 a1) := by
  intro l0 l1 k
  unfold impl_StowCode.f
  refine LeO.bind (LeO.refl _) fun t => LeO.ite (LeO.ite (LeO.refl _) ?_) (LeO.refl _)
  intro r h
  by_cases hw : impl_StowCode.whole k l0 l1 = true
  rotate_left
  · rw [if_neg hw] at h; cases h
  rw [if_pos hw] at h
  have hw2 := hw
  unfold impl_StowCode.whole at hw2
  simp only [Bool.and_eq_true, List.all_eq_true, Bool.or_eq_true, Bool.not_eq_true'] at hw2
  obtain ⟨w1, w7, w5⟩ := hw2
  have b1 : ∀ x ∈ l1, impl_StowCode.bo (k + 1) x = impl_StowCode.bo k x := fun x hx => impl_StowCode.up (impl_BoxOk.mono _ _ _ _ _ _ k) (w1 x hx)
  have b7 : ∀ x ∈ l1, ∀ y ∈ l1, impl_StowCode.ka (k + 1) x y = impl_StowCode.ka k x y := fun x hx y hy => impl_StowCode.up (impl_KeepsApart.mono _ _ _ _ _ _ _ _ _ _ _ _ _ _ _ _ _ _ k) (w7 x hx y hy)
  have hp : impl_StowCode.ready (k + 1) l0 l1 = impl_StowCode.ready k l0 l1 := by
    unfold impl_StowCode.ready
    rw [Bool.eq_iff_iff, List.all_eq_true, List.all_eq_true]
    constructor
    · intro h j hj
      have h2 := h j hj
      rw [b1 _ (impl_StowCode.mem_rd (List.mem_range.1 hj))] at h2
      exact h2
    · intro h j hj
      rw [b1 _ (impl_StowCode.mem_rd (List.mem_range.1 hj))]
      exact h j hj
  have b5 : impl_StowCode.ready k l0 l1 = true → ∀ x ∈ l1, impl_StowCode.so (k + 1) l0 l1 x = impl_StowCode.so k l0 l1 x := fun hr x hx => impl_StowCode.up (impl_StowCode.so_up k l0 l1 x) (by
    rcases w5 with h5 | h5
    · rw [hr] at h5; cases h5
    · exact h5 x hx)
  have hf : ∀ c j, j < l1.length → impl_StowCode.fails (k + 1) l0 l1 c j = impl_StowCode.fails k l0 l1 c j := by
    intro c j hj
    have hm := impl_StowCode.mem_rd hj
    unfold impl_StowCode.fails
    split
    · rw [b1 _ hm]
    · rfl
    · rfl
    · rfl
    · rw [hp]
      cases hr : impl_StowCode.ready k l0 l1 with
      | false => rfl
      | true => rw [b5 hr _ hm]
    · rfl
    · exact Gv.any_congr fun y hy => by rw [b7 _ hm y (List.mem_of_mem_take hy)]
  have hw3 : impl_StowCode.whole (k + 1) l0 l1 = true := by
    unfold impl_StowCode.whole
    simp only [Bool.and_eq_true, List.all_eq_true, Bool.or_eq_true, Bool.not_eq_true']
    refine ⟨fun x hx => by rw [b1 x hx]; exact w1 x hx, fun x hx y hy => by rw [b7 x hx y hy]; exact w7 x hx y hy, ?_⟩
    rw [hp]
    cases hr : impl_StowCode.ready k l0 l1 with
    | false => exact Or.inl rfl
    | true =>
      refine Or.inr fun x hx => ?_
      rw [b5 hr x hx]
      rcases w5 with h5 | h5
      · rw [hr] at h5; cases h5
      · exact h5 x hx
  rw [if_pos hw3, ← h, impl_StowCode.rows_congr hf]
/-- The table's functions. -/
def impl_StowCode.fid : Nat → Nat
  | 0 => 18
  | 1 => 20
  | 2 => 23
  | 3 => 25
  | 4 => 27
  | 5 => 30
  | _ => 31
def impl_StowCode.flb (gB gL : Nat) : Nat → Array Value
  | 0 => #[]
  | 1 => #[.pointer (some ⟨gL, 0, none⟩)]
  | 2 => #[.pointer (some ⟨gB, 0, none⟩)]
  | 3 => #[.pointer (some ⟨gL, 0, none⟩)]
  | 4 => #[.pointer (some ⟨gL, 0, none⟩), .pointer (some ⟨gB, 0, none⟩)]
  | 5 => #[.pointer (some ⟨gL, 0, none⟩), .pointer (some ⟨gB, 0, none⟩)]
  | _ => #[.pointer (some ⟨gL, 0, none⟩)]
def impl_StowCode.tab (gB gL : Nat) : Array Value := #[.int .i64 1, .func (.func (impl_StowCode.fid 0)) #[] (impl_StowCode.flb gB gL 0), .int .i64 2, .func (.func (impl_StowCode.fid 1)) #[] (impl_StowCode.flb gB gL 1), .int .i64 3, .func (.func (impl_StowCode.fid 2)) #[] (impl_StowCode.flb gB gL 2), .int .i64 4, .func (.func (impl_StowCode.fid 3)) #[] (impl_StowCode.flb gB gL 3), .int .i64 5, .func (.func (impl_StowCode.fid 4)) #[] (impl_StowCode.flb gB gL 4), .int .i64 6, .func (.func (impl_StowCode.fid 5)) #[] (impl_StowCode.flb gB gL 5), .int .i64 7, .func (.func (impl_StowCode.fid 6)) #[] (impl_StowCode.flb gB gL 6)]
theorem impl_StowCode.tab_at (gB gL t : Nat) (ht : t < 7) : (impl_StowCode.tab gB gL)[t * 2]? = some (.int .i64 ((t : Int) + 1)) ∧ (impl_StowCode.tab gB gL)[t * 2 + 1]? = some (.func (.func (impl_StowCode.fid t)) #[] (impl_StowCode.flb gB gL t)) := by
  rcases t with _ | _ | _ | _ | _ | _ | _ | t
  all_goals first | exact ⟨rfl, rfl⟩ | omega
theorem impl_StowCode.spot_in {l0 : List S45} {x : S51} (hn : l0.length ≤ 9223372036854775807) (h : impl_StowCode.spot l0 x = false) : 0 ≤ x.f1.f0 ∧ x.f1.f0 < (l0.length : Int) := by
  unfold impl_StowCode.spot at h
  rw [Bool.or_eq_false_iff] at h
  have h2 := h.1
  rw [show wrap64 ((l0.length : Int) - 1) = (l0.length : Int) - 1 by unfold wrap64; omega] at h2
  simp only [impl_StowCode.inb, Bool.not_eq_false', Bool.and_eq_true, decide_eq_true_eq] at h2
  omega
/-- Each function of the table tells whether its reason holds, once the reasons ahead of it hold nowhere. -/
theorem impl_StowCode.lits (k : Nat) (A0 : Option Addr) (c0 : Nat) (l0 : List S45) (A1 : Option Addr) (c1 : Nat) (l1 : List S51) (gB gL t : Nat) (ht : t < 7) (hw : impl_StowCode.whole k l0 l1 = true) (hp : ∀ c, 1 ≤ c → c ≤ t → ∀ j, j < l1.length → impl_StowCode.fails k l0 l1 c j = false) :
    (∀ args w, (callFunc (impl_StowCode.fid t) args).run Try.prog w = .ok (.enter (impl_StowCode.fid t) args) w) ∧ ∀ (W : World) (i : Nat), impl_StowCode.Cap A0 c0 l0 A1 c1 l1 gB gL W → i < l1.length → Calls Try.prog (impl_StowCode.fid t) (#[.int .i64 (i : Int), .agg #[.string (rd_T51 l1 (i : Int)).f0.f0, .int .i64 (rd_T51 l1 (i : Int)).f0.f1, .int .i64 (rd_T51 l1 (i : Int)).f0.f2, .bool (rd_T51 l1 (i : Int)).f0.f3, .int .i64 (rd_T51 l1 (i : Int)).f0.f4, .int .i64 (rd_T51 l1 (i : Int)).f0.f5, .int .i64 (rd_T51 l1 (i : Int)).f1.f0, .int .i64 (rd_T51 l1 (i : Int)).f1.f1, .int .i64 (rd_T51 l1 (i : Int)).f1.f2]] ++ impl_StowCode.flb gB gL t) W fun e w' => e = .returned (.bool (impl_StowCode.fails k l0 l1 (t + 1) i)) ∧ Below W.heap.size W w' := by
  unfold impl_StowCode.whole at hw
  simp only [Bool.and_eq_true, List.all_eq_true, Bool.or_eq_true, Bool.not_eq_true'] at hw
  obtain ⟨w1, w7, w5⟩ := hw
  rcases t with _ | _ | _ | _ | _ | _ | _ | t
  · refine ⟨enters_of Try.func18 (by kernel_rfl) rfl, fun W i hc hi => ?_⟩
    obtain ⟨b, hb⟩ := Option.isSome_iff_exists.1 (w1 _ (impl_StowCode.mem_rd hi))
    have hv : impl_StowCode.fails k l0 l1 1 i = !b := by
      show (!(impl_StowCode.bo k (rd_T51 l1 (i : Int)) == some true)) = !b
      rw [hb]; cases b <;> rfl
    rw [hv]
    exact impl_StowCode_1.calls k _ _ _ _ _ _ _ _ _ _ _ W (by unfold impl_StowCode_1.f; exact Option.bind_eq_some_iff.2 ⟨b, hb, rfl⟩)
  · exact ⟨enters_of Try.func20 (by kernel_rfl) rfl, fun W i hc hi => impl_StowCode.lit2 A0 c0 l0 A1 c1 l1 gB gL (i : Int) (rd_T51 l1 (i : Int)) W hc ⟨by omega, by omega⟩⟩
  · exact ⟨enters_of Try.func23 (by kernel_rfl) rfl, fun W i hc hi => impl_StowCode.lit3 A0 c0 l0 A1 c1 l1 gB gL (i : Int) (rd_T51 l1 (i : Int)) W hc⟩
  · exact ⟨enters_of Try.func25 (by kernel_rfl) rfl, fun W i hc hi => impl_StowCode.lit4 A0 c0 l0 A1 c1 l1 gB gL (i : Int) (rd_T51 l1 (i : Int)) W hc⟩
  · refine ⟨enters_of Try.func27 (by kernel_rfl) rfl, fun W i hc hi => ?_⟩
    have hr : impl_StowCode.ready k l0 l1 = true := by
      unfold impl_StowCode.ready
      rw [List.all_eq_true]
      intro j hj
      rw [List.mem_range] at hj
      have h1 : (!(impl_StowCode.bo k (rd_T51 l1 (j : Int)) == some true)) = false := hp 1 (by omega) (by omega) j hj
      have h2 : (l1.take j).any (impl_StowCode.twice (rd_T51 l1 (j : Int))) = false := hp 2 (by omega) (by omega) j hj
      have h3 : impl_StowCode.spot l0 (rd_T51 l1 (j : Int)) = false := hp 3 (by omega) (by omega) j hj
      have h4 : impl_StowCode.floats l1 (rd_T51 l1 (j : Int)) = false := hp 4 (by omega) (by omega) j hj
      rw [h2, h3, h4]
      simpa using h1
    have hso : (impl_StowCode.so k l0 l1 (rd_T51 l1 (i : Int))).isSome = true := by
      rcases w5 with h5 | h5
      · rw [hr] at h5; cases h5
      · exact h5 _ (impl_StowCode.mem_rd hi)
    obtain ⟨b, hb⟩ := Option.isSome_iff_exists.1 hso
    have hv : impl_StowCode.fails k l0 l1 5 i = !b := by
      show (impl_StowCode.ready k l0 l1 && !(impl_StowCode.so k l0 l1 (rd_T51 l1 (i : Int)) == some true)) = !b
      rw [hr, hb]; cases b <;> rfl
    rw [hv]
    obtain ⟨st, hs, hk⟩ := Option.bind_eq_some_iff.1 hb
    exact impl_StowCode.lit5 k A0 c0 l0 A1 c1 l1 gB gL (i : Int) (rd_T51 l1 (i : Int)) st b W hc (impl_StowCode.spot_in hc.r0.2.1 (hp 3 (by omega) (by omega) i hi)) hs hk
  · exact ⟨enters_of Try.func30 (by kernel_rfl) rfl, fun W i hc hi => impl_StowCode.lit6 A0 c0 l0 A1 c1 l1 gB gL (i : Int) (rd_T51 l1 (i : Int)) W hc (impl_StowCode.spot_in hc.r0.2.1 (hp 3 (by omega) (by omega) i hi))⟩
  · exact ⟨enters_of Try.func31 (by kernel_rfl) rfl, fun W i hc hi => impl_StowCode.lit7 k A0 c0 l0 A1 c1 l1 gB gL (i : Int) (rd_T51 l1 (i : Int)) W hc ⟨by omega, by omega⟩ (fun y hy => w7 _ (impl_StowCode.mem_rd hi) y (List.mem_of_mem_take hy))⟩
  · omega
theorem impl_StowCode.run_store_fn {P : Program} (w : World) {a : Addr} {m : Mode} (fn : Fn) (first captured : Array Value) : (store a (.func fn first captured) m).run P w = stored P w a (.func fn first captured) m := run_store P w a _ m rfl
attribute [local go_sem] impl_StowCode.run_store_fn
def impl_StowCode.rest (P : Nat → Nat → Bool) (n m c : Nat) : Option Nat → Int × Int
  | some i => ((c : Int), (i : Int))
  | none => impl_StowCode.rows P n m (c + 1)
theorem impl_StowCode.rows_eq (P : Nat → Nat → Bool) (n m c : Nat) : impl_StowCode.rows P n (m + 1) c = impl_StowCode.rest P n m c (impl_StowCode.row (P c) n 0) := by
  rw [impl_StowCode.rows]
  cases impl_StowCode.row (P c) n 0 <;> rfl
/-- What the two loops keep: the table, the captured boxes. -/
structure impl_StowCode.Keep (A0 : Option Addr) (c0 : Nat) (l0 : List S45) (A1 : Option Addr) (c1 : Nat) (l1 : List S51) (gB gL gT : Nat) (w W : World) : Prop where
  tab : W.heap[gT]? = some (.cells (impl_StowCode.tab gB gL) 55 (0, 0))
  cap : impl_StowCode.Cap A0 c0 l0 A1 c1 l1 gB gL W
  bel : Below w.heap.size w W
theorem impl_StowCode.Keep.below {A0 A1 : Option Addr} {c0 c1 gB gL gT : Nat} {l0 : List S45} {l1 : List S51} {w W W1 : World} (h : impl_StowCode.Keep A0 c0 l0 A1 c1 l1 gB gL gT w W) (hb : Below W.heap.size W W1) : impl_StowCode.Keep A0 c0 l0 A1 c1 l1 gB gL gT w W1 := ⟨blk_below h.tab hb, h.cap.below hb, below_step h.bel hb⟩
set_option maxHeartbeats 4000000 in
set_option maxRecDepth 100000 in
theorem impl_StowCode.calls (k : Nat) (A0 : Option Addr) (c0 : Nat) (l0 : List (S45)) (A1 : Option Addr) (c1 : Nat) (l1 : List (S51)) (r1 : Int) (r2 : Int) (w : World) (hr0 : Kd.C k45 w A0 l0.length l0) (hc0 : l0.length ≤ c0) (hr1 : Kd.C k51 w A1 l1.length l1) (hc1 : l1.length ≤ c1) (h : impl_StowCode.f k l0 l1 = some (r1, r2)) :
    Calls Try.prog 9 #[.slice A0 l0.length c0, .slice A1 l1.length c1] w fun e w' => e = .returned (.tuple #[.int .i64 r1, .int .i64 r2]) ∧ Below w.heap.size w w' := by
  have hu28 := Try.underlying28
  have hu30 := Try.underlying30
  have hu51 := Try.underlying51
  have hu55 := Try.underlying55
  have hu63 := Try.underlying63
  have hmf : ∀ (fn : Fn) (first cap : Array Value) (w : World), (Instr.makeFunc fn first cap).run Try.prog w = .ok (.func fn first cap) w := fun _ _ _ _ => rfl
  unfold impl_StowCode.f at h
  obtain ⟨t, ht, h⟩ := Option.bind_eq_some_iff.mp h
  have HR0 := Aside0.mk hr0
  have HR1 := Aside0.mk hr1
  have HC0 := Aside0.mk hc0
  have HC1 := Aside0.mk hc1
  have HT := Aside0.mk ht
  have H := Aside0.mk h
  clear hr0 hr1 hc0 hc1 ht h
  have HB := Aside0.mk (Below.refl w.heap.size w)
  go_enter Try.func9, Try.ntmps9
  go_upto_region 1 with (first | ((with_reducible refine gate_dst (N := 2) rfl ?_); refine box_event ?hg (N := 2) ?hd (cs := #[.slice A0 l0.length c0]) (t := 28) ?hr ?_; (case hd => rfl); (case hg => rfl); (case hr => first | (go_simp; done) | (go_simp; rfl)); intro gB hg w1 hbox hb; have GBKB := Aside0.mk (show w.heap.size ≤ gB by rw [hg]; exact below_size Sk.bl_); have BKB := Aside0.mk hbox; have n0_ := Aside0.mk (below_step Sk.bl_ hb); clear HB ; have HB := n0_; clear n0_; clear hb hbox hg; have hcw1BKB_0 : w1.cell? ⟨gB, 0, none⟩ = some (.slice A0 l0.length c0) := (blk_cell BKB.out 0).trans rfl) | ((with_reducible refine gate_dst (N := 3) rfl ?_); refine box_event ?hg (N := 3) ?hd (cs := #[.slice A1 l1.length c1]) (t := 30) ?hr ?_; (case hd => rfl); (case hg => rfl); (case hr => first | (go_simp; done) | (go_simp; rfl)); intro gL hg w2 hbox hb; have GBKL := Aside0.mk (show w.heap.size ≤ gL by rw [hg]; exact below_size Sk.bl_); have BKL := Aside0.mk hbox; have n0_ := Aside0.mk (below_step Sk.bl_ hb); have n1_ := Aside0.mk (blk_below (g := gB) (o := .cells #[.slice A0 l0.length c0] 28 (0, 0)) (by (with_reducible repeat (first | refine blk_drewN ?_ _ | refine blk_drew ?_ | refine blk_alloc ?_ _)); exact BKB.out) hb); clear HB BKB; have HB := n0_; have BKB := n1_; clear n0_ n1_; clear hb hbox hg; have hcw2BKB_0 : w2.cell? ⟨gB, 0, none⟩ = some (.slice A0 l0.length c0) := (blk_cell BKB.out 0).trans rfl; have hcw2BKL_0 : w2.cell? ⟨gL, 0, none⟩ = some (.slice A1 l1.length c1) := (blk_cell BKL.out 0).trans rfl))
  cases t with
  | false =>
    have h := H.out
    rw [if_neg (by decide)] at h
    obtain ⟨rfl, rfl⟩ := Prod.mk.inj (Option.some.inj h)
    clear h H
    go_wp2_with (first | (go_at_call 17; (with_reducible refine (impl_HatchesOk.calls _ _ l0 _ _ (Kd.C_below HR0.out HB.out) HC0.out HT.out).mono ?_); rintro e w3 ⟨rfl, hb⟩; have n0_ := Aside0.mk (below_step Sk.bl_ hb); have n1_ := Aside0.mk (blk_below (g := gB) (o := .cells #[.slice A0 l0.length c0] 28 (0, 0)) (by (with_reducible repeat (first | refine blk_drewN ?_ _ | refine blk_drew ?_ | refine blk_alloc ?_ _)); exact BKB.out) hb); have n2_ := Aside0.mk (blk_below (g := gL) (o := .cells #[.slice A1 l1.length c1] 30 (0, 0)) (by (with_reducible repeat (first | refine blk_drewN ?_ _ | refine blk_drew ?_ | refine blk_alloc ?_ _)); exact BKL.out) hb); clear HB BKB BKL; have HB := n0_; have BKB := n1_; have BKL := n2_; clear n0_ n1_ n2_; clear hb; have hcw3BKB_0 : w3.cell? ⟨gB, 0, none⟩ = some (.slice A0 l0.length c0) := (blk_cell BKB.out 0).trans rfl; have hcw3BKL_0 : w3.cell? ⟨gL, 0, none⟩ = some (.slice A1 l1.length c1) := (blk_cell BKL.out 0).trans rfl))
    go_ret2
    exact ⟨rfl, Sk.bl_⟩
  | true =>
    have h := H.out
    rw [if_pos rfl] at h
    clear H
    by_cases hn : (l1.length : Int) > 40
    · rw [if_pos hn] at h
      obtain ⟨rfl, rfl⟩ := Prod.mk.inj (Option.some.inj h)
      have d0 : decide ((l1.length : Int) > 40) = true := decide_eq_true hn
      have d1 : decide (40 < (l1.length : Int)) = true := decide_eq_true hn
      clear h hn
      go_wp2_with (first | (go_at_call 17; (with_reducible refine (impl_HatchesOk.calls _ _ l0 _ _ (Kd.C_below HR0.out HB.out) HC0.out HT.out).mono ?_); rintro e w3 ⟨rfl, hb⟩; have n0_ := Aside0.mk (below_step Sk.bl_ hb); have n1_ := Aside0.mk (blk_below (g := gB) (o := .cells #[.slice A0 l0.length c0] 28 (0, 0)) (by (with_reducible repeat (first | refine blk_drewN ?_ _ | refine blk_drew ?_ | refine blk_alloc ?_ _)); exact BKB.out) hb); have n2_ := Aside0.mk (blk_below (g := gL) (o := .cells #[.slice A1 l1.length c1] 30 (0, 0)) (by (with_reducible repeat (first | refine blk_drewN ?_ _ | refine blk_drew ?_ | refine blk_alloc ?_ _)); exact BKL.out) hb); clear HB BKB BKL; have HB := n0_; have BKB := n1_; have BKL := n2_; clear n0_ n1_ n2_; clear hb; have hcw3BKB_0 : w3.cell? ⟨gB, 0, none⟩ = some (.slice A0 l0.length c0) := (blk_cell BKB.out 0).trans rfl; have hcw3BKL_0 : w3.cell? ⟨gL, 0, none⟩ = some (.slice A1 l1.length c1) := (blk_cell BKL.out 0).trans rfl))
      go_ret2
      exact ⟨rfl, Sk.bl_⟩
    rw [if_neg hn] at h
    have d0 : decide ((l1.length : Int) > 40) = false := decide_eq_false hn
    have d1 : decide (40 < (l1.length : Int)) = false := decide_eq_false hn
    have HN := Aside0.mk (show l1.length ≤ 40 by omega)
    by_cases hw : impl_StowCode.whole k l0 l1 = true
    rotate_left
    · rw [if_neg hw] at h; cases h
    rw [if_pos hw] at h
    have HW := Aside0.mk hw
    have HV := Aside0.mk (Option.some.inj h)
    clear h hw hn
    go_upto_region 3 with (first | (go_at_call 17; (with_reducible refine (impl_HatchesOk.calls _ _ l0 _ _ (Kd.C_below HR0.out HB.out) HC0.out HT.out).mono ?_); rintro e w3 ⟨rfl, hb⟩; have n0_ := Aside0.mk (below_step Sk.bl_ hb); have n1_ := Aside0.mk (blk_below (g := gB) (o := .cells #[.slice A0 l0.length c0] 28 (0, 0)) (by (with_reducible repeat (first | refine blk_drewN ?_ _ | refine blk_drew ?_ | refine blk_alloc ?_ _)); exact BKB.out) hb); have n2_ := Aside0.mk (blk_below (g := gL) (o := .cells #[.slice A1 l1.length c1] 30 (0, 0)) (by (with_reducible repeat (first | refine blk_drewN ?_ _ | refine blk_drew ?_ | refine blk_alloc ?_ _)); exact BKL.out) hb); clear HB BKB BKL; have HB := n0_; have BKB := n1_; have BKL := n2_; clear n0_ n1_ n2_; clear hb; have hcw3BKB_0 : w3.cell? ⟨gB, 0, none⟩ = some (.slice A0 l0.length c0) := (blk_cell BKB.out 0).trans rfl; have hcw3BKL_0 : w3.cell? ⟨gL, 0, none⟩ = some (.slice A1 l1.length c1) := (blk_cell BKL.out 0).trans rfl))
    have HCP : Aside0 (impl_StowCode.Cap A0 c0 l0 A1 c1 l1 gB gL w3) := ⟨BKB.out, BKL.out, Kd.C_below HR0.out HB.out, HC0.out, Kd.C_below HR1.out HB.out, HC1.out⟩
    clear d0 d1
    have HV1 : Aside0 (impl_StowCode.rows (impl_StowCode.fails k l0 l1) l1.length (7 - 0) (0 + 1) = (r1, r2)) := HV
    clear HV
    go_wp2
    obtain ⟨gT, hgT⟩ : ∃ g_, g_ = w3.heap.size := ⟨_, rfl⟩
    rw [← hgT]
    go_loopg [33] 7 (fun gg v33 wr => ∃ t : Nat, v33 = .int .i64 (t : Int) ∧ Aside0 (t ≤ 7 ∧ 7 - t ≤ gg) ∧ Aside0 (impl_StowCode.rows (impl_StowCode.fails k l0 l1) l1.length (7 - t) (t + 1) = (r1, r2)) ∧ Aside0 (∀ c, 1 ≤ c → c ≤ t → ∀ j, j < l1.length → impl_StowCode.fails k l0 l1 c j = false) ∧ Aside0 (impl_StowCode.Keep A0 c0 l0 A1 c1 l1 gB gL gT w wr))
    case atStart => exact ⟨0, rfl, ⟨by omega⟩, HV1, ⟨fun c h1 h2 => by omega⟩, ⟨⟨by rw [hgT]; exact blk_new w3 _, HCP.out.below (below_alloc (Below.refl _ _) _), below_alloc HB.out _⟩⟩⟩
    case round =>
      clear HV1 HCP HB BKB BKL hcw3BKB_0 hcw3BKL_0 hgT
      obtain ⟨t, rfl, HI, HV, HP, HS⟩ := hrel
      by_cases hlt : t < 7
      · have d0 : decide ((t : Int) < 7) = true := decide_eq_true (by omega)
        obtain ⟨hen, hlit⟩ := impl_StowCode.lits k A0 c0 l0 A1 c1 l1 gB gL t hlt HW.out HP.out
        obtain ⟨tc0, tc1⟩ := impl_StowCode.tab_at gB gL t hlt
        have ht0 : wr.cell? ⟨gT, t * 2, none⟩ = some (.int .i64 ((t : Int) + 1)) := (blk_cell HS.out.tab _).trans tc0
        have ht1 : wr.cell? ⟨gT, t * 2 + 1, none⟩ = some (.func (.func (impl_StowCode.fid t)) #[] (impl_StowCode.flb gB gL t)) := (blk_cell HS.out.tab _).trans tc1
        have HLIT := Aside0.mk hlit
        clear hlit tc0 tc1
        generalize impl_StowCode.fid t = id at hen HLIT ht1
        generalize impl_StowCode.flb gB gL t = lb at HLIT ht1
        have hv := HV.out
        rw [show 7 - t = (7 - (t + 1)) + 1 by omega, impl_StowCode.rows_eq] at hv
        have HV2 : Aside0 (impl_StowCode.rest (impl_StowCode.fails k l0 l1) l1.length (7 - (t + 1)) (t + 1) (impl_StowCode.row (impl_StowCode.fails k l0 l1 (t + 1)) (l1.length - 0) 0) = (r1, r2)) := ⟨hv⟩
        have HT7 := Aside0.mk hlt
        have hwt : wrap64 ((t : Int) + 1) = ((t + 1 : Nat) : Int) := by unfold wrap64; omega
        have HWT := Aside0.mk hwt
        have p0 : (0 : Int) ≤ (t : Int) := by omega
        have p1 : (t : Int) < 7 := by omega
        clear hv HV hwt
        replace p0 := eq_true p0
        replace p1 := eq_true p1
        have HBR := Aside0.mk (Below.refl wr.heap.size wr)
        go_upto_region 6 with (first | ((with_reducible refine gate_dst (N := 7) rfl ?_); refine box_event ?hg (N := 7) ?hd (cs := #[.int .i64 0, .nilFunc]) (t := 55) ?hr ?_; (case hd => rfl); (case hg => rfl); (case hr => first | (go_simp; done) | (go_simp; rfl)); intro gr hg w4 hbox hb; have GBKR := Aside0.mk (show wr.heap.size ≤ gr by rw [hg]; exact below_size (by repeat (first | (with_reducible first | exact HBR.out | apply below_alloc | apply pw_below_drewN | apply below_drew1) | exact HBR.out))); have BKR := Aside0.mk hbox; have n0_ := Aside0.mk (below_step (by repeat (first | (with_reducible first | exact HBR.out | apply below_alloc | apply pw_below_drewN | apply below_drew1) | exact HBR.out)) hb); clear HBR ; have HBR := n0_; clear n0_; clear hb hbox hg; have hcw4BKR_0 : w4.cell? ⟨gr, 0, none⟩ = some (.int .i64 0) := (blk_cell BKR.out 0).trans rfl; have hcw4BKR_1 : w4.cell? ⟨gr, 1, none⟩ = some (.nilFunc) := (blk_cell BKR.out 1).trans rfl; have hfw4BKR_0 := blk_frozen BKR.out 0; have hfw4BKR_1 := blk_frozen BKR.out 1) | ((with_reducible refine gate_store (t := 55) (p := 7) rfl ?_); refine store_event (t := 55) (p := 7) (v := ?vo_w5) (w1 := ((w4.setCell ⟨gr, 0, none⟩ (.int .i64 ((t : Int) + 1))).setCell ⟨gr, 1, none⟩ (.func (.func id) #[] lb))) ?hg ?ho ?hn ?hr ?_; (case ho => rfl); (case hg => rfl); (case hn => rfl); (case hr => first | (go_simp; done) | (go_simp; rfl)); intro w5 hw; have n0_ : Aside0 (w5.heap[gr]? = some (.cells #[.int .i64 ((t : Int) + 1), .func (.func id) #[] lb] 55 (0, 0))) := Aside0.mk (by rw [hw]; exact (blk_put (cs := #[.int .i64 ((t : Int) + 1), .nilFunc]) (cs' := #[.int .i64 ((t : Int) + 1), .func (.func id) #[] lb]) (blk_put (cs := #[.int .i64 0, .nilFunc]) (cs' := #[.int .i64 ((t : Int) + 1), .nilFunc]) BKR.out 0 (.int .i64 ((t : Int) + 1)) rfl) 1 (.func (.func id) #[] lb) rfl)); have n1_ : Aside0 (Below wr.heap.size wr w5) := Aside0.mk (by rw [hw]; exact (below_set (below_set HBR.out GBKR.out) GBKR.out)); clear HBR BKR  hw; have BKR := n0_; have HBR := n1_; clear n0_ n1_; have hcw5BKR_0 : w5.cell? ⟨gr, 0, none⟩ = some (.int .i64 ((t : Int) + 1)) := (blk_cell BKR.out 0).trans rfl; have hcw5BKR_1 : w5.cell? ⟨gr, 1, none⟩ = some (.func (.func id) #[] lb) := (blk_cell BKR.out 1).trans rfl; have hfw5BKR_0 := blk_frozen BKR.out 0; have hfw5BKR_1 := blk_frozen BKR.out 1))
        have HS2 := Aside0.mk (HS.out.below HBR.out)
        clear HS ht0 ht1 HBR p0 p1 hlt GBKR hcw4BKR_0 hcw4BKR_1 hfw4BKR_0 hfw4BKR_1 hfw5BKR_0 hfw5BKR_1 hcw5BKR_0 hcw5BKR_1
        have hcL : w5.cell? ⟨gL, 0, none⟩ = some (.slice A1 l1.length c1) := (blk_cell HS2.out.cap.l 0).trans rfl
        go_wp2
        clear hcL
        go_loopg [39] l1.length (fun gg v39 wr => ∃ i : Nat, v39 = .int .i64 (i : Int) ∧ Aside0 (i ≤ l1.length ∧ l1.length - i ≤ gg) ∧ Aside0 (impl_StowCode.rest (impl_StowCode.fails k l0 l1) l1.length (7 - (t + 1)) (t + 1) (impl_StowCode.row (impl_StowCode.fails k l0 l1 (t + 1)) (l1.length - i) i) = (r1, r2)) ∧ Aside0 (∀ j, j < i → impl_StowCode.fails k l0 l1 (t + 1) j = false) ∧ Aside0 (wr.heap[gr]? = some (.cells #[.int .i64 ((t : Int) + 1), .func (.func id) #[] lb] 55 (0, 0))) ∧ Aside0 (impl_StowCode.Keep A0 c0 l0 A1 c1 l1 gB gL gT w wr))
        case atStart => exact ⟨0, rfl, ⟨by omega⟩, HV2, ⟨fun j hj => absurd hj (Nat.not_lt_zero _)⟩, BKR, HS2⟩
        case round =>
          clear HV2 BKR HS2
          obtain ⟨i, rfl, HJ, HV, HQ, BKR, HS⟩ := hrel
          by_cases hlt : i < l1.length
          · have hi0 : (0 : Int) ≤ (i : Int) := by omega
            have hi1 : (i : Int) < (l1.length : Int) := by omega
            have HCALL : Aside0 (∀ W : World, impl_StowCode.Cap A0 c0 l0 A1 c1 l1 gB gL W → Calls Try.prog id (#[.int .i64 (i : Int), .agg #[.string (rd_T51 l1 (i : Int)).f0.f0, .int .i64 (rd_T51 l1 (i : Int)).f0.f1, .int .i64 (rd_T51 l1 (i : Int)).f0.f2, .bool (rd_T51 l1 (i : Int)).f0.f3, .int .i64 (rd_T51 l1 (i : Int)).f0.f4, .int .i64 (rd_T51 l1 (i : Int)).f0.f5, .int .i64 (rd_T51 l1 (i : Int)).f1.f0, .int .i64 (rd_T51 l1 (i : Int)).f1.f1, .int .i64 (rd_T51 l1 (i : Int)).f1.f2]] ++ lb) W fun e w' => e = .returned (.bool (impl_StowCode.fails k l0 l1 (t + 1) i)) ∧ Below W.heap.size W w') := ⟨fun W hc => HLIT.out W i hc hlt⟩
            obtain ⟨ad, e_, hx0, hx1, hx2, hx3, hx4, hx5, hx6, hx7, hx8⟩ := at_T51 HR1.out (i : Int) hi0 hi1
            cases e_
            simp only [Int.toNat_natCast] at hx0 hx1 hx2 hx3 hx4 hx5 hx6 hx7 hx8
            generalize rd_T51 l1 (i : Int) = x at HCALL hx0 hx1 hx2 hx3 hx4 hx5 hx6 hx7 hx8
            replace hx0 := pw_cell_below HS.out.bel hx0
            replace hx1 := pw_cell_below HS.out.bel hx1
            replace hx2 := pw_cell_below HS.out.bel hx2
            replace hx3 := pw_cell_below HS.out.bel hx3
            replace hx4 := pw_cell_below HS.out.bel hx4
            replace hx5 := pw_cell_below HS.out.bel hx5
            replace hx6 := pw_cell_below HS.out.bel hx6
            replace hx7 := pw_cell_below HS.out.bel hx7
            replace hx8 := pw_cell_below HS.out.bel hx8
            have d1 : decide ((i : Int) < (l1.length : Int)) = true := decide_eq_true hi1
            have d2 : decide ((0 : Int) ≤ (i : Int)) = true := decide_eq_true hi0
            have d3 : decide (i < l1.length) = true := decide_eq_true hlt
            have hv := HV.out
            rw [show l1.length - i = (l1.length - (i + 1)) + 1 by omega, impl_StowCode.row] at hv
            have HL := Aside0.mk hlt
            have hwi : wrap64 ((i : Int) + 1) = ((i + 1 : Nat) : Int) := by have := HN.out; unfold wrap64; omega
            have HWI := Aside0.mk hwi
            generalize hbv : impl_StowCode.fails k l0 l1 (t + 1) i = b at HCALL hv
            have HBV := Aside0.mk hbv
            have HV2 := Aside0.mk hv
            clear hv hbv HV hwi
            replace hi0 := eq_true hi0
            replace hi1 := eq_true hi1
            have HBQ := Aside0.mk (Below.refl wr.heap.size wr)
            go_upto_region 9 with (first | ((with_reducible refine gate_dst (N := 9) rfl ?_); refine box_event ?hg (N := 9) ?hd (cs := #[.string (⟨#[]⟩ : ByteArray), .int .i64 0, .int .i64 0, .bool false, .int .i64 0, .int .i64 0, .int .i64 0, .int .i64 0, .int .i64 0]) (t := 51) ?hr ?_; (case hd => rfl); (case hg => rfl); (case hr => first | (go_simp; done) | (go_simp; rfl)); intro gs hg w6 hbox hb; have GBKS := Aside0.mk (show wr.heap.size ≤ gs by rw [hg]; exact below_size (by repeat (first | (with_reducible first | exact HBQ.out | apply below_alloc | apply pw_below_drewN | apply below_drew1) | exact HBQ.out))); have BKS := Aside0.mk hbox; have n0_ := Aside0.mk (below_step (by repeat (first | (with_reducible first | exact HBQ.out | apply below_alloc | apply pw_below_drewN | apply below_drew1) | exact HBQ.out)) hb); clear HBQ ; have HBQ := n0_; clear n0_; clear hb hbox hg; have hcw6BKS_0 : w6.cell? ⟨gs, 0, none⟩ = some (.string (⟨#[]⟩ : ByteArray)) := (blk_cell BKS.out 0).trans rfl; have hcw6BKS_1 : w6.cell? ⟨gs, 1, none⟩ = some (.int .i64 0) := (blk_cell BKS.out 1).trans rfl; have hcw6BKS_2 : w6.cell? ⟨gs, 2, none⟩ = some (.int .i64 0) := (blk_cell BKS.out 2).trans rfl; have hcw6BKS_3 : w6.cell? ⟨gs, 3, none⟩ = some (.bool false) := (blk_cell BKS.out 3).trans rfl; have hcw6BKS_4 : w6.cell? ⟨gs, 4, none⟩ = some (.int .i64 0) := (blk_cell BKS.out 4).trans rfl; have hcw6BKS_5 : w6.cell? ⟨gs, 5, none⟩ = some (.int .i64 0) := (blk_cell BKS.out 5).trans rfl; have hcw6BKS_6 : w6.cell? ⟨gs, 6, none⟩ = some (.int .i64 0) := (blk_cell BKS.out 6).trans rfl; have hcw6BKS_7 : w6.cell? ⟨gs, 7, none⟩ = some (.int .i64 0) := (blk_cell BKS.out 7).trans rfl; have hcw6BKS_8 : w6.cell? ⟨gs, 8, none⟩ = some (.int .i64 0) := (blk_cell BKS.out 8).trans rfl; have hfw6BKS_0 := blk_frozen BKS.out 0; have hfw6BKS_1 := blk_frozen BKS.out 1; have hfw6BKS_2 := blk_frozen BKS.out 2; have hfw6BKS_3 := blk_frozen BKS.out 3; have hfw6BKS_4 := blk_frozen BKS.out 4; have hfw6BKS_5 := blk_frozen BKS.out 5; have hfw6BKS_6 := blk_frozen BKS.out 6; have hfw6BKS_7 := blk_frozen BKS.out 7; have hfw6BKS_8 := blk_frozen BKS.out 8) | ((with_reducible refine gate_store (t := 51) (p := 9) rfl ?_); refine store_event (t := 51) (p := 9) (v := ?vo_w7) (w1 := (((((((((w6.setCell ⟨gs, 0, none⟩ (.string x.f0.f0)).setCell ⟨gs, 1, none⟩ (.int .i64 x.f0.f1)).setCell ⟨gs, 2, none⟩ (.int .i64 x.f0.f2)).setCell ⟨gs, 3, none⟩ (.bool x.f0.f3)).setCell ⟨gs, 4, none⟩ (.int .i64 x.f0.f4)).setCell ⟨gs, 5, none⟩ (.int .i64 x.f0.f5)).setCell ⟨gs, 6, none⟩ (.int .i64 x.f1.f0)).setCell ⟨gs, 7, none⟩ (.int .i64 x.f1.f1)).setCell ⟨gs, 8, none⟩ (.int .i64 x.f1.f2))) ?hg ?ho ?hn ?hr ?_; (case ho => rfl); (case hg => rfl); (case hn => rfl); (case hr => first | (go_simp; done) | (go_simp; rfl)); intro w7 hw; have n0_ : Aside0 (w7.heap[gs]? = some (.cells #[.string x.f0.f0, .int .i64 x.f0.f1, .int .i64 x.f0.f2, .bool x.f0.f3, .int .i64 x.f0.f4, .int .i64 x.f0.f5, .int .i64 x.f1.f0, .int .i64 x.f1.f1, .int .i64 x.f1.f2] 51 (0, 0))) := Aside0.mk (by rw [hw]; exact (blk_put (cs := #[.string x.f0.f0, .int .i64 x.f0.f1, .int .i64 x.f0.f2, .bool x.f0.f3, .int .i64 x.f0.f4, .int .i64 x.f0.f5, .int .i64 x.f1.f0, .int .i64 x.f1.f1, .int .i64 0]) (cs' := #[.string x.f0.f0, .int .i64 x.f0.f1, .int .i64 x.f0.f2, .bool x.f0.f3, .int .i64 x.f0.f4, .int .i64 x.f0.f5, .int .i64 x.f1.f0, .int .i64 x.f1.f1, .int .i64 x.f1.f2]) (blk_put (cs := #[.string x.f0.f0, .int .i64 x.f0.f1, .int .i64 x.f0.f2, .bool x.f0.f3, .int .i64 x.f0.f4, .int .i64 x.f0.f5, .int .i64 x.f1.f0, .int .i64 0, .int .i64 0]) (cs' := #[.string x.f0.f0, .int .i64 x.f0.f1, .int .i64 x.f0.f2, .bool x.f0.f3, .int .i64 x.f0.f4, .int .i64 x.f0.f5, .int .i64 x.f1.f0, .int .i64 x.f1.f1, .int .i64 0]) (blk_put (cs := #[.string x.f0.f0, .int .i64 x.f0.f1, .int .i64 x.f0.f2, .bool x.f0.f3, .int .i64 x.f0.f4, .int .i64 x.f0.f5, .int .i64 0, .int .i64 0, .int .i64 0]) (cs' := #[.string x.f0.f0, .int .i64 x.f0.f1, .int .i64 x.f0.f2, .bool x.f0.f3, .int .i64 x.f0.f4, .int .i64 x.f0.f5, .int .i64 x.f1.f0, .int .i64 0, .int .i64 0]) (blk_put (cs := #[.string x.f0.f0, .int .i64 x.f0.f1, .int .i64 x.f0.f2, .bool x.f0.f3, .int .i64 x.f0.f4, .int .i64 0, .int .i64 0, .int .i64 0, .int .i64 0]) (cs' := #[.string x.f0.f0, .int .i64 x.f0.f1, .int .i64 x.f0.f2, .bool x.f0.f3, .int .i64 x.f0.f4, .int .i64 x.f0.f5, .int .i64 0, .int .i64 0, .int .i64 0]) (blk_put (cs := #[.string x.f0.f0, .int .i64 x.f0.f1, .int .i64 x.f0.f2, .bool x.f0.f3, .int .i64 0, .int .i64 0, .int .i64 0, .int .i64 0, .int .i64 0]) (cs' := #[.string x.f0.f0, .int .i64 x.f0.f1, .int .i64 x.f0.f2, .bool x.f0.f3, .int .i64 x.f0.f4, .int .i64 0, .int .i64 0, .int .i64 0, .int .i64 0]) (blk_put (cs := #[.string x.f0.f0, .int .i64 x.f0.f1, .int .i64 x.f0.f2, .bool false, .int .i64 0, .int .i64 0, .int .i64 0, .int .i64 0, .int .i64 0]) (cs' := #[.string x.f0.f0, .int .i64 x.f0.f1, .int .i64 x.f0.f2, .bool x.f0.f3, .int .i64 0, .int .i64 0, .int .i64 0, .int .i64 0, .int .i64 0]) (blk_put (cs := #[.string x.f0.f0, .int .i64 x.f0.f1, .int .i64 0, .bool false, .int .i64 0, .int .i64 0, .int .i64 0, .int .i64 0, .int .i64 0]) (cs' := #[.string x.f0.f0, .int .i64 x.f0.f1, .int .i64 x.f0.f2, .bool false, .int .i64 0, .int .i64 0, .int .i64 0, .int .i64 0, .int .i64 0]) (blk_put (cs := #[.string x.f0.f0, .int .i64 0, .int .i64 0, .bool false, .int .i64 0, .int .i64 0, .int .i64 0, .int .i64 0, .int .i64 0]) (cs' := #[.string x.f0.f0, .int .i64 x.f0.f1, .int .i64 0, .bool false, .int .i64 0, .int .i64 0, .int .i64 0, .int .i64 0, .int .i64 0]) (blk_put (cs := #[.string (⟨#[]⟩ : ByteArray), .int .i64 0, .int .i64 0, .bool false, .int .i64 0, .int .i64 0, .int .i64 0, .int .i64 0, .int .i64 0]) (cs' := #[.string x.f0.f0, .int .i64 0, .int .i64 0, .bool false, .int .i64 0, .int .i64 0, .int .i64 0, .int .i64 0, .int .i64 0]) BKS.out 0 (.string x.f0.f0) rfl) 1 (.int .i64 x.f0.f1) rfl) 2 (.int .i64 x.f0.f2) rfl) 3 (.bool x.f0.f3) rfl) 4 (.int .i64 x.f0.f4) rfl) 5 (.int .i64 x.f0.f5) rfl) 6 (.int .i64 x.f1.f0) rfl) 7 (.int .i64 x.f1.f1) rfl) 8 (.int .i64 x.f1.f2) rfl)); have n1_ : Aside0 (Below wr.heap.size wr w7) := Aside0.mk (by rw [hw]; exact (below_set (below_set (below_set (below_set (below_set (below_set (below_set (below_set (below_set HBQ.out GBKS.out) GBKS.out) GBKS.out) GBKS.out) GBKS.out) GBKS.out) GBKS.out) GBKS.out) GBKS.out)); clear HBQ BKS  hw; have BKS := n0_; have HBQ := n1_; clear n0_ n1_; have hcw7BKS_0 : w7.cell? ⟨gs, 0, none⟩ = some (.string x.f0.f0) := (blk_cell BKS.out 0).trans rfl; have hcw7BKS_1 : w7.cell? ⟨gs, 1, none⟩ = some (.int .i64 x.f0.f1) := (blk_cell BKS.out 1).trans rfl; have hcw7BKS_2 : w7.cell? ⟨gs, 2, none⟩ = some (.int .i64 x.f0.f2) := (blk_cell BKS.out 2).trans rfl; have hcw7BKS_3 : w7.cell? ⟨gs, 3, none⟩ = some (.bool x.f0.f3) := (blk_cell BKS.out 3).trans rfl; have hcw7BKS_4 : w7.cell? ⟨gs, 4, none⟩ = some (.int .i64 x.f0.f4) := (blk_cell BKS.out 4).trans rfl; have hcw7BKS_5 : w7.cell? ⟨gs, 5, none⟩ = some (.int .i64 x.f0.f5) := (blk_cell BKS.out 5).trans rfl; have hcw7BKS_6 : w7.cell? ⟨gs, 6, none⟩ = some (.int .i64 x.f1.f0) := (blk_cell BKS.out 6).trans rfl; have hcw7BKS_7 : w7.cell? ⟨gs, 7, none⟩ = some (.int .i64 x.f1.f1) := (blk_cell BKS.out 7).trans rfl; have hcw7BKS_8 : w7.cell? ⟨gs, 8, none⟩ = some (.int .i64 x.f1.f2) := (blk_cell BKS.out 8).trans rfl; have hfw7BKS_0 := blk_frozen BKS.out 0; have hfw7BKS_1 := blk_frozen BKS.out 1; have hfw7BKS_2 := blk_frozen BKS.out 2; have hfw7BKS_3 := blk_frozen BKS.out 3; have hfw7BKS_4 := blk_frozen BKS.out 4; have hfw7BKS_5 := blk_frozen BKS.out 5; have hfw7BKS_6 := blk_frozen BKS.out 6; have hfw7BKS_7 := blk_frozen BKS.out 7; have hfw7BKS_8 := blk_frozen BKS.out 8))
            have HS3 := Aside0.mk (HS.out.below HBQ.out)
            have BKR3 := Aside0.mk (blk_below BKR.out HBQ.out)
            clear HS BKR hx0 hx1 hx2 hx3 hx4 hx5 hx6 hx7 hx8 HBQ hlt GBKS hcw6BKS_0 hcw6BKS_1 hcw6BKS_2 hcw6BKS_3 hcw6BKS_4 hcw6BKS_5 hcw6BKS_6 hcw6BKS_7 hcw6BKS_8 hfw6BKS_0 hfw6BKS_1 hfw6BKS_2 hfw6BKS_3 hfw6BKS_4 hfw6BKS_5 hfw6BKS_6 hfw6BKS_7 hfw6BKS_8 hfw7BKS_0 hfw7BKS_1 hfw7BKS_2 hfw7BKS_3 hfw7BKS_4 hfw7BKS_5 hfw7BKS_6 hfw7BKS_7 hfw7BKS_8
            have hcr0 : w7.cell? ⟨gr, 0, none⟩ = some (.int .i64 ((t : Int) + 1)) := (blk_cell BKR3.out 0).trans rfl
            have hcr1 : w7.cell? ⟨gr, 1, none⟩ = some (.func (.func id) #[] lb) := (blk_cell BKR3.out 1).trans rfl
            cases b with
            | true =>
              have hv := HV2.out
              rw [if_pos rfl, impl_StowCode.rest] at hv
              obtain ⟨rfl, rfl⟩ := Prod.mk.inj hv
              clear hv HV2
              go_wp2_with (go_at_fn id; refine (HCALL.out _ HS3.out.cap).mono ?_; rintro e w9 ⟨rfl, hb⟩; have HS4 := Aside0.mk (HS3.out.below hb); have hcr2 : w9.cell? ⟨gr, 0, none⟩ = some (.int .i64 ((t : Int) + 1)) := (blk_cell (blk_below BKR3.out hb) 0).trans rfl; clear hb)
              go_ret2
              exact ⟨rfl, HS4.out.bel⟩
            | false =>
              have hv := HV2.out
              rw [if_neg (by decide)] at hv
              have HV3 := Aside0.mk hv
              clear hv HV2
              go_wp2_with (go_at_fn id; refine (HCALL.out _ HS3.out.cap).mono ?_; rintro e w9 ⟨rfl, hb⟩; have HS4 := Aside0.mk (HS3.out.below hb); have BKR4 := Aside0.mk (blk_below BKR3.out hb); clear hb)
              go_roundg (l1.length - (i + 1))
              case measure => have := HJ.out; have := HL.out; omega
              case rel => exact ⟨i + 1, (by first | rfl | rw [HWI.out] | simp [HWI.out]), ⟨by have := HJ.out; have := HL.out; omega⟩, HV3, ⟨fun j hj => if ej : j = i then by rw [ej]; exact HBV.out else HQ.out j (by omega)⟩, BKR4, HS4⟩
          · have d1 : decide ((i : Int) < (l1.length : Int)) = false := decide_eq_false (by omega)
            have d3 : decide (i < l1.length) = false := decide_eq_false hlt
            have hv := HV.out
            rw [show l1.length - i = 0 by omega, impl_StowCode.row, impl_StowCode.rest] at hv
            have HV2 := Aside0.mk hv
            have HQ2 : Aside0 (∀ c, 1 ≤ c → c ≤ t + 1 → ∀ j, j < l1.length → impl_StowCode.fails k l0 l1 c j = false) := ⟨fun c h1 h2 j hj => if ec : c = t + 1 then by rw [ec]; exact HQ.out j (by omega) else HP.out c h1 (by omega) j hj⟩
            clear hv HV hlt
            go_wp2
            go_roundg (7 - (t + 1))
            case measure => have := HI.out; have := HT7.out; omega
            case rel => exact ⟨t + 1, (by first | rfl | rw [HWT.out] | simp [HWT.out]), ⟨by have := HI.out; have := HT7.out; omega⟩, HV2, HQ2, HS⟩
      · have d0 : decide ((t : Int) < 7) = false := decide_eq_false (by omega)
        have hv := HV.out
        rw [show 7 - t = 0 by omega, impl_StowCode.rows] at hv
        obtain ⟨rfl, rfl⟩ := Prod.mk.inj hv
        clear hv HV hlt
        go_wp2
        go_ret2
        exact ⟨rfl, HS.out.bel⟩

end Go.Proofs.Ythfkmjbefdmopaa.PA
