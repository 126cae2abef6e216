/- What Go's functions that the laws reach come to: laid by a program of this session over the print's words. -/
import Derived.Test.YthbmpegaogfibaePAx0
import Derived.Test.YthbmpegaogfibaePAx3
namespace Go.Proofs.Ythbmpegaogfibae.PA
open Go.RowKit Go.Proofs.YthbmpegaogfibaeW.PrintWords Go.Proofs.YthbmpegaogfibaeW.PrintLast Go.Proofs.YthbmpegaogfibaeW.PrintMore
attribute [local go_sem] max2_int min2_int max_two min_two max_three min_three max_four min_four   -- for this text's walks alone
set_option linter.unusedVariables false
set_option linter.unusedSimpArgs false

/-! ### slices.SortStableFunc of ints in place, at a comparator that only reads -/
/-- Rows told by a function of the place. -/
def impl_Average.row {α : Type} (n : Nat) (g : Nat → α) : List α := (List.range n).map g
theorem impl_Average.row_len {α : Type} (n : Nat) (g : Nat → α) : (impl_Average.row n g).length = n := by simp [impl_Average.row]
theorem impl_Average.row_get {α : Type} (n : Nat) (g : Nat → α) (i : Nat) (d : α) (h : i < n) : (impl_Average.row n g).getD i d = g i := by simp [impl_Average.row, List.getD, h]
theorem impl_Average.row_set {α : Type} (n : Nat) (g g' : Nat → α) (i : Nat) (v : α) (h : ∀ j, j < n → g' j = if j = i then v else g j) : (impl_Average.row n g).set i v = impl_Average.row n g' := by
  apply List.ext_getElem
  · simp [impl_Average.row]
  · intro j h1 h2
    have hj : j < n := by simpa [impl_Average.row] using h2
    simp only [impl_Average.row, List.getElem_set, List.getElem_map, List.getElem_range]
    rw [h j hj]
    by_cases c : i = j
    · rw [if_pos c, if_pos c.symm]
    · rw [if_neg c, if_neg (fun e => c e.symm)]
theorem impl_Average.row_congr {α : Type} (n : Nat) (g g' : Nat → α) (h : ∀ j, j < n → g j = g' j) : impl_Average.row n g = impl_Average.row n g' := List.map_congr_left fun i hi => h i (List.mem_range.1 hi)
theorem impl_Average.rd_row (n : Nat) (g : Nat → Int) (i : Int) (h0 : 0 ≤ i) (h1 : i < (n : Int)) : rd (impl_Average.row n g) i = g i.toNat := by
  unfold rd
  exact impl_Average.row_get n g i.toNat 0 (by omega)
theorem impl_Average.row_const {α : Type} (n : Nat) (z : α) : List.replicate n z = impl_Average.row n (fun _ => z) := by
  apply List.ext_getElem
  · simp [impl_Average.row]
  · intro i h1 h2; simp [impl_Average.row]
/-- What the sort needs of a comparator and of the worlds that it meets. -/
structure impl_Average.Cmp (f : Nat) (lb : Array Value) (n gd : Nat) (cf : Int → Int → Int) (J : World → Prop) : Prop where
  eg : ∀ args w, (callFunc f args).run Try.prog w = .ok (.enter f args) w
  drew : ∀ W m, J W → J (W.drewN m)
  set : ∀ W i v, J W → J (W.setCell ⟨gd, i, none⟩ v)
  cmp : ∀ W a b, J W → 0 ≤ a → a < (n : Int) → 0 ≤ b → b < (n : Int) → Calls Try.prog f (#[.int .i64 a, .int .i64 b] ++ lb) W fun e w' => e = .returned (.int .i64 (cf a b)) ∧ Drawn0 W w'
/-- The row's state. -/
structure impl_Average.SW (n gd : Nat) (J : World → Prop) (W : World) (g : Nat → Int) : Prop where
  row : Rw.Row Rw.I W 3 gd (impl_Average.row n g)
  inv : J W
  rng : ∀ t, t < n → 0 ≤ g t ∧ g t < (n : Int)
def impl_Average.sw (g : Nat → Int) (i j : Nat) : Nat → Int := fun t => if t = j then g i else if t = i then g j else g t
section
variable {f n gd : Nat} {lb : Array Value} {cf : Int → Int → Int} {J : World → Prop} {W : World} {g : Nat → Int}
theorem impl_Average.SW.cell (h : impl_Average.SW n gd J W g) (i : Int) (h0 : 0 ≤ i) (h1 : i < (n : Int)) : W.cell? ⟨gd, i.toNat, none⟩ = some (.int .i64 (g i.toNat)) := by
  have h2 := h.row.rd i h0 (by rw [impl_Average.row_len]; exact h1)
  rw [impl_Average.rd_row n g i h0 h1] at h2
  exact h2
theorem impl_Average.SW.frozen (h : impl_Average.SW n gd J W g) (i : Nat) : W.frozen? ⟨gd, i, none⟩ = false := h.row.frozen i
theorem impl_Average.SW.drewN (C : impl_Average.Cmp f lb n gd cf J) (h : impl_Average.SW n gd J W g) (m : Nat) : impl_Average.SW n gd J (W.drewN m) g := ⟨h.row.drewN m, C.drew W m h.inv, h.rng⟩
theorem impl_Average.SW.drawn (C : impl_Average.Cmp f lb n gd cf J) (h : impl_Average.SW n gd J W g) {W' : World} (hd : Drawn0 W W') : impl_Average.SW n gd J W' g := by
  obtain ⟨m, rfl⟩ := hd
  exact h.drewN C m
theorem impl_Average.SW.congr (h : impl_Average.SW n gd J W g) {g' : Nat → Int} (e : ∀ t, t < n → g t = g' t) : impl_Average.SW n gd J W g' := ⟨by rw [← impl_Average.row_congr n g g' e]; exact h.row, h.inv, fun t ht => by rw [← e t ht]; exact h.rng t ht⟩
theorem impl_Average.SW.after (h : impl_Average.SW n gd J W g) (i j : Nat) (hj : j < n) (v : Int) : ∃ z, (W.setCell ⟨gd, i, none⟩ (.int .i64 v)).cell? ⟨gd, j, none⟩ = some z := by
  have h5 := h.row.set i v
  have h6 := h5.cell (i := j) (by rw [List.length_set, impl_Average.row_len]; exact hj)
  exact ⟨_, h6⟩
theorem impl_Average.SW.swap (C : impl_Average.Cmp f lb n gd cf J) (h : impl_Average.SW n gd J W g) (i j : Nat) (hi : i < n) (hj : j < n) : impl_Average.SW n gd J (((W.setCell ⟨gd, i, none⟩ (.int .i64 (g j))).setCell ⟨gd, j, none⟩ (.int .i64 (g i))).drew) (impl_Average.sw g i j) := by
  refine ⟨?_, C.drew _ 1 (C.set _ _ _ (C.set _ _ _ h.inv)), fun t ht => ?_⟩
  · have h5 := (h.row.set i (g j)).set j (g i)
    rw [impl_Average.row_set n g (fun t => if t = i then g j else g t) i (g j) (fun _ _ => rfl), impl_Average.row_set n _ (impl_Average.sw g i j) j (g i) (fun _ _ => rfl)] at h5
    exact h5
  · unfold impl_Average.sw
    by_cases c : t = j
    · rw [if_pos c]; exact h.rng i hi
    · rw [if_neg c]
      by_cases d : t = i
      · rw [if_pos d]; exact h.rng j hj
      · rw [if_neg d]; exact h.rng t ht
end
/-- slices.swapRangeCmpFunc -/
def impl_Average.swR (a b : Nat) : Nat → Nat → (Nat → Int) → Nat → Int
  | 0, _, g => g
  | c + 1, i, g => impl_Average.swR a b c (i + 1) (impl_Average.sw g (a + i) (b + i))
set_option maxHeartbeats 4000000 in
set_option maxRecDepth 100000 in
theorem impl_Average.swapRange (f n gd : Nat) (lb : Array Value) (cf : Int → Int → Int) (J : World → Prop) (C : impl_Average.Cmp f lb n gd cf J) (hn : n ≤ 1000) (W : World) (g : Nat → Int) (a b c : Int) (ha : 0 ≤ a) (hb : 0 ≤ b) (hc : 0 ≤ c) (hac : a + c ≤ n) (hbc : b + c ≤ n) (hS : impl_Average.SW n gd J W g) :
    Calls Try.prog 26 #[.slice (some ⟨gd, 0, none⟩) n n, .int .i64 a, .int .i64 b, .int .i64 c, .func (.func f) #[] lb] W fun e w' => e = .returned (.tuple #[]) ∧ impl_Average.SW n gd J w' (impl_Average.swR a.toNat b.toNat c.toNat 0 g) := by
  have hu := Try.underlying22
  have HA := Aside0.mk (And.intro hn (And.intro ha (And.intro hb (And.intro hc (And.intro hac hbc)))))
  have HS := Aside0.mk hS
  have HC := Aside0.mk C
  clear hn ha hb hc hac hbc hS C
  go_enter Try.func26, Try.ntmps26
  go_wp2
  go_loopg [10] c.toNat (fun gg v10 wr => ∃ (i : Int) (h : Nat → Int), v10 = .int .i64 i ∧ Aside0 (0 ≤ i ∧ i ≤ c ∧ (c - i).toNat ≤ gg) ∧ Aside0 (impl_Average.SW n gd J wr h) ∧ Aside0 (impl_Average.swR a.toNat b.toNat (c - i).toNat i.toNat h = impl_Average.swR a.toNat b.toNat c.toNat 0 g))
  case atStart => exact ⟨0, g, rfl, ⟨by have := HA.out; omega⟩, HS, ⟨by rw [Int.sub_zero]; rfl⟩⟩
  case round =>
    clear HS
    obtain ⟨i, h, rfl, HI, HS, HV⟩ := hrel
    by_cases hlt : i < c
    · have h0 : 0 ≤ i := HI.out.1
      have HL := Aside0.mk (And.intro h0 hlt)
      have d0 : decide (i < c) = true := decide_eq_true hlt
      have hca := HS.out.cell (a + i) (by have := HA.out; omega) (by have := HA.out; omega)
      have hcb := HS.out.cell (b + i) (by have := HA.out; omega) (by have := HA.out; omega)
      have hfa := HS.out.frozen (a + i).toNat
      have hfb := HS.out.frozen (b + i).toNat
      have ra : IntKind.i64.wrap (a + i) = a + i := by have := HA.out; rw [IntKind.wrap_i64]; omega
      have rb : IntKind.i64.wrap (b + i) = b + i := by have := HA.out; rw [IntKind.wrap_i64]; omega
      have wa : wrap64 (a + i) = a + i := by have := HA.out; unfold wrap64; omega
      have wb : wrap64 (b + i) = b + i := by have := HA.out; unfold wrap64; omega
      have pa : (0 : Int) ≤ a + i := by have := HA.out; omega
      have pb : (0 : Int) ≤ b + i := by have := HA.out; omega
      have ba : a + i < (n : Int) := by have := HA.out; omega
      have bb : b + i < (n : Int) := by have := HA.out; omega
      have HP := Aside0.mk (show (a + i).toNat < n ∧ (b + i).toNat < n ∧ (a + i).toNat = a.toNat + i.toNat ∧ (b + i).toNat = b.toNat + i.toNat by have := HA.out; omega)
      obtain ⟨ai, hai⟩ : ∃ q, q = (a + i).toNat := ⟨_, rfl⟩
      obtain ⟨bi, hbi⟩ : ∃ q, q = (b + i).toNat := ⟨_, rfl⟩
      rw [← hai] at hca hfa HP
      rw [← hbi] at hcb hfb HP
      have ea : (a + i).toNat = ai := hai.symm
      have eb : (b + i).toNat = bi := hbi.symm
      obtain ⟨z, hz⟩ := HS.out.after ai bi HP.out.2.1 (h bi)
      clear hai hbi hlt
      go_upto_region 3 with (fail)
      go_region
      have HS2 := Aside0.mk (HS.out.swap HC.out ai bi HP.out.1 HP.out.2.1)
      clear HS hca hcb hfa hfb hz
      generalize ((wr.setCell ⟨gd, ai, none⟩ (.int .i64 (h bi))).setCell ⟨gd, bi, none⟩ (.int .i64 (h ai))).drew = w9 at HS2 ⊢
      clear ea eb ra rb wa wb pa pb ba bb d0
      go_wp2
      go_roundg (c - (i + 1)).toNat
      case measure => have := HI.out; have := HL.out; omega
      case rel =>
        refine ⟨i + 1, _, (by first | rfl | (congr 1; have := HA.out; have := HL.out; unfold wrap64; omega)), ⟨by have := HI.out; have := HL.out; omega⟩, HS2, ⟨?_⟩⟩
        rw [← HV.out, show (c - i).toNat = (c - (i + 1)).toNat + 1 by have := HL.out; omega, impl_Average.swR, HP.out.2.2.1, HP.out.2.2.2, show (i + 1).toNat = i.toNat + 1 by have := HL.out; omega]
    · have d0 : decide (i < c) = false := decide_eq_false hlt
      have hS := HS.out
      have hv := HV.out
      rw [show (c - i).toNat = 0 by omega, impl_Average.swR] at hv
      rw [hv] at hS
      have HS3 := Aside0.mk hS
      clear hS hv HS HV hlt
      go_wp2
      refine bodyPost_end (results_none rfl _ _ _) rfl ?_
      exact ⟨rfl, HS3.out⟩
/-- slices.rotateCmpFunc -/
def impl_Average.rot (m : Nat) : Nat → Nat → Nat → (Nat → Int) → Nat → Int
  | 0, _, _, g => g
  | k + 1, i, j, g => if i = j then impl_Average.swR (m - i) m i 0 g else if j < i then impl_Average.rot m k (i - j) j (impl_Average.swR (m - i) m j 0 g) else impl_Average.rot m k i (j - i) (impl_Average.swR (m - i) (m + j - i) i 0 g)
set_option maxHeartbeats 4000000 in
set_option maxRecDepth 100000 in
theorem impl_Average.rotate (f n gd : Nat) (lb : Array Value) (cf : Int → Int → Int) (J : World → Prop) (C : impl_Average.Cmp f lb n gd cf J) (hn : n ≤ 1000) (W : World) (g : Nat → Int) (a m b : Int) (ha : 0 ≤ a) (hm : a < m) (hb : m < b) (hbn : b ≤ n) (hS : impl_Average.SW n gd J W g) :
    Calls Try.prog 25 #[.slice (some ⟨gd, 0, none⟩) n n, .int .i64 a, .int .i64 m, .int .i64 b, .func (.func f) #[] lb] W fun e w' => e = .returned (.tuple #[]) ∧ impl_Average.SW n gd J w' (impl_Average.rot m.toNat (b - a).toNat (m - a).toNat (b - m).toNat g) := by
  have HA := Aside0.mk (And.intro hn (And.intro ha (And.intro hm (And.intro hb hbn))))
  have HS := Aside0.mk hS
  have HK : Aside0 (∀ (W : World) (g : Nat → Int) (x y c : Int), 0 ≤ x → 0 ≤ y → 0 ≤ c → x + c ≤ n → y + c ≤ n → impl_Average.SW n gd J W g → Calls Try.prog 26 #[.slice (some ⟨gd, 0, none⟩) n n, .int .i64 x, .int .i64 y, .int .i64 c, .func (.func f) #[] lb] W fun e w' => e = .returned (.tuple #[]) ∧ impl_Average.SW n gd J w' (impl_Average.swR x.toNat y.toNat c.toNat 0 g)) := ⟨fun W g x y c h1 h2 h3 h4 h5 h6 => impl_Average.swapRange f n gd lb cf J C hn W g x y c h1 h2 h3 h4 h5 h6⟩
  have w1 : wrap64 (m - a) = m - a := by unfold wrap64; omega
  have w2 : wrap64 (b - m) = b - m := by unfold wrap64; omega
  have HW := Aside0.mk (And.intro w1 w2)
  clear hn ha hb hm hbn hS C w1 w2
  go_enter Try.func25, Try.ntmps25
  go_wp2
  go_loopg [10, 11] (b - a).toNat (fun gg v10 v11 wr => ∃ (i j : Int) (k : Nat) (h : Nat → Int), v10 = .int .i64 i ∧ v11 = .int .i64 j ∧ Aside0 (0 < i ∧ 0 < j ∧ a + i ≤ m ∧ m + j ≤ b ∧ (i + j).toNat ≤ k ∧ (i + j).toNat ≤ gg) ∧ Aside0 (impl_Average.SW n gd J wr h) ∧ Aside0 (impl_Average.rot m.toNat k i.toNat j.toNat h = impl_Average.rot m.toNat (b - a).toNat (m - a).toNat (b - m).toNat g))
  case atStart => exact ⟨m - a, b - m, (b - a).toNat, g, (by first | rfl | (rw [HW.out.1])), (by first | rfl | (rw [HW.out.2])), ⟨by have := HA.out; omega⟩, HS, ⟨rfl⟩⟩
  case round =>
    clear HS
    obtain ⟨i, j, k, h, rfl, rfl, HI, HS, HV⟩ := hrel
    obtain ⟨k1, rfl⟩ : ∃ k1, k = k1 + 1 := ⟨k - 1, by have := HI.out; omega⟩
    have w1 : wrap64 (m - i) = m - i := by have := HA.out; have := HI.out; unfold wrap64; omega
    have w2 : wrap64 (m + j) = m + j := by have := HA.out; have := HI.out; unfold wrap64; omega
    have w3 : wrap64 (m + j - i) = m + j - i := by have := HA.out; have := HI.out; unfold wrap64; omega
    have w4 : wrap64 (i - j) = i - j := by have := HA.out; have := HI.out; unfold wrap64; omega
    have w5 : wrap64 (j - i) = j - i := by have := HA.out; have := HI.out; unfold wrap64; omega
    have HW := Aside0.mk (And.intro w1 (And.intro w2 (And.intro w3 (And.intro w4 w5))))
    by_cases hij : i = j
    · cases hij
      have hv := HV.out
      rw [impl_Average.rot, if_pos rfl] at hv
      have HV2 := Aside0.mk hv
      clear hv HV w2 w3 w4 w5
      go_wp2_with (go_at_call 26; rw [w1]; refine (HK.out _ h (m - i) m i (by have := HA.out; have := HI.out; omega) (by have := HA.out; have := HI.out; omega) (by have := HA.out; have := HI.out; omega) (by have := HA.out; have := HI.out; omega) (by have := HA.out; have := HI.out; omega) HS.out).mono ?_; rintro e w3 ⟨rfl, hs⟩; have HS2 := Aside0.mk hs; clear hs)
      refine bodyPost_end (results_none rfl _ _ _) rfl ?_
      refine ⟨rfl, ?_⟩
      rw [← HV2.out, show m.toNat - i.toNat = (m - i).toNat by have := HI.out; have := HA.out; omega]
      exact HS2.out
    · have hv := HV.out
      rw [impl_Average.rot, if_neg (show ¬ i.toNat = j.toNat by have := HI.out; omega)] at hv
      have d0 : (i == j) = false := by simp [hij]
      have d1 : decide (i = j) = false := by simp [hij]
      by_cases hlt : j < i
      · rw [if_pos (show j.toNat < i.toNat by have := HI.out; omega)] at hv
        have HV2 := Aside0.mk hv
        have d2 : decide (i > j) = true := decide_eq_true hlt
        have d3 : decide (j < i) = true := decide_eq_true hlt
        have HL := Aside0.mk hlt
        clear hv HV hlt w2 w3 w5
        go_wp2_with (go_at_call 26; rw [w1]; refine (HK.out _ h (m - i) m j (by have := HA.out; have := HI.out; omega) (by have := HA.out; have := HI.out; omega) (by have := HA.out; have := HI.out; omega) (by have := HA.out; have := HI.out; have := HL.out; omega) (by have := HA.out; have := HI.out; omega) HS.out).mono ?_; rintro e w3 ⟨rfl, hs⟩; have HS2 := Aside0.mk hs; clear hs)
        go_roundg (i - j + j).toNat
        case measure => have := HI.out; have := HL.out; omega
        case rel =>
          refine ⟨i - j, j, k1, _, (by first | rfl | (rw [HW.out.2.2.2.1])), rfl, ⟨by have := HI.out; have := HL.out; omega⟩, HS2, ⟨?_⟩⟩
          rw [← HV2.out, show m.toNat - i.toNat = (m - i).toNat by have := HI.out; have := HA.out; omega, show i.toNat - j.toNat = (i - j).toNat by have := HI.out; have := HL.out; omega]
      · rw [if_neg (show ¬ j.toNat < i.toNat by have := HI.out; omega)] at hv
        have HV2 := Aside0.mk hv
        have d2 : decide (i > j) = false := decide_eq_false hlt
        have d3 : decide (j < i) = false := decide_eq_false hlt
        have HL := Aside0.mk (And.intro hlt hij)
        clear hv HV hlt w4
        go_wp2_with (go_at_call 26; rw [w1, w2, w3]; refine (HK.out _ h (m - i) (m + j - i) i (by have := HA.out; have := HI.out; omega) (by have := HA.out; have := HI.out; have := HL.out; omega) (by have := HA.out; have := HI.out; omega) (by have := HA.out; have := HI.out; have := HL.out; omega) (by have := HA.out; have := HI.out; omega) HS.out).mono ?_; rintro e w3 ⟨rfl, hs⟩; have HS2 := Aside0.mk hs; clear hs)
        go_roundg (i + (j - i)).toNat
        case measure => have := HI.out; have := HL.out; omega
        case rel =>
          refine ⟨i, j - i, k1, _, rfl, (by first | rfl | (rw [HW.out.2.2.2.2])), ⟨by have := HI.out; have := HL.out; omega⟩, HS2, ⟨?_⟩⟩
          rw [← HV2.out, show m.toNat - i.toNat = (m - i).toNat by have := HI.out; have := HA.out; omega, show j.toNat - i.toNat = (j - i).toNat by have := HI.out; have := HL.out; omega, show m.toNat + j.toNat - i.toNat = (m + j - i).toNat by have := HI.out; have := HA.out; omega]
/-- slices.insertionSortCmpFunc -/
def impl_Average.insI (cf : Int → Int → Int) (a : Nat) : Nat → (Nat → Int) → Nat → Int
  | 0, g => g
  | j + 1, g => if a < j + 1 ∧ cf (g (j + 1)) (g j) < 0 then impl_Average.insI cf a j (impl_Average.sw g (j + 1) j) else g
def impl_Average.insO (cf : Int → Int → Int) (a : Nat) : Nat → Nat → (Nat → Int) → Nat → Int
  | 0, _, g => g
  | c + 1, i, g => impl_Average.insO cf a c (i + 1) (impl_Average.insI cf a i g)
theorem impl_Average.insI_stop (cf : Int → Int → Int) (a j : Nat) (g : Nat → Int) (h : ¬ a < j) : impl_Average.insI cf a j g = g := by
  cases j with
  | zero => rfl
  | succ j => rw [impl_Average.insI, if_neg (fun e => h e.1)]
set_option maxHeartbeats 4000000 in
set_option maxRecDepth 100000 in
theorem impl_Average.insertion (f n gd : Nat) (lb : Array Value) (cf : Int → Int → Int) (J : World → Prop) (C : impl_Average.Cmp f lb n gd cf J) (hn : n ≤ 1000) (W : World) (g : Nat → Int) (a b : Int) (ha : 0 ≤ a) (hab : a ≤ b) (hbn : b ≤ n) (hS : impl_Average.SW n gd J W g) :
    Calls Try.prog 23 #[.slice (some ⟨gd, 0, none⟩) n n, .int .i64 a, .int .i64 b, .func (.func f) #[] lb] W fun e w' => e = .returned (.tuple #[]) ∧ impl_Average.SW n gd J w' (impl_Average.insO cf a.toNat (b - (a + 1)).toNat (a + 1).toNat g) := by
  have hu := Try.underlying22
  have eg := C.eg
  have HA := Aside0.mk (And.intro hn (And.intro ha (And.intro hab hbn)))
  have HS := Aside0.mk hS
  have HC := Aside0.mk C
  have w1 : wrap64 (a + 1) = a + 1 := by unfold wrap64; omega
  have HW := Aside0.mk w1
  clear hn ha hab hbn hS C w1
  go_enter Try.func23, Try.ntmps23
  go_wp2
  go_loopg [8] (b - (a + 1)).toNat (fun gg v8 wr => ∃ (i : Int) (h : Nat → Int), v8 = .int .i64 i ∧ Aside0 (a + 1 ≤ i ∧ (i ≤ b ∨ i = a + 1) ∧ (b - i).toNat ≤ gg) ∧ Aside0 (impl_Average.SW n gd J wr h) ∧ Aside0 (impl_Average.insO cf a.toNat (b - i).toNat i.toNat h = impl_Average.insO cf a.toNat (b - (a + 1)).toNat (a + 1).toNat g))
  case atStart => exact ⟨a + 1, g, (by first | rfl | (rw [HW.out])), ⟨by omega⟩, HS, ⟨rfl⟩⟩
  case round =>
    clear HS
    obtain ⟨i, h, rfl, HI, HS, HV⟩ := hrel
    by_cases hlt : i < b
    · have d0 : decide (i < b) = true := decide_eq_true hlt
      have hv := HV.out
      rw [show (b - i).toNat = (b - (i + 1)).toNat + 1 by omega, impl_Average.insO, show i.toNat + 1 = (i + 1).toNat by have := HI.out; have := HA.out; omega] at hv
      have HV2 := Aside0.mk hv
      have HL := Aside0.mk hlt
      clear hv HV hlt
      go_wp2
      go_loopg [9] (i - a).toNat (fun gg v9 wr => ∃ (j : Int) (p : Nat → Int), v9 = .int .i64 j ∧ Aside0 (a ≤ j ∧ j ≤ i ∧ (j - a).toNat ≤ gg) ∧ Aside0 (impl_Average.SW n gd J wr p) ∧ Aside0 (impl_Average.insI cf a.toNat j.toNat p = impl_Average.insI cf a.toNat i.toNat h))
      case atStart => exact ⟨i, h, rfl, ⟨by have := HI.out; omega⟩, HS, ⟨rfl⟩⟩
      case round =>
        clear HS
        obtain ⟨j, p, rfl, HJ, HS, HP⟩ := hrel
        by_cases hja : a < j
        · have e0 : decide (a < j) = true := decide_eq_true hja
          have e1 : decide (j > a) = true := decide_eq_true hja
          have HX := Aside0.mk (show 0 ≤ j ∧ j < (n : Int) ∧ 0 ≤ j - 1 ∧ j - 1 < (n : Int) ∧ (j - 1).toNat + 1 = j.toNat ∧ a.toNat < j.toNat by have := HA.out; have := HJ.out; have := HL.out; omega)
          have hca := HS.out.cell j HX.out.1 HX.out.2.1
          have hcb := HS.out.cell (j - 1) HX.out.2.2.1 HX.out.2.2.2.1
          have hfa := HS.out.frozen j.toNat
          have hfb := HS.out.frozen (j - 1).toNat
          have HCL : Aside0 (∀ W, Drawn0 wr W → Calls Try.prog f (#[.int .i64 (p j.toNat), .int .i64 (p (j - 1).toNat)] ++ lb) W fun e w' => e = .returned (.int .i64 (cf (p j.toNat) (p (j - 1).toNat))) ∧ Drawn0 W w') := ⟨fun W hd => HC.out.cmp W _ _ (HS.out.drawn HC.out hd).inv (HS.out.rng _ (by have := HX.out; omega)).1 (HS.out.rng _ (by have := HX.out; omega)).2 (HS.out.rng _ (by have := HX.out; omega)).1 (HS.out.rng _ (by have := HX.out; omega)).2⟩
          obtain ⟨aj, haj⟩ : ∃ q, q = j.toNat := ⟨_, rfl⟩
          obtain ⟨bj, hbj⟩ : ∃ q, q = (j - 1).toNat := ⟨_, rfl⟩
          have HY := Aside0.mk (And.intro haj hbj)
          rw [← haj] at hca hfa HCL
          rw [← hbj] at hcb hfb HCL
          have ea : j.toNat = aj := haj.symm
          have eb : (j - 1).toNat = bj := hbj.symm
          have eb2 : j.toNat - 1 = bj := by omega
          have eb3 : aj - 1 = bj := by omega
          have ra : IntKind.i64.wrap (j - 1) = j - 1 := by have := HX.out; have := HA.out; rw [IntKind.wrap_i64]; omega
          have wa : wrap64 (j - 1) = j - 1 := by have := HX.out; have := HA.out; unfold wrap64; omega
          have p0 : (0 : Int) ≤ j := HX.out.1
          have p1 : (0 : Int) ≤ j - 1 := HX.out.2.2.1
          have p2 : (1 : Int) ≤ j := by omega
          have b0 : j < (n : Int) := HX.out.2.1
          have b1 : j - 1 < (n : Int) := HX.out.2.2.2.1
          have b2 : j < (n : Int) + 1 := by omega
          clear haj hbj hja
          go_upto_region 4 with (fail)
          generalize hcv : cf (p aj) (p bj) = cv at HCL
          have HCV := Aside0.mk hcv
          clear hcv
          go_quiet (first | (go_at_fn f; (with_reducible refine (HCL.out _ (by repeat (first | exact Drawn0.refl _ | apply Drawn0.step))).mono ?_); rintro e w' ⟨rfl, ⟨⟨nd, rfl⟩⟩⟩; (first | exact ⟨rfl, _, World.drewN_drewN _ _ _⟩ | exact ⟨rfl, _, Eq.trans (World.drewN_drewN _ _ _) (congrArg (World.drewN _) (Nat.add_assoc _ _ _))⟩ | exact ⟨rfl, _, rfl⟩)))
          have HS2 := Aside0.mk (HS.out.drewN HC.out nq)
          clear HS HCL hca hcb hfa hfb
          generalize wr.drewN nq = w5 at HS2 ⊢
          have hpv := HP.out
          have hst : impl_Average.insI cf a.toNat aj p = if cv < 0 then impl_Average.insI cf a.toNat bj (impl_Average.sw p aj bj) else p := by
            rw [← HCV.out, show aj = bj + 1 by have := HX.out; have := HY.out; omega, impl_Average.insI]
            by_cases c : cf (p (bj + 1)) (p bj) < 0
            · rw [if_pos ⟨by have := HX.out; have := HY.out; omega, c⟩, if_pos c]
            · rw [if_neg (fun e => c e.2), if_neg c]
          rw [ea, hst] at hpv
          clear hst HP
          by_cases hneg : cv < 0
          · rw [if_pos hneg] at hpv
            have HP2 := Aside0.mk hpv
            have f0 : decide (cv < 0) = true := decide_eq_true hneg
            clear hpv hneg
            have hca := HS2.out.cell j HX.out.1 HX.out.2.1
            have hcb := HS2.out.cell (j - 1) HX.out.2.2.1 HX.out.2.2.2.1
            rw [ea] at hca
            rw [eb] at hcb
            have hfa := HS2.out.frozen aj
            have hfb := HS2.out.frozen bj
            have HQ := Aside0.mk (show aj < n ∧ bj < n by have := HX.out; have := HY.out; omega)
            obtain ⟨z, hz⟩ := HS2.out.after aj bj HQ.out.2 (p bj)
            rw [f0]
            go_upto_region 6 with (fail)
            go_region
            have HS3 := Aside0.mk (HS2.out.swap HC.out aj bj HQ.out.1 HQ.out.2)
            clear HS2 hca hcb hfa hfb hz
            generalize ((w5.setCell ⟨gd, aj, none⟩ (.int .i64 (p bj))).setCell ⟨gd, bj, none⟩ (.int .i64 (p aj))).drew = w9 at HS3 ⊢
            clear ea eb eb2 eb3 ra p0 p1 p2 b0 b1 b2 e0 e1 f0
            go_wp2
            go_roundg (j - 1 - a).toNat
            case measure => have := HJ.out; have := HX.out; omega
            case rel => exact ⟨j - 1, _, (by first | rfl | (rw [wa])), ⟨by have := HJ.out; have := HX.out; have := HA.out; omega⟩, HS3, ⟨by rw [← HY.out.2]; exact HP2.out⟩⟩
          · rw [if_neg hneg] at hpv
            have HP2 := Aside0.mk hpv
            have f0 : decide (cv < 0) = false := decide_eq_false hneg
            clear hpv hneg ea eb eb2 eb3 ra wa p0 p1 p2 b0 b1 b2
            rw [f0]
            go_wp2
            go_roundg (b - (i + 1)).toNat
            case measure => have := HI.out; have := HL.out; omega
            case rel => exact ⟨i + 1, _, (by first | rfl | (congr 1; have := HA.out; have := HI.out; have := HL.out; unfold wrap64; omega)), ⟨by have := HI.out; have := HL.out; omega⟩, HS2, ⟨by rw [HP2.out]; exact HV2.out⟩⟩
        · have e0 : decide (a < j) = false := decide_eq_false hja
          have e1 : decide (j > a) = false := decide_eq_false hja
          have hpv := HP.out
          rw [impl_Average.insI_stop cf a.toNat j.toNat p (by have := HJ.out; have := HA.out; omega)] at hpv
          have HP2 := Aside0.mk hpv
          clear hpv hja HP
          go_upto_region 4 with (fail)
          go_quiet (fail)
          have HS2 := Aside0.mk (HS.out.drewN HC.out nq)
          clear HS
          generalize wr.drewN nq = w5 at HS2 ⊢
          go_wp2
          go_roundg (b - (i + 1)).toNat
          case measure => have := HI.out; have := HL.out; omega
          case rel => exact ⟨i + 1, _, (by first | rfl | (congr 1; have := HA.out; have := HI.out; have := HL.out; unfold wrap64; omega)), ⟨by have := HI.out; have := HL.out; omega⟩, HS2, ⟨by rw [HP2.out]; exact HV2.out⟩⟩
    · have d0 : decide (i < b) = false := decide_eq_false hlt
      have hS := HS.out
      have hv := HV.out
      rw [show (b - i).toNat = 0 by omega, impl_Average.insO] at hv
      rw [hv] at hS
      have HS3 := Aside0.mk hS
      clear hS hv HS HV hlt
      go_wp2
      refine bodyPost_end (results_none rfl _ _ _) rfl ?_
      exact ⟨rfl, HS3.out⟩
/-- slices.symMergeCmpFunc -/
def impl_Average.bs (P : Nat → Bool) : Nat → Nat → Nat → Nat
  | 0, i, _ => i
  | k + 1, i, j => if i < j then (if P ((i + j) / 2) = true then impl_Average.bs P k ((i + j) / 2 + 1) j else impl_Average.bs P k i ((i + j) / 2)) else i
theorem impl_Average.bs_done (P : Nat → Bool) (k i j : Nat) (h : ¬ i < j) : impl_Average.bs P k i j = i := by
  cases k with
  | zero => rfl
  | succ k => rw [impl_Average.bs, if_neg h]
def impl_Average.upS : Nat → Nat → (Nat → Int) → Nat → Int
  | 0, _, g => g
  | c + 1, k, g => impl_Average.upS c (k + 1) (impl_Average.sw g k (k + 1))
def impl_Average.dnS : Nat → Nat → (Nat → Int) → Nat → Int
  | 0, _, g => g
  | c + 1, k, g => impl_Average.dnS c (k - 1) (impl_Average.sw g k (k - 1))
def impl_Average.symR (rec : Nat → Nat → Nat → (Nat → Int) → Nat → Int) (a m b mid s : Nat) (g : Nat → Int) : Nat → Int :=
  let e := mid + m - s
  let g1 := if s < m ∧ m < e then impl_Average.rot m (e - s) (m - s) (e - m) g else g
  let g2 := if a < s ∧ s < mid then rec a s mid g1 else g1
  if mid < e ∧ e < b then rec mid e b g2 else g2
theorem impl_Average.symR_of (rec : Nat → Nat → Nat → (Nat → Int) → Nat → Int) (a m b mid s : Nat) (g g1 g2 g3 : Nat → Int) (e : Nat) (he : e = mid + m - s) (h1 : g1 = if s < m ∧ m < e then impl_Average.rot m (e - s) (m - s) (e - m) g else g) (h2 : g2 = if a < s ∧ s < mid then rec a s mid g1 else g1) (h3 : g3 = if mid < e ∧ e < b then rec mid e b g2 else g2) : impl_Average.symR rec a m b mid s g = g3 := by
  subst he h1 h2 h3
  rfl
def impl_Average.symM (cf : Int → Int → Int) : Nat → Nat → Nat → Nat → (Nat → Int) → Nat → Int
  | 0, _, _, _, g => g
  | k + 1, a, m, b, g =>
    if m - a = 1 then impl_Average.upS (impl_Average.bs (fun h => decide (cf (g h) (g a) < 0)) (b - m) m b - 1 - a) a g
    else if b - m = 1 then impl_Average.dnS (m - impl_Average.bs (fun h => !decide (cf (g m) (g h) < 0)) (m - a) a m) m g
    else if (a + b) / 2 < m then impl_Average.symR (impl_Average.symM cf k) a m b ((a + b) / 2) (impl_Average.bs (fun c => !decide (cf (g ((a + b) / 2 + m - 1 - c)) (g c) < 0)) ((a + b) / 2 - ((a + b) / 2 + m - b)) ((a + b) / 2 + m - b) ((a + b) / 2)) g
    else impl_Average.symR (impl_Average.symM cf k) a m b ((a + b) / 2) (impl_Average.bs (fun c => !decide (cf (g ((a + b) / 2 + m - 1 - c)) (g c) < 0)) (m - a) a m) g
def impl_Average.Sym (f n gd : Nat) (lb : Array Value) (cf : Int → Int → Int) (J : World → Prop) (K : Nat) : Prop := ∀ (W : World) (g : Nat → Int) (a m b : Int), 0 ≤ a → a < m → m < b → b ≤ n → (b - a).toNat ≤ K → impl_Average.SW n gd J W g →
    Calls Try.prog 24 #[.slice (some ⟨gd, 0, none⟩) n n, .int .i64 a, .int .i64 m, .int .i64 b, .func (.func f) #[] lb] W fun e w' => e = .returned (.tuple #[]) ∧ impl_Average.SW n gd J w' (impl_Average.symM cf K a.toNat m.toNat b.toNat g)
set_option maxHeartbeats 4000000 in
set_option maxRecDepth 100000 in
theorem impl_Average.sym1 (f n gd : Nat) (lb : Array Value) (cf : Int → Int → Int) (J : World → Prop) (C : impl_Average.Cmp f lb n gd cf J) (hn : n ≤ 1000) (K : Nat) (ih : impl_Average.Sym f n gd lb cf J K) (W : World) (g : Nat → Int) (a m b : Int) (ha : 0 ≤ a) (hm : a < m) (hb : m < b) (hbn : b ≤ n) (hK : (b - a).toNat ≤ K + 1) (hS : impl_Average.SW n gd J W g) (h1 : m - a = 1) :
    Calls Try.prog 24 #[.slice (some ⟨gd, 0, none⟩) n n, .int .i64 a, .int .i64 m, .int .i64 b, .func (.func f) #[] lb] W fun e w' => e = .returned (.tuple #[]) ∧ impl_Average.SW n gd J w' (impl_Average.symM cf (K + 1) a.toNat m.toNat b.toNat g) := by
  have hu := Try.underlying22
  have eg := C.eg
  have HA := Aside0.mk (And.intro hn (And.intro ha (And.intro hm (And.intro hb (And.intro hbn hK)))))
  have HS := Aside0.mk hS
  have HC := Aside0.mk C
  have IH := Aside0.mk ih
  have w1 : wrap64 (m - a) = m - a := by unfold wrap64; omega
  have w2 : wrap64 (b - m) = b - m := by unfold wrap64; omega
  have HW := Aside0.mk (And.intro w1 w2)
  clear hn ha hm hb hbn hK hS ih C
  have d0 : (wrap64 (m - a) == 1) = true := beq_iff_eq.2 (by rw [w1]; exact h1)
  have d1 : decide (wrap64 (m - a) = 1) = true := decide_eq_true (by rw [w1]; exact h1)
  have H1 := Aside0.mk h1
  have hsy : impl_Average.symM cf (K + 1) a.toNat m.toNat b.toNat g = impl_Average.upS (impl_Average.bs (fun h => decide (cf (g h) (g a.toNat) < 0)) (b - m).toNat m.toNat b.toNat - 1 - a.toNat) a.toNat g := by
    have := HA.out
    rw [impl_Average.symM, if_pos (by omega), show b.toNat - m.toNat = (b - m).toNat by omega]
  rw [hsy]
  clear hsy h1 w1 w2
  obtain ⟨P, hP⟩ : ∃ P : Nat → Bool, P = fun h => decide (cf (g h) (g a.toNat) < 0) := ⟨_, rfl⟩
  rw [← hP]
  have HP := Aside0.mk hP
  clear hP
  go_enter Try.func24, Try.ntmps24
  go_wp2
  go_loopg [10, 11] (b - m).toNat (fun gg vi_ vj_ wr => ∃ (i j : Int) (k : Nat), vi_ = .int .i64 i ∧ vj_ = .int .i64 j ∧ Aside0 (m ≤ i ∧ i ≤ j ∧ j ≤ b ∧ (j - i).toNat ≤ k ∧ (j - i).toNat ≤ gg) ∧ Aside0 (impl_Average.SW n gd J wr g) ∧ Aside0 (impl_Average.bs P k i.toNat j.toNat = impl_Average.bs P (b - m).toNat (m).toNat (b).toNat))
  case atStart => exact ⟨m, b, (b - m).toNat, (by first | rfl | simp [*]), (by first | rfl | simp [*]), ⟨by have := HA.out; skip; omega⟩, HS, ⟨rfl⟩⟩
  case round =>
    clear HS
    obtain ⟨i, j, k, rfl, rfl, HI, HS, HV⟩ := hrel
    by_cases hij : i < j
    · have f0 : decide (i < j) = true := decide_eq_true hij
      obtain ⟨k1, rfl⟩ : ∃ k1, k = k1 + 1 := ⟨k - 1, by have := HI.out; omega⟩
      obtain ⟨q, hq⟩ : ∃ q, q = (i + j) / 2 := ⟨_, rfl⟩
      have HQ := Aside0.mk (show i ≤ q ∧ q < j ∧ q.toNat = (i.toNat + j.toNat) / 2 ∧ 0 ≤ i ∧ (q + 1).toNat = q.toNat + 1 by have := HI.out; have := HA.out; skip; omega)
      have hw : wrap64 (IntKind.u64.wrap (wrap64 (i + j)) / 2) = q := by
        have := HI.out
        have := HA.out
        skip
        rw [show wrap64 (i + j) = i + j by unfold wrap64; omega, IntKind.wrap_u64, show (i + j) % 18446744073709551616 = i + j by omega, ← hq]
        unfold wrap64
        omega
      have hv := HV.out
      rw [impl_Average.bs, if_pos (show i.toNat < j.toNat by have := HI.out; have := HA.out; skip; omega), ← HQ.out.2.2.1] at hv
      have HB := Aside0.mk (show 0 ≤ q ∧ q < (n : Int) ∧ 0 ≤ a ∧ a < (n : Int) by have := HI.out; have := HQ.out; have := HA.out; skip; omega)
      have hca := HS.out.cell (q) HB.out.1 HB.out.2.1
      have hcb := HS.out.cell (a) HB.out.2.2.1 HB.out.2.2.2
      have HCL : Aside0 (∀ W, Drawn0 wr W → Calls Try.prog f (#[.int .i64 (g (q).toNat), .int .i64 (g (a).toNat)] ++ lb) W fun e w' => e = .returned (.int .i64 (cf (g (q).toNat) (g (a).toNat))) ∧ Drawn0 W w') := ⟨fun W hd => HC.out.cmp W _ _ (HS.out.drawn HC.out hd).inv (HS.out.rng _ (by have := HB.out; omega)).1 (HS.out.rng _ (by have := HB.out; omega)).2 (HS.out.rng _ (by have := HB.out; omega)).1 (HS.out.rng _ (by have := HB.out; omega)).2⟩
      have hpv : P q.toNat = decide (cf (g (q).toNat) (g (a).toNat) < 0) := by
        have := HI.out
        have := HQ.out
        have := HA.out
        skip
        rw [HP.out]
        skip
      obtain ⟨aj, haj⟩ : ∃ q_, q_ = (q).toNat := ⟨_, rfl⟩
      obtain ⟨bj, hbj⟩ : ∃ q_, q_ = (a).toNat := ⟨_, rfl⟩
      rw [← haj, ← hbj] at HCL
      have hpv2 : P q.toNat = decide (cf (g aj) (g bj) < 0) := by rw [hpv, haj, hbj]
      rw [hpv2] at hv
      rw [← haj] at hca
      rw [← hbj] at hcb
      have ea : (q).toNat = aj := haj.symm
      have eb : (a).toNat = bj := hbj.symm
      have p0 : (0 : Int) ≤ q := HB.out.1
      have p1 : (0 : Int) ≤ a := HB.out.2.2.1
      have b0 : q < (n : Int) := HB.out.2.1
      have b1 : a < (n : Int) := HB.out.2.2.2
      generalize cf (g aj) (g bj) = cv at HCL hv
      have HV2 := Aside0.mk hv
      clear haj hbj hij hpv hpv2 hv HV hq
      go_upto_region 5 with (fail)
      go_quiet (first | (go_at_fn f; (with_reducible refine (HCL.out _ (by repeat (first | exact Drawn0.refl _ | apply Drawn0.step))).mono ?_); rintro e w' ⟨rfl, ⟨⟨nd, rfl⟩⟩⟩; (first | exact ⟨rfl, _, World.drewN_drewN _ _ _⟩ | exact ⟨rfl, _, Eq.trans (World.drewN_drewN _ _ _) (congrArg (World.drewN _) (Nat.add_assoc _ _ _))⟩ | exact ⟨rfl, _, rfl⟩)))
      have HS2 := Aside0.mk (HS.out.drewN HC.out nq)
      clear HS HCL hca hcb
      generalize wr.drewN nq = w5 at HS2 ⊢
      have hv := HV2.out
      have hq1 : wrap64 (q + 1) = q + 1 := by have := HQ.out; have := HI.out; have := HA.out; skip; unfold wrap64; omega
      clear ea eb p0 p1 b0 b1
      by_cases hcv : cv < 0
      · have g0 : decide (cv < 0) = true := decide_eq_true hcv
        rw [g0, if_pos rfl] at hv
        rw [g0]
        have HV3 := Aside0.mk hv
        clear hv HV2 hcv g0
        go_wp2
        go_roundg (j - (q + 1)).toNat
        case measure => have := HQ.out; have := HI.out; omega
        case rel => exact ⟨q + 1, j, k1, (by first | rfl | (rw [hq1])), rfl, ⟨by have := HQ.out; have := HI.out; omega⟩, HS2, ⟨by rw [HQ.out.2.2.2.2]; exact HV3.out⟩⟩
      · have g0 : decide (cv < 0) = false := decide_eq_false hcv
        rw [g0, if_neg (by decide)] at hv
        rw [g0]
        have HV3 := Aside0.mk hv
        clear hv HV2 hcv g0
        go_wp2
        go_roundg (q - i).toNat
        case measure => have := HQ.out; have := HI.out; omega
        case rel => exact ⟨i, q, k1, rfl, (by first | rfl | (rw [hw])), ⟨by have := HQ.out; have := HI.out; omega⟩, HS2, HV3⟩
    · have f0 : decide (i < j) = false := decide_eq_false hij
      have hv := HV.out
      rw [impl_Average.bs_done _ _ _ _ (show ¬ i.toNat < j.toNat by have := HI.out; have := HA.out; skip; omega)] at hv
      have HV2 := Aside0.mk hv
      clear hv HV hij
      have wi : wrap64 (i - 1) = i - 1 := by have := HA.out; have := HI.out; unfold wrap64; omega
      go_wp2
      go_loopg [13] (i - 1 - a).toNat (fun gg v13 wr2 => ∃ (t : Int) (h : Nat → Int), v13 = .int .i64 t ∧ Aside0 (a ≤ t ∧ t ≤ i - 1 ∧ (i - 1 - t).toNat ≤ gg) ∧ Aside0 (impl_Average.SW n gd J wr2 h) ∧ Aside0 (impl_Average.upS (i - 1 - t).toNat t.toNat h = impl_Average.upS (impl_Average.bs P (b - m).toNat m.toNat b.toNat - 1 - a.toNat) a.toNat g))
      case atStart => exact ⟨a, g, rfl, ⟨by have := HA.out; have := HI.out; omega⟩, HS, ⟨by rw [← HV2.out, show i.toNat - 1 - a.toNat = (i - 1 - a).toNat by have := HA.out; have := HI.out; omega]⟩⟩
      case round =>
        clear HS
        obtain ⟨t, h, rfl, HT, HS, HU⟩ := hrel
        by_cases htl : t < i - 1
        · have HTL := Aside0.mk htl
          have g0 : decide (t < i - 1) = true := decide_eq_true htl
          clear htl
          have HB := Aside0.mk (show 0 ≤ t ∧ t < (n : Int) ∧ 0 ≤ t + 1 ∧ t + 1 < (n : Int) by have := HA.out; have := HI.out; have := HT.out; have := HTL.out; omega)
          have hca := HS.out.cell (t) HB.out.1 HB.out.2.1
          have hcb := HS.out.cell (t + 1) HB.out.2.2.1 HB.out.2.2.2
          have hfa := HS.out.frozen (t).toNat
          have hfb := HS.out.frozen (t + 1).toNat
          have HN := Aside0.mk (show (t).toNat < n ∧ (t + 1).toNat < n by have := HB.out; omega)
          obtain ⟨aj, haj⟩ : ∃ q_, q_ = (t).toNat := ⟨_, rfl⟩
          obtain ⟨bj, hbj⟩ : ∃ q_, q_ = (t + 1).toNat := ⟨_, rfl⟩
          have HE := Aside0.mk (And.intro haj hbj)
          rw [← haj] at hca hfa HN
          rw [← hbj] at hcb hfb HN
          have ea : (t).toNat = aj := haj.symm
          have eb : (t + 1).toNat = bj := hbj.symm
          obtain ⟨z, hz⟩ := HS.out.after aj bj HN.out.2 (h bj)
          have r1_ : IntKind.i64.wrap (t + 1) = t + 1 := by have := HA.out; have := HI.out; have := HT.out; have := HTL.out; rw [IntKind.wrap_i64]; omega
          have w1_ : wrap64 (t + 1) = t + 1 := by have := HA.out; have := HI.out; have := HT.out; have := HTL.out; unfold wrap64; omega
          have p0 : (0 : Int) ≤ t := HB.out.1
          have p1 : (0 : Int) ≤ t + 1 := HB.out.2.2.1
          have b0 : t < (n : Int) := HB.out.2.1
          have b1 : t + 1 < (n : Int) := HB.out.2.2.2
          clear haj hbj
          go_upto_region 11 with (fail)
          go_region
          have HS3 := Aside0.mk (HS.out.swap HC.out aj bj HN.out.1 HN.out.2)
          clear HS hca hcb hfa hfb hz
          generalize ((wr.setCell ⟨gd, aj, none⟩ (.int .i64 (h bj))).setCell ⟨gd, bj, none⟩ (.int .i64 (h aj))).drew = w9 at HS3 ⊢
          clear ea eb p0 p1 b0 b1 r1_ w1_
          have wt : wrap64 (t + 1) = t + 1 := by have := HA.out; have := HI.out; have := HT.out; have := HTL.out; unfold wrap64; omega
          go_wp2
          go_roundg (i - 1 - (t + 1)).toNat
          case measure => have := HT.out; have := HTL.out; omega
          case rel =>
            refine ⟨t + 1, _, (by first | rfl | (rw [wt])), ⟨by have := HT.out; have := HTL.out; omega⟩, HS3, ⟨?_⟩⟩
            have hu_ := HU.out
            rw [show (i - 1 - t).toNat = (i - 1 - (t + 1)).toNat + 1 by have := HTL.out; omega, impl_Average.upS] at hu_
            rw [← hu_, HE.out.1, HE.out.2, show (t + 1).toNat = t.toNat + 1 by have := HT.out; have := HA.out; omega]
        · have g0 : decide (t < i - 1) = false := decide_eq_false htl
          have hS := HS.out
          have hu_ := HU.out
          rw [show (i - 1 - t).toNat = 0 by omega, impl_Average.upS] at hu_
          rw [hu_] at hS
          have HS3 := Aside0.mk hS
          clear hS hu_ HS HU htl
          go_wp2
          refine bodyPost_ret (results_none rfl _ _ _) rfl ?_
          exact ⟨rfl, HS3.out⟩
set_option maxHeartbeats 4000000 in
set_option maxRecDepth 100000 in
theorem impl_Average.sym2 (f n gd : Nat) (lb : Array Value) (cf : Int → Int → Int) (J : World → Prop) (C : impl_Average.Cmp f lb n gd cf J) (hn : n ≤ 1000) (K : Nat) (ih : impl_Average.Sym f n gd lb cf J K) (W : World) (g : Nat → Int) (a m b : Int) (ha : 0 ≤ a) (hm : a < m) (hb : m < b) (hbn : b ≤ n) (hK : (b - a).toNat ≤ K + 1) (hS : impl_Average.SW n gd J W g) (h1 : ¬ m - a = 1) (h2 : b - m = 1) :
    Calls Try.prog 24 #[.slice (some ⟨gd, 0, none⟩) n n, .int .i64 a, .int .i64 m, .int .i64 b, .func (.func f) #[] lb] W fun e w' => e = .returned (.tuple #[]) ∧ impl_Average.SW n gd J w' (impl_Average.symM cf (K + 1) a.toNat m.toNat b.toNat g) := by
  have hu := Try.underlying22
  have eg := C.eg
  have HA := Aside0.mk (And.intro hn (And.intro ha (And.intro hm (And.intro hb (And.intro hbn hK)))))
  have HS := Aside0.mk hS
  have HC := Aside0.mk C
  have IH := Aside0.mk ih
  have w1 : wrap64 (m - a) = m - a := by unfold wrap64; omega
  have w2 : wrap64 (b - m) = b - m := by unfold wrap64; omega
  have HW := Aside0.mk (And.intro w1 w2)
  clear hn ha hm hb hbn hK hS ih C
  have d0 : (wrap64 (m - a) == 1) = false := beq_eq_false_iff_ne.2 (by rw [w1]; exact h1)
  have d1 : decide (wrap64 (m - a) = 1) = false := decide_eq_false (by rw [w1]; exact h1)
  have d2 : (wrap64 (b - m) == 1) = true := beq_iff_eq.2 (by rw [w2]; exact h2)
  have d3 : decide (wrap64 (b - m) = 1) = true := decide_eq_true (by rw [w2]; exact h2)
  have hsy : impl_Average.symM cf (K + 1) a.toNat m.toNat b.toNat g = impl_Average.dnS (m.toNat - impl_Average.bs (fun h => !decide (cf (g m.toNat) (g h) < 0)) (m - a).toNat a.toNat m.toNat) m.toNat g := by
    have := HA.out
    rw [impl_Average.symM, if_neg (by omega), if_pos (by omega), show m.toNat - a.toNat = (m - a).toNat by omega]
  rw [hsy]
  have H2 := Aside0.mk h2
  clear hsy h1 h2 w1 w2
  obtain ⟨P, hP⟩ : ∃ P : Nat → Bool, P = fun h => !decide (cf (g m.toNat) (g h) < 0) := ⟨_, rfl⟩
  rw [← hP]
  have HP := Aside0.mk hP
  clear hP
  go_enter Try.func24, Try.ntmps24
  go_wp2
  go_loopg [14, 15] (m - a).toNat (fun gg vi_ vj_ wr => ∃ (i j : Int) (k : Nat), vi_ = .int .i64 i ∧ vj_ = .int .i64 j ∧ Aside0 (a ≤ i ∧ i ≤ j ∧ j ≤ m ∧ (j - i).toNat ≤ k ∧ (j - i).toNat ≤ gg) ∧ Aside0 (impl_Average.SW n gd J wr g) ∧ Aside0 (impl_Average.bs P k i.toNat j.toNat = impl_Average.bs P (m - a).toNat (a).toNat (m).toNat))
  case atStart => exact ⟨a, m, (m - a).toNat, (by first | rfl | simp [*]), (by first | rfl | simp [*]), ⟨by have := HA.out; skip; omega⟩, HS, ⟨rfl⟩⟩
  case round =>
    clear HS
    obtain ⟨i, j, k, rfl, rfl, HI, HS, HV⟩ := hrel
    by_cases hij : i < j
    · have f0 : decide (i < j) = true := decide_eq_true hij
      obtain ⟨k1, rfl⟩ : ∃ k1, k = k1 + 1 := ⟨k - 1, by have := HI.out; omega⟩
      obtain ⟨q, hq⟩ : ∃ q, q = (i + j) / 2 := ⟨_, rfl⟩
      have HQ := Aside0.mk (show i ≤ q ∧ q < j ∧ q.toNat = (i.toNat + j.toNat) / 2 ∧ 0 ≤ i ∧ (q + 1).toNat = q.toNat + 1 by have := HI.out; have := HA.out; skip; omega)
      have hw : wrap64 (IntKind.u64.wrap (wrap64 (i + j)) / 2) = q := by
        have := HI.out
        have := HA.out
        skip
        rw [show wrap64 (i + j) = i + j by unfold wrap64; omega, IntKind.wrap_u64, show (i + j) % 18446744073709551616 = i + j by omega, ← hq]
        unfold wrap64
        omega
      have hv := HV.out
      rw [impl_Average.bs, if_pos (show i.toNat < j.toNat by have := HI.out; have := HA.out; skip; omega), ← HQ.out.2.2.1] at hv
      have HB := Aside0.mk (show 0 ≤ m ∧ m < (n : Int) ∧ 0 ≤ q ∧ q < (n : Int) by have := HI.out; have := HQ.out; have := HA.out; skip; omega)
      have hca := HS.out.cell (m) HB.out.1 HB.out.2.1
      have hcb := HS.out.cell (q) HB.out.2.2.1 HB.out.2.2.2
      have HCL : Aside0 (∀ W, Drawn0 wr W → Calls Try.prog f (#[.int .i64 (g (m).toNat), .int .i64 (g (q).toNat)] ++ lb) W fun e w' => e = .returned (.int .i64 (cf (g (m).toNat) (g (q).toNat))) ∧ Drawn0 W w') := ⟨fun W hd => HC.out.cmp W _ _ (HS.out.drawn HC.out hd).inv (HS.out.rng _ (by have := HB.out; omega)).1 (HS.out.rng _ (by have := HB.out; omega)).2 (HS.out.rng _ (by have := HB.out; omega)).1 (HS.out.rng _ (by have := HB.out; omega)).2⟩
      have hpv : P q.toNat = !decide (cf (g (m).toNat) (g (q).toNat) < 0) := by
        have := HI.out
        have := HQ.out
        have := HA.out
        skip
        rw [HP.out]
        skip
      obtain ⟨aj, haj⟩ : ∃ q_, q_ = (m).toNat := ⟨_, rfl⟩
      obtain ⟨bj, hbj⟩ : ∃ q_, q_ = (q).toNat := ⟨_, rfl⟩
      rw [← haj, ← hbj] at HCL
      have hpv2 : P q.toNat = !decide (cf (g aj) (g bj) < 0) := by rw [hpv, haj, hbj]
      rw [hpv2] at hv
      rw [← haj] at hca
      rw [← hbj] at hcb
      have ea : (m).toNat = aj := haj.symm
      have eb : (q).toNat = bj := hbj.symm
      have p0 : (0 : Int) ≤ m := HB.out.1
      have p1 : (0 : Int) ≤ q := HB.out.2.2.1
      have b0 : m < (n : Int) := HB.out.2.1
      have b1 : q < (n : Int) := HB.out.2.2.2
      generalize cf (g aj) (g bj) = cv at HCL hv
      have HV2 := Aside0.mk hv
      clear haj hbj hij hpv hpv2 hv HV hq
      go_upto_region 17 with (fail)
      go_quiet (first | (go_at_fn f; (with_reducible refine (HCL.out _ (by repeat (first | exact Drawn0.refl _ | apply Drawn0.step))).mono ?_); rintro e w' ⟨rfl, ⟨⟨nd, rfl⟩⟩⟩; (first | exact ⟨rfl, _, World.drewN_drewN _ _ _⟩ | exact ⟨rfl, _, Eq.trans (World.drewN_drewN _ _ _) (congrArg (World.drewN _) (Nat.add_assoc _ _ _))⟩ | exact ⟨rfl, _, rfl⟩)))
      have HS2 := Aside0.mk (HS.out.drewN HC.out nq)
      clear HS HCL hca hcb
      generalize wr.drewN nq = w5 at HS2 ⊢
      have hv := HV2.out
      have hq1 : wrap64 (q + 1) = q + 1 := by have := HQ.out; have := HI.out; have := HA.out; skip; unfold wrap64; omega
      clear ea eb p0 p1 b0 b1
      by_cases hcv : cv < 0
      · have g0 : decide (cv < 0) = true := decide_eq_true hcv
        rw [g0, if_neg (by decide)] at hv
        rw [g0]
        have HV3 := Aside0.mk hv
        clear hv HV2 hcv g0
        go_wp2
        go_roundg (q - i).toNat
        case measure => have := HQ.out; have := HI.out; omega
        case rel => exact ⟨i, q, k1, rfl, (by first | rfl | (rw [hw])), ⟨by have := HQ.out; have := HI.out; omega⟩, HS2, HV3⟩
      · have g0 : decide (cv < 0) = false := decide_eq_false hcv
        rw [g0, if_pos (by decide)] at hv
        rw [g0]
        have HV3 := Aside0.mk hv
        clear hv HV2 hcv g0
        go_wp2
        go_roundg (j - (q + 1)).toNat
        case measure => have := HQ.out; have := HI.out; omega
        case rel => exact ⟨q + 1, j, k1, (by first | rfl | (rw [hq1])), rfl, ⟨by have := HQ.out; have := HI.out; omega⟩, HS2, ⟨by rw [HQ.out.2.2.2.2]; exact HV3.out⟩⟩
    · have f0 : decide (i < j) = false := decide_eq_false hij
      have hv := HV.out
      rw [impl_Average.bs_done _ _ _ _ (show ¬ i.toNat < j.toNat by have := HI.out; have := HA.out; skip; omega)] at hv
      have HV2 := Aside0.mk hv
      clear hv HV hij
      go_wp2
      go_loopg [17] (m - i).toNat (fun gg v17 wr2 => ∃ (t : Int) (h : Nat → Int), v17 = .int .i64 t ∧ Aside0 (i ≤ t ∧ t ≤ m ∧ (t - i).toNat ≤ gg) ∧ Aside0 (impl_Average.SW n gd J wr2 h) ∧ Aside0 (impl_Average.dnS (t - i).toNat t.toNat h = impl_Average.dnS (m.toNat - impl_Average.bs P (m - a).toNat a.toNat m.toNat) m.toNat g))
      case atStart => exact ⟨m, g, rfl, ⟨by have := HA.out; have := HI.out; omega⟩, HS, ⟨by rw [← HV2.out, show m.toNat - i.toNat = (m - i).toNat by have := HA.out; have := HI.out; omega]⟩⟩
      case round =>
        clear HS
        obtain ⟨t, h, rfl, HT, HS, HU⟩ := hrel
        by_cases htl : i < t
        · have HTL := Aside0.mk htl
          have g0 : decide (t > i) = true := decide_eq_true htl
          have g1 : decide (i < t) = true := decide_eq_true htl
          clear htl
          have HB := Aside0.mk (show 0 ≤ t ∧ t < (n : Int) ∧ 0 ≤ t - 1 ∧ t - 1 < (n : Int) by have := HA.out; have := HI.out; have := HT.out; have := HTL.out; omega)
          have hca := HS.out.cell (t) HB.out.1 HB.out.2.1
          have hcb := HS.out.cell (t - 1) HB.out.2.2.1 HB.out.2.2.2
          have hfa := HS.out.frozen (t).toNat
          have hfb := HS.out.frozen (t - 1).toNat
          have HN := Aside0.mk (show (t).toNat < n ∧ (t - 1).toNat < n by have := HB.out; omega)
          obtain ⟨aj, haj⟩ : ∃ q_, q_ = (t).toNat := ⟨_, rfl⟩
          obtain ⟨bj, hbj⟩ : ∃ q_, q_ = (t - 1).toNat := ⟨_, rfl⟩
          have HE := Aside0.mk (And.intro haj hbj)
          rw [← haj] at hca hfa HN
          rw [← hbj] at hcb hfb HN
          have ea : (t).toNat = aj := haj.symm
          have eb : (t - 1).toNat = bj := hbj.symm
          obtain ⟨z, hz⟩ := HS.out.after aj bj HN.out.2 (h bj)
          have r1_ : IntKind.i64.wrap (t - 1) = t - 1 := by have := HA.out; have := HI.out; have := HT.out; have := HTL.out; rw [IntKind.wrap_i64]; omega
          have w1_ : wrap64 (t - 1) = t - 1 := by have := HA.out; have := HI.out; have := HT.out; have := HTL.out; unfold wrap64; omega
          have p0 : (0 : Int) ≤ t := HB.out.1
          have p1 : (0 : Int) ≤ t - 1 := HB.out.2.2.1
          have b0 : t < (n : Int) := HB.out.2.1
          have b1 : t - 1 < (n : Int) := HB.out.2.2.2
          have eb2 : t.toNat - 1 = bj := by omega
          have eb3 : aj - 1 = bj := by omega
          have p2 : (1 : Int) ≤ t := by omega
          have b2 : t < (n : Int) + 1 := by omega
          clear haj hbj
          go_upto_region 23 with (fail)
          go_region
          have HS3 := Aside0.mk (HS.out.swap HC.out aj bj HN.out.1 HN.out.2)
          clear HS hca hcb hfa hfb hz
          generalize ((wr.setCell ⟨gd, aj, none⟩ (.int .i64 (h bj))).setCell ⟨gd, bj, none⟩ (.int .i64 (h aj))).drew = w9 at HS3 ⊢
          clear ea eb p0 p1 b0 b1 r1_ w1_
          have wt : wrap64 (t - 1) = t - 1 := by have := HA.out; have := HI.out; have := HT.out; have := HTL.out; unfold wrap64; omega
          go_wp2
          go_roundg (t - 1 - i).toNat
          case measure => have := HT.out; have := HTL.out; omega
          case rel =>
            refine ⟨t - 1, _, (by first | rfl | (rw [wt])), ⟨by have := HT.out; have := HTL.out; omega⟩, HS3, ⟨?_⟩⟩
            have hu_ := HU.out
            rw [show (t - i).toNat = (t - 1 - i).toNat + 1 by have := HTL.out; omega, impl_Average.dnS] at hu_
            rw [← hu_, HE.out.1, HE.out.2, show t.toNat - 1 = (t - 1).toNat by have := HT.out; have := HA.out; omega]
        · have g0 : decide (t > i) = false := decide_eq_false htl
          have g1 : decide (i < t) = false := decide_eq_false htl
          have hS := HS.out
          have hu_ := HU.out
          rw [show (t - i).toNat = 0 by omega, impl_Average.dnS] at hu_
          rw [hu_] at hS
          have HS3 := Aside0.mk hS
          clear hS hu_ HS HU htl
          go_wp2
          refine bodyPost_ret (results_none rfl _ _ _) rfl ?_
          exact ⟨rfl, HS3.out⟩
set_option maxHeartbeats 4000000 in
set_option maxRecDepth 100000 in
theorem impl_Average.sym3 (f n gd : Nat) (lb : Array Value) (cf : Int → Int → Int) (J : World → Prop) (C : impl_Average.Cmp f lb n gd cf J) (hn : n ≤ 1000) (K : Nat) (ih : impl_Average.Sym f n gd lb cf J K) (W : World) (g : Nat → Int) (a m b : Int) (ha : 0 ≤ a) (hm : a < m) (hb : m < b) (hbn : b ≤ n) (hK : (b - a).toNat ≤ K + 1) (hS : impl_Average.SW n gd J W g) (h1 : ¬ m - a = 1) (h2 : ¬ b - m = 1) (h3 : (a + b) / 2 < m) :
    Calls Try.prog 24 #[.slice (some ⟨gd, 0, none⟩) n n, .int .i64 a, .int .i64 m, .int .i64 b, .func (.func f) #[] lb] W fun e w' => e = .returned (.tuple #[]) ∧ impl_Average.SW n gd J w' (impl_Average.symM cf (K + 1) a.toNat m.toNat b.toNat g) := by
  have hu := Try.underlying22
  have eg := C.eg
  have HA := Aside0.mk (And.intro hn (And.intro ha (And.intro hm (And.intro hb (And.intro hbn hK)))))
  have HS := Aside0.mk hS
  have HC := Aside0.mk C
  have IH := Aside0.mk ih
  have w1 : wrap64 (m - a) = m - a := by unfold wrap64; omega
  have w2 : wrap64 (b - m) = b - m := by unfold wrap64; omega
  have HW := Aside0.mk (And.intro w1 w2)
  clear hn ha hm hb hbn hK hS ih C
  have d0 : (wrap64 (m - a) == 1) = false := beq_eq_false_iff_ne.2 (by rw [w1]; exact h1)
  have d1 : decide (wrap64 (m - a) = 1) = false := decide_eq_false (by rw [w1]; exact h1)
  have d2 : (wrap64 (b - m) == 1) = false := beq_eq_false_iff_ne.2 (by rw [w2]; exact h2)
  have d3 : decide (wrap64 (b - m) = 1) = false := decide_eq_false (by rw [w2]; exact h2)
  obtain ⟨Q, hQ⟩ : ∃ Q, Q = (a + b) / 2 := ⟨_, rfl⟩
  obtain ⟨N, hN⟩ : ∃ N, N = Q + m := ⟨_, rfl⟩
  have HA2 := Aside0.mk (show a < Q ∧ Q < b ∧ N = Q + m ∧ Q = (a + b) / 2 ∧ Q.toNat = (a.toNat + b.toNat) / 2 ∧ N.toNat = Q.toNat + m.toNat by have := HA.out; omega)
  have hwQ : wrap64 (IntKind.u64.wrap (wrap64 (a + b)) / 2) = Q := by
    have := HA.out
    rw [show wrap64 (a + b) = a + b by unfold wrap64; omega, IntKind.wrap_u64, show (a + b) % 18446744073709551616 = a + b by omega, ← hQ]
    have := HA2.out
    unfold wrap64
    omega
  have hwN : wrap64 (Q + m) = N := by have := HA.out; have := HA2.out; unfold wrap64; omega
  have hwb : wrap64 (N - b) = N - b := by have := HA.out; have := HA2.out; unfold wrap64; omega
  have hwp : wrap64 (N - 1) = N - 1 := by have := HA.out; have := HA2.out; unfold wrap64; omega
  rw [← hQ] at h3
  have d4 : decide (m > Q) = true := decide_eq_true h3
  have d5 : decide (Q < m) = true := decide_eq_true h3
  have hsy : impl_Average.symM cf (K + 1) a.toNat m.toNat b.toNat g = impl_Average.symR (impl_Average.symM cf K) a.toNat m.toNat b.toNat Q.toNat (impl_Average.bs (fun c => !decide (cf (g (N.toNat - 1 - c)) (g c) < 0)) (Q - (N - b)).toNat (N - b).toNat Q.toNat) g := by
    have := HA.out
    have := HA2.out
    rw [impl_Average.symM, if_neg (by omega), if_neg (by omega), if_pos (by omega), ← HA2.out.2.2.2.2.1, ← HA2.out.2.2.2.2.2, show N.toNat - b.toNat = (N - b).toNat by omega, show Q.toNat - (N - b).toNat = (Q - (N - b)).toNat by omega]
  rw [hsy]
  have HS0 := Aside0.mk (show 0 ≤ N - b ∧ a ≤ N - b ∧ Q ≤ m by have := HA.out; have := HA2.out; omega)
  have HS1 := Aside0.mk (show ∀ q : Int, N - b ≤ q → q < Q → 0 ≤ N - 1 - q ∧ N - 1 - q < (n : Int) by intro q _ _; have := HA.out; have := HA2.out; omega)
  clear hsy h1 h2 h3 w1 w2 hQ hN
  obtain ⟨P, hP⟩ : ∃ P : Nat → Bool, P = fun c => !decide (cf (g (N.toNat - 1 - c)) (g c) < 0) := ⟨_, rfl⟩
  rw [← hP]
  have HP := Aside0.mk hP
  clear hP
  go_enter Try.func24, Try.ntmps24
  go_wp2
  go_loopg [20, 21] (Q - (N - b)).toNat (fun gg vi_ vj_ wr => ∃ (i j : Int) (k : Nat), vi_ = .int .i64 i ∧ vj_ = .int .i64 j ∧ Aside0 ((N - b) ≤ i ∧ i ≤ j ∧ j ≤ Q ∧ (j - i).toNat ≤ k ∧ (j - i).toNat ≤ gg) ∧ Aside0 (impl_Average.SW n gd J wr g) ∧ Aside0 (impl_Average.bs P k i.toNat j.toNat = impl_Average.bs P (Q - (N - b)).toNat ((N - b)).toNat (Q).toNat))
  case atStart => exact ⟨(N - b), Q, (Q - (N - b)).toNat, (by first | rfl | simp [*]), (by first | rfl | simp [*]), ⟨by have := HA.out; have := HA2.out; have := HS0.out; omega⟩, HS, ⟨rfl⟩⟩
  case round =>
    clear HS
    obtain ⟨i, j, k, rfl, rfl, HI, HS, HV⟩ := hrel
    by_cases hij : i < j
    · have f0 : decide (i < j) = true := decide_eq_true hij
      obtain ⟨k1, rfl⟩ : ∃ k1, k = k1 + 1 := ⟨k - 1, by have := HI.out; omega⟩
      obtain ⟨q, hq⟩ : ∃ q, q = (i + j) / 2 := ⟨_, rfl⟩
      have HQ := Aside0.mk (show i ≤ q ∧ q < j ∧ q.toNat = (i.toNat + j.toNat) / 2 ∧ 0 ≤ i ∧ (q + 1).toNat = q.toNat + 1 by have := HI.out; have := HA.out; have := HA2.out; have := HS0.out; omega)
      have hw : wrap64 (IntKind.u64.wrap (wrap64 (i + j)) / 2) = q := by
        have := HI.out
        have := HA.out
        have := HA2.out; have := HS0.out
        rw [show wrap64 (i + j) = i + j by unfold wrap64; omega, IntKind.wrap_u64, show (i + j) % 18446744073709551616 = i + j by omega, ← hq]
        unfold wrap64
        omega
      have hv := HV.out
      rw [impl_Average.bs, if_pos (show i.toNat < j.toNat by have := HI.out; have := HA.out; have := HA2.out; have := HS0.out; omega), ← HQ.out.2.2.1] at hv
      have HB := Aside0.mk (show 0 ≤ N - 1 - q ∧ N - 1 - q < (n : Int) ∧ 0 ≤ q ∧ q < (n : Int) by have := HI.out; have := HQ.out; have := HA.out; have := HA2.out; have := HS0.out; omega)
      have hca := HS.out.cell (N - 1 - q) HB.out.1 HB.out.2.1
      have hcb := HS.out.cell (q) HB.out.2.2.1 HB.out.2.2.2
      have HCL : Aside0 (∀ W, Drawn0 wr W → Calls Try.prog f (#[.int .i64 (g (N - 1 - q).toNat), .int .i64 (g (q).toNat)] ++ lb) W fun e w' => e = .returned (.int .i64 (cf (g (N - 1 - q).toNat) (g (q).toNat))) ∧ Drawn0 W w') := ⟨fun W hd => HC.out.cmp W _ _ (HS.out.drawn HC.out hd).inv (HS.out.rng _ (by have := HB.out; omega)).1 (HS.out.rng _ (by have := HB.out; omega)).2 (HS.out.rng _ (by have := HB.out; omega)).1 (HS.out.rng _ (by have := HB.out; omega)).2⟩
      have hpv : P q.toNat = !decide (cf (g (N - 1 - q).toNat) (g (q).toNat) < 0) := by
        have := HI.out
        have := HQ.out
        have := HA.out
        have := HA2.out; have := HS0.out
        rw [HP.out]
        show (!decide (cf (g (N.toNat - 1 - q.toNat)) (g q.toNat) < 0)) = _; rw [show N.toNat - 1 - q.toNat = (N - 1 - q).toNat by omega]
      obtain ⟨aj, haj⟩ : ∃ q_, q_ = (N - 1 - q).toNat := ⟨_, rfl⟩
      obtain ⟨bj, hbj⟩ : ∃ q_, q_ = (q).toNat := ⟨_, rfl⟩
      rw [← haj, ← hbj] at HCL
      have hpv2 : P q.toNat = !decide (cf (g aj) (g bj) < 0) := by rw [hpv, haj, hbj]
      rw [hpv2] at hv
      rw [← haj] at hca
      rw [← hbj] at hcb
      have ea : (N - 1 - q).toNat = aj := haj.symm
      have eb : (q).toNat = bj := hbj.symm
      have rx : IntKind.i64.wrap (N - 1 - q) = N - 1 - q := by have := HA.out; have := HQ.out; have := HI.out; have := HA2.out; have := HS0.out; rw [IntKind.wrap_i64]; omega
      have wx : wrap64 (N - 1 - q) = N - 1 - q := by have := HA.out; have := HQ.out; have := HI.out; have := HA2.out; have := HS0.out; unfold wrap64; omega
      have p0 : (0 : Int) ≤ N - 1 - q := HB.out.1
      have p1 : (0 : Int) ≤ q := HB.out.2.2.1
      have b0 : N - 1 - q < (n : Int) := HB.out.2.1
      have b1 : q < (n : Int) := HB.out.2.2.2
      generalize cf (g aj) (g bj) = cv at HCL hv
      have HV2 := Aside0.mk hv
      clear haj hbj hij hpv hpv2 hv HV hq
      go_upto_region 35 with (fail)
      go_quiet (first | (go_at_fn f; (with_reducible refine (HCL.out _ (by repeat (first | exact Drawn0.refl _ | apply Drawn0.step))).mono ?_); rintro e w' ⟨rfl, ⟨⟨nd, rfl⟩⟩⟩; (first | exact ⟨rfl, _, World.drewN_drewN _ _ _⟩ | exact ⟨rfl, _, Eq.trans (World.drewN_drewN _ _ _) (congrArg (World.drewN _) (Nat.add_assoc _ _ _))⟩ | exact ⟨rfl, _, rfl⟩)))
      have HS2 := Aside0.mk (HS.out.drewN HC.out nq)
      clear HS HCL hca hcb
      generalize wr.drewN nq = w5 at HS2 ⊢
      have hv := HV2.out
      have hq1 : wrap64 (q + 1) = q + 1 := by have := HQ.out; have := HI.out; have := HA.out; have := HA2.out; have := HS0.out; unfold wrap64; omega
      clear ea eb p0 p1 b0 b1 rx wx
      by_cases hcv : cv < 0
      · have g0 : decide (cv < 0) = true := decide_eq_true hcv
        rw [g0, if_neg (by decide)] at hv
        rw [g0]
        have HV3 := Aside0.mk hv
        clear hv HV2 hcv g0
        go_wp2
        go_roundg (q - i).toNat
        case measure => have := HQ.out; have := HI.out; omega
        case rel => exact ⟨i, q, k1, rfl, (by first | rfl | (rw [hw])), ⟨by have := HQ.out; have := HI.out; omega⟩, HS2, HV3⟩
      · have g0 : decide (cv < 0) = false := decide_eq_false hcv
        rw [g0, if_pos (by decide)] at hv
        rw [g0]
        have HV3 := Aside0.mk hv
        clear hv HV2 hcv g0
        go_wp2
        go_roundg (j - (q + 1)).toNat
        case measure => have := HQ.out; have := HI.out; omega
        case rel => exact ⟨q + 1, j, k1, (by first | rfl | (rw [hq1])), rfl, ⟨by have := HQ.out; have := HI.out; omega⟩, HS2, ⟨by rw [HQ.out.2.2.2.2]; exact HV3.out⟩⟩
    · have f0 : decide (i < j) = false := decide_eq_false hij
      have hv := HV.out
      rw [impl_Average.bs_done _ _ _ _ (show ¬ i.toNat < j.toNat by have := HI.out; have := HA.out; have := HA2.out; have := HS0.out; omega)] at hv
      have HV2 := Aside0.mk hv
      clear hv HV hij
      obtain ⟨E, hE⟩ : ∃ E, E = N - i := ⟨_, rfl⟩
      have HG := Aside0.mk (show 0 ≤ E ∧ E ≤ b ∧ E.toNat = Q.toNat + m.toNat - i.toNat ∧ a ≤ i ∧ i ≤ m ∧ i ≤ Q by have := HA.out; have := HA2.out; have := HS0.out; have := HI.out; omega)
      have wE : wrap64 (N - i) = E := by have := HA.out; have := HA2.out; have := HG.out; unfold wrap64; omega
      clear hE
      go_upto_region 39 with (fail)
      try simp only [hwQ, hwN, hwp, hwb, wE]
      go_cut [185] from 178 to 185 (fun v wc => v = .bool (decide (i < m) && decide (m < E)) ∧ Aside0 (impl_Average.SW n gd J wc g))
      case first =>
        by_cases e1 : i < m
        · have f1 : decide (i < m) = true := decide_eq_true e1
          by_cases e2 : m < E
          · have f2 : decide (m < E) = true := decide_eq_true e2
            go_wp2
            go_meet
            case rel => exact ⟨by first | rfl | simp [*], HS⟩
          · have f2 : decide (m < E) = false := decide_eq_false e2
            go_wp2
            go_meet
            case rel => exact ⟨by first | rfl | simp [*], HS⟩
        · have f1 : decide (i < m) = false := decide_eq_false e1
          go_wp2
          go_meet
          case rel => exact ⟨by first | rfl | simp [*], HS⟩
      case rest =>
      clear HS
      obtain ⟨ec_, HS⟩ := hcut
      go_upto_if 185 with (fail)
      go_cut [] from 185 to 191 (fun wc => ∃ g1 : Nat → Int, Aside0 (g1 = if i.toNat < m.toNat ∧ m.toNat < E.toNat then impl_Average.rot m.toNat (E.toNat - i.toNat) (m.toNat - i.toNat) (E.toNat - m.toNat) g else g) ∧ Aside0 (impl_Average.SW n gd J wc g1))
      case first =>
        by_cases hc : i < m ∧ m < E
        · rw [show (decide (i < m) && decide (m < E)) = true by simp [hc]] at ec_
          subst ec_
          have HCC := Aside0.mk hc
          clear hc
          go_wp2_with ((go_at_call 25; refine (impl_Average.rotate f n gd lb cf J HC.out HA.out.1 _ g i m E (by have := HA.out; have := HA2.out; have := HG.out; have := HCC.out; omega) (by have := HA.out; have := HA2.out; have := HG.out; have := HCC.out; omega) (by have := HA.out; have := HA2.out; have := HG.out; have := HCC.out; omega) (by have := HA.out; have := HA2.out; have := HG.out; have := HCC.out; omega) HS.out).mono ?_; rintro e w3 ⟨rfl, hs⟩; clear HS; have HS := Aside0.mk hs; clear hs))
          go_meet
          case rel => exact ⟨_, ⟨by rw [if_pos (by have := HA.out; have := HA2.out; have := HG.out; have := HCC.out; omega), show (E - i).toNat = E.toNat - i.toNat by have := HA.out; have := HA2.out; have := HG.out; have := HCC.out; omega, show (m - i).toNat = m.toNat - i.toNat by have := HA.out; have := HA2.out; have := HG.out; have := HCC.out; omega, show (E - m).toNat = E.toNat - m.toNat by have := HA.out; have := HA2.out; have := HG.out; have := HCC.out; omega]⟩, HS⟩
        · rw [show (decide (i < m) && decide (m < E)) = false by rw [Bool.and_eq_false_iff, decide_eq_false_iff_not, decide_eq_false_iff_not]; omega] at ec_
          subst ec_
          have HCC := Aside0.mk hc
          clear hc
          go_wp2
          go_meet
          case rel => exact ⟨_, ⟨by rw [if_neg (by have := HA.out; have := HA2.out; have := HG.out; have := HCC.out; omega)]⟩, HS⟩
      case rest =>
      clear HS ec_
      obtain ⟨g1, HG1, HS⟩ := hcut
      go_upto_region 41 with (fail)
      try simp only [hwQ, hwN, hwp, hwb, wE]
      go_cut [199] from 192 to 199 (fun v wc => v = .bool (decide (a < i) && decide (i < Q)) ∧ Aside0 (impl_Average.SW n gd J wc g1))
      case first =>
        by_cases e1 : a < i
        · have f1 : decide (a < i) = true := decide_eq_true e1
          by_cases e2 : i < Q
          · have f2 : decide (i < Q) = true := decide_eq_true e2
            go_wp2
            go_meet
            case rel => exact ⟨by first | rfl | simp [*], HS⟩
          · have f2 : decide (i < Q) = false := decide_eq_false e2
            go_wp2
            go_meet
            case rel => exact ⟨by first | rfl | simp [*], HS⟩
        · have f1 : decide (a < i) = false := decide_eq_false e1
          go_wp2
          go_meet
          case rel => exact ⟨by first | rfl | simp [*], HS⟩
      case rest =>
      clear HS
      obtain ⟨ec_, HS⟩ := hcut
      go_upto_if 199 with (fail)
      go_cut [] from 199 to 205 (fun wc => ∃ g2 : Nat → Int, Aside0 (g2 = if a.toNat < i.toNat ∧ i.toNat < Q.toNat then impl_Average.symM cf K a.toNat i.toNat Q.toNat g1 else g1) ∧ Aside0 (impl_Average.SW n gd J wc g2))
      case first =>
        by_cases hc : a < i ∧ i < Q
        · rw [show (decide (a < i) && decide (i < Q)) = true by simp [hc]] at ec_
          subst ec_
          have HCC := Aside0.mk hc
          clear hc
          go_wp2_with ((go_at_call 24; refine (IH.out _ g1 a i Q (by have := HA.out; have := HA2.out; have := HG.out; have := HCC.out; omega) (by have := HA.out; have := HA2.out; have := HG.out; have := HCC.out; omega) (by have := HA.out; have := HA2.out; have := HG.out; have := HCC.out; omega) (by have := HA.out; have := HA2.out; have := HG.out; have := HCC.out; omega) (by have := HA.out; have := HA2.out; have := HG.out; have := HCC.out; omega) HS.out).mono ?_; rintro e w3 ⟨rfl, hs⟩; clear HS; have HS := Aside0.mk hs; clear hs))
          go_meet
          case rel => exact ⟨_, ⟨by rw [if_pos (by have := HA.out; have := HA2.out; have := HG.out; have := HCC.out; omega)]⟩, HS⟩
        · rw [show (decide (a < i) && decide (i < Q)) = false by rw [Bool.and_eq_false_iff, decide_eq_false_iff_not, decide_eq_false_iff_not]; omega] at ec_
          subst ec_
          have HCC := Aside0.mk hc
          clear hc
          go_wp2
          go_meet
          case rel => exact ⟨_, ⟨by rw [if_neg (by have := HA.out; have := HA2.out; have := HG.out; have := HCC.out; omega)]⟩, HS⟩
      case rest =>
      clear HS ec_
      obtain ⟨g2, HG2, HS⟩ := hcut
      go_upto_region 43 with (fail)
      try simp only [hwQ, hwN, hwp, hwb, wE]
      go_cut [213] from 206 to 213 (fun v wc => v = .bool (decide (Q < E) && decide (E < b)) ∧ Aside0 (impl_Average.SW n gd J wc g2))
      case first =>
        by_cases e1 : Q < E
        · have f1 : decide (Q < E) = true := decide_eq_true e1
          by_cases e2 : E < b
          · have f2 : decide (E < b) = true := decide_eq_true e2
            go_wp2
            go_meet
            case rel => exact ⟨by first | rfl | simp [*], HS⟩
          · have f2 : decide (E < b) = false := decide_eq_false e2
            go_wp2
            go_meet
            case rel => exact ⟨by first | rfl | simp [*], HS⟩
        · have f1 : decide (Q < E) = false := decide_eq_false e1
          go_wp2
          go_meet
          case rel => exact ⟨by first | rfl | simp [*], HS⟩
      case rest =>
      clear HS
      obtain ⟨ec_, HS⟩ := hcut
      by_cases hc : Q < E ∧ E < b
      · rw [show (decide (Q < E) && decide (E < b)) = true by simp [hc]] at ec_
        subst ec_
        have HCC := Aside0.mk hc
        clear hc
        have HG3 := Aside0.mk (show impl_Average.symM cf K Q.toNat E.toNat b.toNat g2 = if Q.toNat < E.toNat ∧ E.toNat < b.toNat then impl_Average.symM cf K Q.toNat E.toNat b.toNat g2 else g2 by rw [if_pos (by have := HA.out; have := HA2.out; have := HG.out; have := HCC.out; omega)])
        go_wp2_with ((go_at_call 24; refine (IH.out _ g2 Q E b (by have := HA.out; have := HA2.out; have := HG.out; have := HCC.out; omega) (by have := HA.out; have := HA2.out; have := HG.out; have := HCC.out; omega) (by have := HA.out; have := HA2.out; have := HG.out; have := HCC.out; omega) (by have := HA.out; have := HA2.out; have := HG.out; have := HCC.out; omega) (by have := HA.out; have := HA2.out; have := HG.out; have := HCC.out; omega) HS.out).mono ?_; rintro e w3 ⟨rfl, hs⟩; clear HS; have HS := Aside0.mk hs; clear hs))
        refine bodyPost_end (results_none rfl _ _ _) rfl ?_
        refine ⟨rfl, ?_⟩
        rw [← HV2.out, impl_Average.symR_of _ a.toNat m.toNat b.toNat Q.toNat i.toNat g g1 g2 _ E.toNat HG.out.2.2.1 HG1.out HG2.out HG3.out]
        exact HS.out
      · rw [show (decide (Q < E) && decide (E < b)) = false by rw [Bool.and_eq_false_iff, decide_eq_false_iff_not, decide_eq_false_iff_not]; omega] at ec_
        subst ec_
        have HCC := Aside0.mk hc
        clear hc
        have HG3 := Aside0.mk (show g2 = if Q.toNat < E.toNat ∧ E.toNat < b.toNat then impl_Average.symM cf K Q.toNat E.toNat b.toNat g2 else g2 by rw [if_neg (by have := HA.out; have := HA2.out; have := HG.out; have := HCC.out; omega)])
        go_wp2
        refine bodyPost_end (results_none rfl _ _ _) rfl ?_
        refine ⟨rfl, ?_⟩
        rw [← HV2.out, impl_Average.symR_of _ a.toNat m.toNat b.toNat Q.toNat i.toNat g g1 g2 _ E.toNat HG.out.2.2.1 HG1.out HG2.out HG3.out]
        exact HS.out
set_option maxHeartbeats 4000000 in
set_option maxRecDepth 100000 in
theorem impl_Average.sym4 (f n gd : Nat) (lb : Array Value) (cf : Int → Int → Int) (J : World → Prop) (C : impl_Average.Cmp f lb n gd cf J) (hn : n ≤ 1000) (K : Nat) (ih : impl_Average.Sym f n gd lb cf J K) (W : World) (g : Nat → Int) (a m b : Int) (ha : 0 ≤ a) (hm : a < m) (hb : m < b) (hbn : b ≤ n) (hK : (b - a).toNat ≤ K + 1) (hS : impl_Average.SW n gd J W g) (h1 : ¬ m - a = 1) (h2 : ¬ b - m = 1) (h3 : ¬ (a + b) / 2 < m) :
    Calls Try.prog 24 #[.slice (some ⟨gd, 0, none⟩) n n, .int .i64 a, .int .i64 m, .int .i64 b, .func (.func f) #[] lb] W fun e w' => e = .returned (.tuple #[]) ∧ impl_Average.SW n gd J w' (impl_Average.symM cf (K + 1) a.toNat m.toNat b.toNat g) := by
  have hu := Try.underlying22
  have eg := C.eg
  have HA := Aside0.mk (And.intro hn (And.intro ha (And.intro hm (And.intro hb (And.intro hbn hK)))))
  have HS := Aside0.mk hS
  have HC := Aside0.mk C
  have IH := Aside0.mk ih
  have w1 : wrap64 (m - a) = m - a := by unfold wrap64; omega
  have w2 : wrap64 (b - m) = b - m := by unfold wrap64; omega
  have HW := Aside0.mk (And.intro w1 w2)
  clear hn ha hm hb hbn hK hS ih C
  have d0 : (wrap64 (m - a) == 1) = false := beq_eq_false_iff_ne.2 (by rw [w1]; exact h1)
  have d1 : decide (wrap64 (m - a) = 1) = false := decide_eq_false (by rw [w1]; exact h1)
  have d2 : (wrap64 (b - m) == 1) = false := beq_eq_false_iff_ne.2 (by rw [w2]; exact h2)
  have d3 : decide (wrap64 (b - m) = 1) = false := decide_eq_false (by rw [w2]; exact h2)
  obtain ⟨Q, hQ⟩ : ∃ Q, Q = (a + b) / 2 := ⟨_, rfl⟩
  obtain ⟨N, hN⟩ : ∃ N, N = Q + m := ⟨_, rfl⟩
  have HA2 := Aside0.mk (show a < Q ∧ Q < b ∧ N = Q + m ∧ Q = (a + b) / 2 ∧ Q.toNat = (a.toNat + b.toNat) / 2 ∧ N.toNat = Q.toNat + m.toNat by have := HA.out; omega)
  have hwQ : wrap64 (IntKind.u64.wrap (wrap64 (a + b)) / 2) = Q := by
    have := HA.out
    rw [show wrap64 (a + b) = a + b by unfold wrap64; omega, IntKind.wrap_u64, show (a + b) % 18446744073709551616 = a + b by omega, ← hQ]
    have := HA2.out
    unfold wrap64
    omega
  have hwN : wrap64 (Q + m) = N := by have := HA.out; have := HA2.out; unfold wrap64; omega
  have hwb : wrap64 (N - b) = N - b := by have := HA.out; have := HA2.out; unfold wrap64; omega
  have hwp : wrap64 (N - 1) = N - 1 := by have := HA.out; have := HA2.out; unfold wrap64; omega
  rw [← hQ] at h3
  have d4 : decide (m > Q) = false := decide_eq_false h3
  have d5 : decide (Q < m) = false := decide_eq_false h3
  have hsy : impl_Average.symM cf (K + 1) a.toNat m.toNat b.toNat g = impl_Average.symR (impl_Average.symM cf K) a.toNat m.toNat b.toNat Q.toNat (impl_Average.bs (fun c => !decide (cf (g (N.toNat - 1 - c)) (g c) < 0)) (m - a).toNat a.toNat m.toNat) g := by
    have := HA.out
    have := HA2.out
    rw [impl_Average.symM, if_neg (by omega), if_neg (by omega), if_neg (by omega), ← HA2.out.2.2.2.2.1, ← HA2.out.2.2.2.2.2, show m.toNat - a.toNat = (m - a).toNat by omega]
  rw [hsy]
  have HS0 := Aside0.mk (show m ≤ Q by have := HA.out; have := HA2.out; omega)
  have HS1 := Aside0.mk (show ∀ q : Int, a ≤ q → q < m → 0 ≤ N - 1 - q ∧ N - 1 - q < (n : Int) by intro q _ _; have := HA.out; have := HA2.out; omega)
  clear hsy h1 h2 h3 w1 w2 hQ hN
  obtain ⟨P, hP⟩ : ∃ P : Nat → Bool, P = fun c => !decide (cf (g (N.toNat - 1 - c)) (g c) < 0) := ⟨_, rfl⟩
  rw [← hP]
  have HP := Aside0.mk hP
  clear hP
  go_enter Try.func24, Try.ntmps24
  go_wp2
  go_loopg [20, 21] (m - a).toNat (fun gg vi_ vj_ wr => ∃ (i j : Int) (k : Nat), vi_ = .int .i64 i ∧ vj_ = .int .i64 j ∧ Aside0 (a ≤ i ∧ i ≤ j ∧ j ≤ m ∧ (j - i).toNat ≤ k ∧ (j - i).toNat ≤ gg) ∧ Aside0 (impl_Average.SW n gd J wr g) ∧ Aside0 (impl_Average.bs P k i.toNat j.toNat = impl_Average.bs P (m - a).toNat (a).toNat (m).toNat))
  case atStart => exact ⟨a, m, (m - a).toNat, (by first | rfl | simp [*]), (by first | rfl | simp [*]), ⟨by have := HA.out; have := HA2.out; have := HS0.out; omega⟩, HS, ⟨rfl⟩⟩
  case round =>
    clear HS
    obtain ⟨i, j, k, rfl, rfl, HI, HS, HV⟩ := hrel
    by_cases hij : i < j
    · have f0 : decide (i < j) = true := decide_eq_true hij
      obtain ⟨k1, rfl⟩ : ∃ k1, k = k1 + 1 := ⟨k - 1, by have := HI.out; omega⟩
      obtain ⟨q, hq⟩ : ∃ q, q = (i + j) / 2 := ⟨_, rfl⟩
      have HQ := Aside0.mk (show i ≤ q ∧ q < j ∧ q.toNat = (i.toNat + j.toNat) / 2 ∧ 0 ≤ i ∧ (q + 1).toNat = q.toNat + 1 by have := HI.out; have := HA.out; have := HA2.out; have := HS0.out; omega)
      have hw : wrap64 (IntKind.u64.wrap (wrap64 (i + j)) / 2) = q := by
        have := HI.out
        have := HA.out
        have := HA2.out; have := HS0.out
        rw [show wrap64 (i + j) = i + j by unfold wrap64; omega, IntKind.wrap_u64, show (i + j) % 18446744073709551616 = i + j by omega, ← hq]
        unfold wrap64
        omega
      have hv := HV.out
      rw [impl_Average.bs, if_pos (show i.toNat < j.toNat by have := HI.out; have := HA.out; have := HA2.out; have := HS0.out; omega), ← HQ.out.2.2.1] at hv
      have HB := Aside0.mk (show 0 ≤ N - 1 - q ∧ N - 1 - q < (n : Int) ∧ 0 ≤ q ∧ q < (n : Int) by have := HI.out; have := HQ.out; have := HA.out; have := HA2.out; have := HS0.out; omega)
      have hca := HS.out.cell (N - 1 - q) HB.out.1 HB.out.2.1
      have hcb := HS.out.cell (q) HB.out.2.2.1 HB.out.2.2.2
      have HCL : Aside0 (∀ W, Drawn0 wr W → Calls Try.prog f (#[.int .i64 (g (N - 1 - q).toNat), .int .i64 (g (q).toNat)] ++ lb) W fun e w' => e = .returned (.int .i64 (cf (g (N - 1 - q).toNat) (g (q).toNat))) ∧ Drawn0 W w') := ⟨fun W hd => HC.out.cmp W _ _ (HS.out.drawn HC.out hd).inv (HS.out.rng _ (by have := HB.out; omega)).1 (HS.out.rng _ (by have := HB.out; omega)).2 (HS.out.rng _ (by have := HB.out; omega)).1 (HS.out.rng _ (by have := HB.out; omega)).2⟩
      have hpv : P q.toNat = !decide (cf (g (N - 1 - q).toNat) (g (q).toNat) < 0) := by
        have := HI.out
        have := HQ.out
        have := HA.out
        have := HA2.out; have := HS0.out
        rw [HP.out]
        show (!decide (cf (g (N.toNat - 1 - q.toNat)) (g q.toNat) < 0)) = _; rw [show N.toNat - 1 - q.toNat = (N - 1 - q).toNat by omega]
      obtain ⟨aj, haj⟩ : ∃ q_, q_ = (N - 1 - q).toNat := ⟨_, rfl⟩
      obtain ⟨bj, hbj⟩ : ∃ q_, q_ = (q).toNat := ⟨_, rfl⟩
      rw [← haj, ← hbj] at HCL
      have hpv2 : P q.toNat = !decide (cf (g aj) (g bj) < 0) := by rw [hpv, haj, hbj]
      rw [hpv2] at hv
      rw [← haj] at hca
      rw [← hbj] at hcb
      have ea : (N - 1 - q).toNat = aj := haj.symm
      have eb : (q).toNat = bj := hbj.symm
      have rx : IntKind.i64.wrap (N - 1 - q) = N - 1 - q := by have := HA.out; have := HQ.out; have := HI.out; have := HA2.out; have := HS0.out; rw [IntKind.wrap_i64]; omega
      have wx : wrap64 (N - 1 - q) = N - 1 - q := by have := HA.out; have := HQ.out; have := HI.out; have := HA2.out; have := HS0.out; unfold wrap64; omega
      have p0 : (0 : Int) ≤ N - 1 - q := HB.out.1
      have p1 : (0 : Int) ≤ q := HB.out.2.2.1
      have b0 : N - 1 - q < (n : Int) := HB.out.2.1
      have b1 : q < (n : Int) := HB.out.2.2.2
      generalize cf (g aj) (g bj) = cv at HCL hv
      have HV2 := Aside0.mk hv
      clear haj hbj hij hpv hpv2 hv HV hq
      go_upto_region 35 with (fail)
      go_quiet (first | (go_at_fn f; (with_reducible refine (HCL.out _ (by repeat (first | exact Drawn0.refl _ | apply Drawn0.step))).mono ?_); rintro e w' ⟨rfl, ⟨⟨nd, rfl⟩⟩⟩; (first | exact ⟨rfl, _, World.drewN_drewN _ _ _⟩ | exact ⟨rfl, _, Eq.trans (World.drewN_drewN _ _ _) (congrArg (World.drewN _) (Nat.add_assoc _ _ _))⟩ | exact ⟨rfl, _, rfl⟩)))
      have HS2 := Aside0.mk (HS.out.drewN HC.out nq)
      clear HS HCL hca hcb
      generalize wr.drewN nq = w5 at HS2 ⊢
      have hv := HV2.out
      have hq1 : wrap64 (q + 1) = q + 1 := by have := HQ.out; have := HI.out; have := HA.out; have := HA2.out; have := HS0.out; unfold wrap64; omega
      clear ea eb p0 p1 b0 b1 rx wx
      by_cases hcv : cv < 0
      · have g0 : decide (cv < 0) = true := decide_eq_true hcv
        rw [g0, if_neg (by decide)] at hv
        rw [g0]
        have HV3 := Aside0.mk hv
        clear hv HV2 hcv g0
        go_wp2
        go_roundg (q - i).toNat
        case measure => have := HQ.out; have := HI.out; omega
        case rel => exact ⟨i, q, k1, rfl, (by first | rfl | (rw [hw])), ⟨by have := HQ.out; have := HI.out; omega⟩, HS2, HV3⟩
      · have g0 : decide (cv < 0) = false := decide_eq_false hcv
        rw [g0, if_pos (by decide)] at hv
        rw [g0]
        have HV3 := Aside0.mk hv
        clear hv HV2 hcv g0
        go_wp2
        go_roundg (j - (q + 1)).toNat
        case measure => have := HQ.out; have := HI.out; omega
        case rel => exact ⟨q + 1, j, k1, (by first | rfl | (rw [hq1])), rfl, ⟨by have := HQ.out; have := HI.out; omega⟩, HS2, ⟨by rw [HQ.out.2.2.2.2]; exact HV3.out⟩⟩
    · have f0 : decide (i < j) = false := decide_eq_false hij
      have hv := HV.out
      rw [impl_Average.bs_done _ _ _ _ (show ¬ i.toNat < j.toNat by have := HI.out; have := HA.out; have := HA2.out; have := HS0.out; omega)] at hv
      have HV2 := Aside0.mk hv
      clear hv HV hij
      obtain ⟨E, hE⟩ : ∃ E, E = N - i := ⟨_, rfl⟩
      have HG := Aside0.mk (show 0 ≤ E ∧ E ≤ b ∧ E.toNat = Q.toNat + m.toNat - i.toNat ∧ a ≤ i ∧ i ≤ m ∧ i ≤ Q by have := HA.out; have := HA2.out; have := HS0.out; have := HI.out; omega)
      have wE : wrap64 (N - i) = E := by have := HA.out; have := HA2.out; have := HG.out; unfold wrap64; omega
      clear hE
      go_upto_region 39 with (fail)
      try simp only [hwQ, hwN, hwp, hwb, wE]
      go_cut [185] from 178 to 185 (fun v wc => v = .bool (decide (i < m) && decide (m < E)) ∧ Aside0 (impl_Average.SW n gd J wc g))
      case first =>
        by_cases e1 : i < m
        · have f1 : decide (i < m) = true := decide_eq_true e1
          by_cases e2 : m < E
          · have f2 : decide (m < E) = true := decide_eq_true e2
            go_wp2
            go_meet
            case rel => exact ⟨by first | rfl | simp [*], HS⟩
          · have f2 : decide (m < E) = false := decide_eq_false e2
            go_wp2
            go_meet
            case rel => exact ⟨by first | rfl | simp [*], HS⟩
        · have f1 : decide (i < m) = false := decide_eq_false e1
          go_wp2
          go_meet
          case rel => exact ⟨by first | rfl | simp [*], HS⟩
      case rest =>
      clear HS
      obtain ⟨ec_, HS⟩ := hcut
      go_upto_if 185 with (fail)
      go_cut [] from 185 to 191 (fun wc => ∃ g1 : Nat → Int, Aside0 (g1 = if i.toNat < m.toNat ∧ m.toNat < E.toNat then impl_Average.rot m.toNat (E.toNat - i.toNat) (m.toNat - i.toNat) (E.toNat - m.toNat) g else g) ∧ Aside0 (impl_Average.SW n gd J wc g1))
      case first =>
        by_cases hc : i < m ∧ m < E
        · rw [show (decide (i < m) && decide (m < E)) = true by simp [hc]] at ec_
          subst ec_
          have HCC := Aside0.mk hc
          clear hc
          go_wp2_with ((go_at_call 25; refine (impl_Average.rotate f n gd lb cf J HC.out HA.out.1 _ g i m E (by have := HA.out; have := HA2.out; have := HG.out; have := HCC.out; omega) (by have := HA.out; have := HA2.out; have := HG.out; have := HCC.out; omega) (by have := HA.out; have := HA2.out; have := HG.out; have := HCC.out; omega) (by have := HA.out; have := HA2.out; have := HG.out; have := HCC.out; omega) HS.out).mono ?_; rintro e w3 ⟨rfl, hs⟩; clear HS; have HS := Aside0.mk hs; clear hs))
          go_meet
          case rel => exact ⟨_, ⟨by rw [if_pos (by have := HA.out; have := HA2.out; have := HG.out; have := HCC.out; omega), show (E - i).toNat = E.toNat - i.toNat by have := HA.out; have := HA2.out; have := HG.out; have := HCC.out; omega, show (m - i).toNat = m.toNat - i.toNat by have := HA.out; have := HA2.out; have := HG.out; have := HCC.out; omega, show (E - m).toNat = E.toNat - m.toNat by have := HA.out; have := HA2.out; have := HG.out; have := HCC.out; omega]⟩, HS⟩
        · rw [show (decide (i < m) && decide (m < E)) = false by rw [Bool.and_eq_false_iff, decide_eq_false_iff_not, decide_eq_false_iff_not]; omega] at ec_
          subst ec_
          have HCC := Aside0.mk hc
          clear hc
          go_wp2
          go_meet
          case rel => exact ⟨_, ⟨by rw [if_neg (by have := HA.out; have := HA2.out; have := HG.out; have := HCC.out; omega)]⟩, HS⟩
      case rest =>
      clear HS ec_
      obtain ⟨g1, HG1, HS⟩ := hcut
      go_upto_region 41 with (fail)
      try simp only [hwQ, hwN, hwp, hwb, wE]
      go_cut [199] from 192 to 199 (fun v wc => v = .bool (decide (a < i) && decide (i < Q)) ∧ Aside0 (impl_Average.SW n gd J wc g1))
      case first =>
        by_cases e1 : a < i
        · have f1 : decide (a < i) = true := decide_eq_true e1
          by_cases e2 : i < Q
          · have f2 : decide (i < Q) = true := decide_eq_true e2
            go_wp2
            go_meet
            case rel => exact ⟨by first | rfl | simp [*], HS⟩
          · have f2 : decide (i < Q) = false := decide_eq_false e2
            go_wp2
            go_meet
            case rel => exact ⟨by first | rfl | simp [*], HS⟩
        · have f1 : decide (a < i) = false := decide_eq_false e1
          go_wp2
          go_meet
          case rel => exact ⟨by first | rfl | simp [*], HS⟩
      case rest =>
      clear HS
      obtain ⟨ec_, HS⟩ := hcut
      go_upto_if 199 with (fail)
      go_cut [] from 199 to 205 (fun wc => ∃ g2 : Nat → Int, Aside0 (g2 = if a.toNat < i.toNat ∧ i.toNat < Q.toNat then impl_Average.symM cf K a.toNat i.toNat Q.toNat g1 else g1) ∧ Aside0 (impl_Average.SW n gd J wc g2))
      case first =>
        by_cases hc : a < i ∧ i < Q
        · rw [show (decide (a < i) && decide (i < Q)) = true by simp [hc]] at ec_
          subst ec_
          have HCC := Aside0.mk hc
          clear hc
          go_wp2_with ((go_at_call 24; refine (IH.out _ g1 a i Q (by have := HA.out; have := HA2.out; have := HG.out; have := HCC.out; omega) (by have := HA.out; have := HA2.out; have := HG.out; have := HCC.out; omega) (by have := HA.out; have := HA2.out; have := HG.out; have := HCC.out; omega) (by have := HA.out; have := HA2.out; have := HG.out; have := HCC.out; omega) (by have := HA.out; have := HA2.out; have := HG.out; have := HCC.out; omega) HS.out).mono ?_; rintro e w3 ⟨rfl, hs⟩; clear HS; have HS := Aside0.mk hs; clear hs))
          go_meet
          case rel => exact ⟨_, ⟨by rw [if_pos (by have := HA.out; have := HA2.out; have := HG.out; have := HCC.out; omega)]⟩, HS⟩
        · rw [show (decide (a < i) && decide (i < Q)) = false by rw [Bool.and_eq_false_iff, decide_eq_false_iff_not, decide_eq_false_iff_not]; omega] at ec_
          subst ec_
          have HCC := Aside0.mk hc
          clear hc
          go_wp2
          go_meet
          case rel => exact ⟨_, ⟨by rw [if_neg (by have := HA.out; have := HA2.out; have := HG.out; have := HCC.out; omega)]⟩, HS⟩
      case rest =>
      clear HS ec_
      obtain ⟨g2, HG2, HS⟩ := hcut
      go_upto_region 43 with (fail)
      try simp only [hwQ, hwN, hwp, hwb, wE]
      go_cut [213] from 206 to 213 (fun v wc => v = .bool (decide (Q < E) && decide (E < b)) ∧ Aside0 (impl_Average.SW n gd J wc g2))
      case first =>
        by_cases e1 : Q < E
        · have f1 : decide (Q < E) = true := decide_eq_true e1
          by_cases e2 : E < b
          · have f2 : decide (E < b) = true := decide_eq_true e2
            go_wp2
            go_meet
            case rel => exact ⟨by first | rfl | simp [*], HS⟩
          · have f2 : decide (E < b) = false := decide_eq_false e2
            go_wp2
            go_meet
            case rel => exact ⟨by first | rfl | simp [*], HS⟩
        · have f1 : decide (Q < E) = false := decide_eq_false e1
          go_wp2
          go_meet
          case rel => exact ⟨by first | rfl | simp [*], HS⟩
      case rest =>
      clear HS
      obtain ⟨ec_, HS⟩ := hcut
      by_cases hc : Q < E ∧ E < b
      · rw [show (decide (Q < E) && decide (E < b)) = true by simp [hc]] at ec_
        subst ec_
        have HCC := Aside0.mk hc
        clear hc
        have HG3 := Aside0.mk (show impl_Average.symM cf K Q.toNat E.toNat b.toNat g2 = if Q.toNat < E.toNat ∧ E.toNat < b.toNat then impl_Average.symM cf K Q.toNat E.toNat b.toNat g2 else g2 by rw [if_pos (by have := HA.out; have := HA2.out; have := HG.out; have := HCC.out; omega)])
        go_wp2_with ((go_at_call 24; refine (IH.out _ g2 Q E b (by have := HA.out; have := HA2.out; have := HG.out; have := HCC.out; omega) (by have := HA.out; have := HA2.out; have := HG.out; have := HCC.out; omega) (by have := HA.out; have := HA2.out; have := HG.out; have := HCC.out; omega) (by have := HA.out; have := HA2.out; have := HG.out; have := HCC.out; omega) (by have := HA.out; have := HA2.out; have := HG.out; have := HCC.out; omega) HS.out).mono ?_; rintro e w3 ⟨rfl, hs⟩; clear HS; have HS := Aside0.mk hs; clear hs))
        refine bodyPost_end (results_none rfl _ _ _) rfl ?_
        refine ⟨rfl, ?_⟩
        rw [← HV2.out, impl_Average.symR_of _ a.toNat m.toNat b.toNat Q.toNat i.toNat g g1 g2 _ E.toNat HG.out.2.2.1 HG1.out HG2.out HG3.out]
        exact HS.out
      · rw [show (decide (Q < E) && decide (E < b)) = false by rw [Bool.and_eq_false_iff, decide_eq_false_iff_not, decide_eq_false_iff_not]; omega] at ec_
        subst ec_
        have HCC := Aside0.mk hc
        clear hc
        have HG3 := Aside0.mk (show g2 = if Q.toNat < E.toNat ∧ E.toNat < b.toNat then impl_Average.symM cf K Q.toNat E.toNat b.toNat g2 else g2 by rw [if_neg (by have := HA.out; have := HA2.out; have := HG.out; have := HCC.out; omega)])
        go_wp2
        refine bodyPost_end (results_none rfl _ _ _) rfl ?_
        refine ⟨rfl, ?_⟩
        rw [← HV2.out, impl_Average.symR_of _ a.toNat m.toNat b.toNat Q.toNat i.toNat g g1 g2 _ E.toNat HG.out.2.2.1 HG1.out HG2.out HG3.out]
        exact HS.out
theorem impl_Average.symMerge (f n gd : Nat) (lb : Array Value) (cf : Int → Int → Int) (J : World → Prop) (C : impl_Average.Cmp f lb n gd cf J) (hn : n ≤ 1000) : ∀ (K : Nat), impl_Average.Sym f n gd lb cf J K := by
  intro K
  induction K with
  | zero => intro W g a m b ha hm hb hbn hK; omega
  | succ K ih =>
    intro W g a m b ha hm hb hbn hK hS
    by_cases h1 : m - a = 1
    · exact impl_Average.sym1 f n gd lb cf J C hn K ih W g a m b ha hm hb hbn hK hS h1
    · by_cases h2 : b - m = 1
      · exact impl_Average.sym2 f n gd lb cf J C hn K ih W g a m b ha hm hb hbn hK hS h1 h2
      · by_cases h3 : (a + b) / 2 < m
        · exact impl_Average.sym3 f n gd lb cf J C hn K ih W g a m b ha hm hb hbn hK hS h1 h2 h3
        · exact impl_Average.sym4 f n gd lb cf J C hn K ih W g a m b ha hm hb hbn hK hS h1 h2 h3
/-- slices.stableCmpFunc -/
def impl_Average.stA (cf : Int → Int → Int) (n : Nat) : Nat → Nat → Nat → (Nat → Int) → Nat × (Nat → Int)
  | 0, a, _, g => (a, g)
  | k + 1, a, b, g => if b ≤ n then impl_Average.stA cf n k b (b + 20) (impl_Average.insO cf a (b - (a + 1)) (a + 1) g) else (a, g)
def impl_Average.stB (cf : Int → Int → Int) (n s : Nat) : Nat → Nat → Nat → (Nat → Int) → Nat × (Nat → Int)
  | 0, a, _, g => (a, g)
  | k + 1, a, b, g => if b ≤ n then impl_Average.stB cf n s k b (b + 2 * s) (impl_Average.symM cf (b - a) a (a + s) b g) else (a, g)
def impl_Average.lastM (cf : Int → Int → Int) (n s a : Nat) (g : Nat → Int) : Nat → Int := if a + s < n then impl_Average.symM cf (n - a) a (a + s) n g else g
def impl_Average.stC (cf : Int → Int → Int) (n : Nat) : Nat → Nat → (Nat → Int) → Nat → Int
  | 0, _, g => g
  | k + 1, s, g => if s < n then impl_Average.stC cf n k (2 * s) (impl_Average.lastM cf n s (impl_Average.stB cf n s (n + 1) 0 (2 * s) g).1 (impl_Average.stB cf n s (n + 1) 0 (2 * s) g).2) else g
def impl_Average.stabM (cf : Int → Int → Int) (n : Nat) (g : Nat → Int) : Nat → Int := impl_Average.stC cf n (n + 1) 20 (impl_Average.insO cf (impl_Average.stA cf n (n + 1) 0 20 g).1 (n - ((impl_Average.stA cf n (n + 1) 0 20 g).1 + 1)) ((impl_Average.stA cf n (n + 1) 0 20 g).1 + 1) (impl_Average.stA cf n (n + 1) 0 20 g).2)
theorem impl_Average.stA_done (cf : Int → Int → Int) (n k a b : Nat) (g : Nat → Int) (h : ¬ b ≤ n) : impl_Average.stA cf n k a b g = (a, g) := by
  cases k with
  | zero => rfl
  | succ k => rw [impl_Average.stA, if_neg h]
theorem impl_Average.stB_done (cf : Int → Int → Int) (n s k a b : Nat) (g : Nat → Int) (h : ¬ b ≤ n) : impl_Average.stB cf n s k a b g = (a, g) := by
  cases k with
  | zero => rfl
  | succ k => rw [impl_Average.stB, if_neg h]
theorem impl_Average.stC_done (cf : Int → Int → Int) (n k s : Nat) (g : Nat → Int) (h : ¬ s < n) : impl_Average.stC cf n k s g = g := by
  cases k with
  | zero => rfl
  | succ k => rw [impl_Average.stC, if_neg h]
set_option maxHeartbeats 4000000 in
set_option maxRecDepth 100000 in
theorem impl_Average.stable (f n gd : Nat) (lb : Array Value) (cf : Int → Int → Int) (J : World → Prop) (C : impl_Average.Cmp f lb n gd cf J) (hn : n ≤ 1000) (W : World) (g : Nat → Int) (hS : impl_Average.SW n gd J W g) :
    Calls Try.prog 21 #[.slice (some ⟨gd, 0, none⟩) n n, .int .i64 n, .func (.func f) #[] lb] W fun e w' => e = .returned (.tuple #[]) ∧ impl_Average.SW n gd J w' (impl_Average.stabM cf n g) := by
  have HS := Aside0.mk hS
  have HN := Aside0.mk hn
  have HI_ : Aside0 (∀ (W : World) (g : Nat → Int) (a b : Int), 0 ≤ a → a ≤ b → b ≤ n → impl_Average.SW n gd J W g → Calls Try.prog 23 #[.slice (some ⟨gd, 0, none⟩) n n, .int .i64 a, .int .i64 b, .func (.func f) #[] lb] W fun e w' => e = .returned (.tuple #[]) ∧ impl_Average.SW n gd J w' (impl_Average.insO cf a.toNat (b - (a + 1)).toNat (a + 1).toNat g)) := ⟨fun W g a b h1 h2 h3 h4 => impl_Average.insertion f n gd lb cf J C hn W g a b h1 h2 h3 h4⟩
  have HM_ : Aside0 (∀ (W : World) (g : Nat → Int) (a m b : Int), 0 ≤ a → a < m → m < b → b ≤ n → impl_Average.SW n gd J W g → Calls Try.prog 24 #[.slice (some ⟨gd, 0, none⟩) n n, .int .i64 a, .int .i64 m, .int .i64 b, .func (.func f) #[] lb] W fun e w' => e = .returned (.tuple #[]) ∧ impl_Average.SW n gd J w' (impl_Average.symM cf (b - a).toNat a.toNat m.toNat b.toNat g)) := ⟨fun W g a m b h1 h2 h3 h4 h5 => impl_Average.symMerge f n gd lb cf J C hn _ W g a m b h1 h2 h3 h4 (Nat.le_refl _) h5⟩
  clear hS hn C
  go_enter Try.func21, Try.ntmps21
  go_wp2
  go_loopg [7, 8] (n + 1) (fun gg v7 v8 wr => ∃ (a b : Int) (k : Nat) (h : Nat → Int), v7 = .int .i64 a ∧ v8 = .int .i64 b ∧ Aside0 (0 ≤ a ∧ a ≤ n ∧ b = a + 20 ∧ ((n : Int) + 1 - b).toNat ≤ k ∧ ((n : Int) + 1 - b).toNat ≤ gg) ∧ Aside0 (impl_Average.SW n gd J wr h) ∧ Aside0 (impl_Average.stA cf n k a.toNat b.toNat h = impl_Average.stA cf n (n + 1) 0 20 g))
  case atStart => exact ⟨0, 20, n + 1, g, rfl, rfl, ⟨by omega⟩, HS, ⟨rfl⟩⟩
  case round =>
    clear HS
    obtain ⟨a, b, k, h, rfl, rfl, HI, HS, HV⟩ := hrel
    by_cases hbn : b ≤ (n : Int)
    · have d0 : decide (b ≤ (n : Int)) = true := decide_eq_true hbn
      obtain ⟨k1, rfl⟩ : ∃ k1, k = k1 + 1 := ⟨k - 1, by have := HI.out; omega⟩
      have hv := HV.out
      rw [impl_Average.stA, if_pos (by have := HI.out; omega)] at hv
      have HV2 := Aside0.mk hv
      have HL := Aside0.mk hbn
      clear hv HV hbn
      have wb : wrap64 (b + 20) = b + 20 := by have := HI.out; have := HL.out; have := HN.out; unfold wrap64; omega
      go_wp2_with (go_at_call 23; refine (HI_.out _ h a b (by have := HI.out; omega) (by have := HI.out; omega) (by have := HL.out; omega) HS.out).mono ?_; rintro e w3 ⟨rfl, hs⟩; have HS2 := Aside0.mk hs; clear hs)
      go_roundg ((n : Int) + 1 - (b + 20)).toNat
      case measure => have := HI.out; have := HL.out; omega
      case rel =>
        refine ⟨b, b + 20, k1, _, rfl, (by first | rfl | (rw [wb])), ⟨by have := HI.out; have := HL.out; omega⟩, HS2, ⟨?_⟩⟩
        have := HI.out
        rw [← HV2.out, show (b - (a + 1)).toNat = b.toNat - (a.toNat + 1) by omega, show (a + 1).toNat = a.toNat + 1 by omega, show (b + 20).toNat = b.toNat + 20 by omega]
    · have d0 : decide (b ≤ (n : Int)) = false := decide_eq_false hbn
      have hv := HV.out
      rw [impl_Average.stA_done _ _ _ _ _ _ (by have := HI.out; omega)] at hv
      have HV2 := Aside0.mk hv
      clear hv HV hbn
      go_wp2_with (go_at_call 23; refine (HI_.out _ h a n (by have := HI.out; omega) (by have := HI.out; omega) (by omega) HS.out).mono ?_; rintro e w3 ⟨rfl, hs⟩; have HS2 := Aside0.mk hs; clear hs)
      have hst : impl_Average.stabM cf n g = impl_Average.stC cf n (n + 1) 20 (impl_Average.insO cf a.toNat ((n : Int) - (a + 1)).toNat (a + 1).toNat h) := by
        have := HI.out
        unfold impl_Average.stabM
        rw [← HV2.out, show ((n : Int) - (a + 1)).toNat = n - (a.toNat + 1) by omega, show (a + 1).toNat = a.toNat + 1 by omega]
      have HST := Aside0.mk hst
      clear hst HS HV2
      generalize impl_Average.insO cf a.toNat ((n : Int) - (a + 1)).toNat (a + 1).toNat h = h0 at HST HS2
      clear HI d0
      go_loopg [6] (n + 1) (fun gg v6 wr => ∃ (s : Int) (k : Nat) (h : Nat → Int), v6 = .int .i64 s ∧ Aside0 (20 ≤ s ∧ s ≤ 2000 ∧ ((n : Int) + 1 - s).toNat ≤ k ∧ ((n : Int) + 1 - s).toNat ≤ gg) ∧ Aside0 (impl_Average.SW n gd J wr h) ∧ Aside0 (impl_Average.stC cf n k s.toNat h = impl_Average.stabM cf n g))
      case atStart => exact ⟨20, n + 1, h0, rfl, ⟨by omega⟩, HS2, ⟨HST.out.symm⟩⟩
      case round =>
        clear HS2 HST
        obtain ⟨s, k, p, rfl, HI, HS, HV⟩ := hrel
        by_cases hsn : s < (n : Int)
        · have d0 : decide (s < (n : Int)) = true := decide_eq_true hsn
          obtain ⟨k1, rfl⟩ : ∃ k1, k = k1 + 1 := ⟨k - 1, by have := HI.out; omega⟩
          have hv := HV.out
          rw [impl_Average.stC, if_pos (by have := HI.out; omega)] at hv
          have HV2 := Aside0.mk hv
          have HL := Aside0.mk hsn
          clear hv HV hsn
          have w2 : wrap64 (2 * s) = 2 * s := by have := HI.out; unfold wrap64; omega
          have HW2 := Aside0.mk w2
          clear w2
          have ws2 : wrap64 (s * 2) = 2 * s := by have := HI.out; unfold wrap64; omega
          go_wp2
          go_loopg [7, 8] (n + 1) (fun gg v7 v8 wr => ∃ (a b : Int) (k : Nat) (h : Nat → Int), v7 = .int .i64 a ∧ v8 = .int .i64 b ∧ Aside0 (0 ≤ a ∧ a ≤ n ∧ b = a + 2 * s ∧ ((n : Int) + 1 - b).toNat ≤ k ∧ ((n : Int) + 1 - b).toNat ≤ gg) ∧ Aside0 (impl_Average.SW n gd J wr h) ∧ Aside0 (impl_Average.stB cf n s.toNat k a.toNat b.toNat h = impl_Average.stB cf n s.toNat (n + 1) 0 (2 * s.toNat) p))
          case atStart => exact ⟨0, 2 * s, n + 1, p, rfl, (by first | rfl | (rw [HW2.out])), ⟨by have := HI.out; omega⟩, HS, ⟨by rw [show (2 * s).toNat = 2 * s.toNat by have := HI.out; omega]; rfl⟩⟩
          case round =>
            clear HS
            obtain ⟨a, b, k, h, rfl, rfl, HB, HS, HC⟩ := hrel
            have was : wrap64 (a + s) = a + s := by have := HI.out; have := HB.out; have := HN.out; unfold wrap64; omega
            by_cases hbn : b ≤ (n : Int)
            · have d1 : decide (b ≤ (n : Int)) = true := decide_eq_true hbn
              obtain ⟨k2, rfl⟩ : ∃ k2, k = k2 + 1 := ⟨k - 1, by have := HB.out; omega⟩
              have hv := HC.out
              rw [impl_Average.stB, if_pos (by have := HB.out; omega)] at hv
              have HC2 := Aside0.mk hv
              have HM := Aside0.mk hbn
              clear hv HC hbn
              have wb : wrap64 (b + 2 * s) = b + 2 * s := by have := HI.out; have := HB.out; have := HM.out; have := HN.out; unfold wrap64; omega
              go_wp2_with (go_at_call 24; refine (HM_.out _ h a (a + s) b (by have := HB.out; omega) (by have := HI.out; omega) (by have := HI.out; have := HB.out; omega) (by have := HM.out; omega) HS.out).mono ?_; rintro e w3 ⟨rfl, hs⟩; have HS2 := Aside0.mk hs; clear hs)
              go_roundg ((n : Int) + 1 - (b + 2 * s)).toNat
              case measure => have := HI.out; have := HB.out; have := HM.out; omega
              case rel =>
                refine ⟨b, b + 2 * s, k2, _, rfl, (by first | rfl | (rw [HW2.out, wb])), ⟨by have := HI.out; have := HB.out; have := HM.out; omega⟩, HS2, ⟨?_⟩⟩
                have := HI.out
                have := HB.out
                rw [← HC2.out, show (b - a).toNat = b.toNat - a.toNat by omega, show (a + s).toNat = a.toNat + s.toNat by omega, show (b + 2 * s).toNat = b.toNat + 2 * s.toNat by omega]
            · have d1 : decide (b ≤ (n : Int)) = false := decide_eq_false hbn
              have hv := HC.out
              rw [impl_Average.stB_done _ _ _ _ _ _ _ (by have := HB.out; omega)] at hv
              have hv2 := HV2.out
              rw [← hv] at hv2
              have HV3 := Aside0.mk hv2
              clear hv hv2 HC hbn
              by_cases hm : a + s < (n : Int)
              · have d2 : decide (a + s < (n : Int)) = true := decide_eq_true hm
                have HM := Aside0.mk hm
                clear hm
                go_wp2_with (go_at_call 24; refine (HM_.out _ h a (a + s) n (by have := HB.out; omega) (by have := HI.out; omega) (by have := HM.out; omega) (by omega) HS.out).mono ?_; rintro e w3 ⟨rfl, hs⟩; have HS2 := Aside0.mk hs; clear hs)
                go_roundg ((n : Int) + 1 - 2 * s).toNat
                case measure => have := HI.out; have := HL.out; omega
                case rel =>
                  refine ⟨2 * s, k1, _, (by first | rfl | (rw [ws2])), ⟨by have := HI.out; have := HL.out; have := HN.out; omega⟩, HS2, ⟨?_⟩⟩
                  have := HI.out
                  have := HB.out
                  have := HM.out
                  rw [← HV3.out, impl_Average.lastM, if_pos (by omega), show ((n : Int) - a).toNat = n - a.toNat by omega, show (a + s).toNat = a.toNat + s.toNat by omega, show (2 * s).toNat = 2 * s.toNat by omega, Int.toNat_natCast]
              · have d2 : decide (a + s < (n : Int)) = false := decide_eq_false hm
                have HM := Aside0.mk hm
                clear hm
                go_wp2
                go_roundg ((n : Int) + 1 - 2 * s).toNat
                case measure => have := HI.out; have := HL.out; omega
                case rel =>
                  refine ⟨2 * s, k1, _, (by first | rfl | (rw [ws2])), ⟨by have := HI.out; have := HL.out; have := HN.out; omega⟩, HS, ⟨?_⟩⟩
                  have := HI.out
                  have := HB.out
                  have := HM.out
                  rw [← HV3.out, impl_Average.lastM, if_neg (by omega), show (2 * s).toNat = 2 * s.toNat by omega]
        · have d0 : decide (s < (n : Int)) = false := decide_eq_false hsn
          have hS := HS.out
          have hv := HV.out
          rw [impl_Average.stC_done _ _ _ _ _ (by have := HI.out; omega)] at hv
          rw [hv] at hS
          have HS3 := Aside0.mk hS
          clear hS hv HS HV hsn
          go_wp2
          refine bodyPost_end (results_none rfl _ _ _) rfl ?_
          exact ⟨rfl, HS3.out⟩
set_option maxHeartbeats 4000000 in
set_option maxRecDepth 100000 in
theorem impl_Average.sortStable (f n gd : Nat) (lb : Array Value) (cf : Int → Int → Int) (J : World → Prop) (C : impl_Average.Cmp f lb n gd cf J) (hn : n ≤ 1000) (W : World) (g : Nat → Int) (hS : impl_Average.SW n gd J W g) :
    Calls Try.prog 17 #[.slice (some ⟨gd, 0, none⟩) n n, .func (.func f) #[] lb] W fun e w' => e = .returned (.tuple #[]) ∧ impl_Average.SW n gd J w' (impl_Average.stabM cf n g) := by
  have hcon := impl_Average.stable f n gd lb cf J C hn W g hS
  clear hS C
  go_enter Try.func17, Try.ntmps17
  go_wp2_with (go_at_call 21; refine hcon.mono ?_; rintro e w3 ⟨rfl, hs⟩)
  refine bodyPost_end (results_none rfl _ _ _) rfl ?_
  exact ⟨rfl, hs⟩
/-! ### impl_Average: function 6 -/
theorem impl_Average.i3 : (Try.prog.info? 3).map (fun i => (i.zero, i.size, i.bytes)) = some (some (.int .i64 0), 1, 8) := by kernel_rfl
def impl_Average.rem (l : List Int) (a s x : Int) : Int := Int.tmod (wrap64 (a * rd l x)) s
def impl_Average.cf (l : List Int) (a s x y : Int) : Int := wrap64 (impl_Average.rem l a s y - impl_Average.rem l a s x)
set_option maxHeartbeats 4000000 in
set_option maxRecDepth 100000 in
theorem impl_Average.lit (l : List Int) (A0 : Option Addr) (c0 : Nat) (a s x y : Int) (B1 B2 B3 : Nat) (w : World) (h1 : w.heap[B1]? = some (.cells #[.int .i64 a] 3 (0, 0))) (h2 : w.heap[B2]? = some (.cells #[.slice A0 l.length c0] 22 (0, 0))) (h3 : w.heap[B3]? = some (.cells #[.int .i64 s] 3 (0, 0))) (hr : Kd.C (Kd.int .i64) w A0 l.length l) (hs : ¬ s = 0) (hx : 0 ≤ x) (hx2 : x < l.length) (hy : 0 ≤ y) (hy2 : y < l.length) :
    Calls Try.prog 18 #[.int .i64 x, .int .i64 y, .pointer (some ⟨B1, 0, none⟩), .pointer (some ⟨B2, 0, none⟩), .pointer (some ⟨B3, 0, none⟩)] w fun e w' => e = .returned (.int .i64 (impl_Average.cf l a s x y)) ∧ Drawn0 w w' := by
  have hu := Try.underlying22
  obtain ⟨ad, e_, hcx⟩ := Kd.at_int hr x hx hx2
  cases e_
  obtain ⟨ad2, e_, hcy⟩ := Kd.at_int hr y hy hy2
  cases e_
  have hb1 : w.cell? ⟨B1, 0, none⟩ = some (.int .i64 a) := (blk_cell h1 0).trans rfl
  have hb2 : w.cell? ⟨B2, 0, none⟩ = some (.slice (some ad) l.length c0) := (blk_cell h2 0).trans rfl
  have hb3 : w.cell? ⟨B3, 0, none⟩ = some (.int .i64 s) := (blk_cell h3 0).trans rfl
  unfold impl_Average.cf impl_Average.rem
  generalize rd l x = vx at hcx ⊢
  generalize rd l y = vy at hcy ⊢
  have r1 : IntKind.i64.wrap (a * vx) = wrap64 (a * vx) := IntWalk.i64_left _
  have r2 : IntKind.i64.wrap (a * vy) = wrap64 (a * vy) := IntWalk.i64_left _
  have r3 : IntKind.i64.wrap (Int.tmod (wrap64 (a * vy)) s - Int.tmod (wrap64 (a * vx)) s) = wrap64 (Int.tmod (wrap64 (a * vy)) s - Int.tmod (wrap64 (a * vx)) s) := IntWalk.i64_left _
  clear hr h1 h2 h3
  go_enter Try.func18, Try.ntmps18
  go_wp2
  go_quiet (fail)
  go_wp2
  go_ret
  exact ⟨rfl, ⟨_, rfl⟩⟩
/-- What the sort keeps: the captured boxes, the row that is filled. -/
def impl_Average.J (A0 : Option Addr) (n c0 : Nat) (a s : Int) (gv gl gs go : Nat) (xs : List Int) (w W : World) : Prop :=
  Below w.heap.size w W ∧ W.heap[gv]? = some (.cells #[.slice A0 n c0] 22 (0, 0)) ∧ W.heap[gl]? = some (.cells #[.int .i64 a] 3 (0, 0)) ∧ W.heap[gs]? = some (.cells #[.int .i64 s] 3 (0, 0)) ∧ Rw.Row Rw.I W 3 go xs
theorem impl_Average.comp (l : List Int) (A0 : Option Addr) (c0 : Nat) (a s : Int) (gv gl gs go gd : Nat) (xs : List Int) (w : World) (hr : Kd.C (Kd.int .i64) w A0 l.length l) (hs : ¬ s = 0) (hd : w.heap.size ≤ gd) (n1 : gv ≠ gd) (n2 : gl ≠ gd) (n3 : gs ≠ gd) (n4 : go ≠ gd) :
    impl_Average.Cmp 18 #[.pointer (some ⟨gl, 0, none⟩), .pointer (some ⟨gv, 0, none⟩), .pointer (some ⟨gs, 0, none⟩)] l.length gd (impl_Average.cf l a s) (impl_Average.J A0 l.length c0 a s gv gl gs go xs w) where
  eg := enters_of Try.func18 (by kernel_rfl) rfl
  drew := fun W m ⟨h1, h2, h3, h4, h5⟩ => ⟨pw_below_drewN h1 m, h2, h3, h4, h5⟩
  set := fun W i v ⟨h1, h2, h3, h4, h5⟩ => ⟨below_set h1 hd, blk_far h2 (p := ⟨gd, i, none⟩) n1 v, blk_far h3 (p := ⟨gd, i, none⟩) n2 v, blk_far h4 (p := ⟨gd, i, none⟩) n3 v, h5.far (p := ⟨gd, i, none⟩) n4 v⟩
  cmp := fun W x y ⟨h1, h2, h3, h4, h5⟩ a1 a2 a3 a4 => impl_Average.lit l A0 c0 a s x y gl gv gs W h3 h2 h4 (Kd.C_below hr h1) hs a1 a2 a3 a4
theorem impl_Average.fill (n : Nat) (f : Nat → Int) (m : Nat) : (impl_Average.row n fun t => if t < m then f t else 0).set m (f m) = impl_Average.row n fun t => if t < m + 1 then f t else 0 := by
  refine impl_Average.row_set n _ _ m _ fun j _ => ?_
  by_cases c : j = m
  · rw [if_pos (by omega), if_pos c, c]
  · rw [if_neg c]
    by_cases d : j < m
    · rw [if_pos d, if_pos (by omega)]
    · rw [if_neg d, if_neg (by omega)]
def impl_Average.quo (l : List Int) (a s : Int) (t : Nat) : Int := wrap64 (Int.tdiv (wrap64 (a * rd l (t : Int))) s)
def impl_Average.lefts (l : List Int) (a s : Int) : Nat → Int
  | 0 => a
  | m + 1 => wrap64 (impl_Average.lefts l a s m - impl_Average.quo l a s m)
def impl_Average.incs (p b : Nat → Int) : Nat → Nat → Int
  | 0 => b
  | m + 1 => fun t => if t = (p m).toNat then wrap64 (impl_Average.incs p b m t + 1) else impl_Average.incs p b m t
def impl_Average.plc (l : List Int) (a s : Int) : Nat → Int := impl_Average.stabM (impl_Average.cf l a s) l.length (fun t => (t : Int))
def impl_Average.good (l : List Int) (a s : Int) : Bool := decide (l.length ≤ 40) && decide (s ≠ 0) && decide (0 ≤ impl_Average.lefts l a s l.length) && decide (impl_Average.lefts l a s l.length ≤ (l.length : Int))
def impl_Average.fin (l : List Int) (a s : Int) : Option (List Int × Bool) := if impl_Average.good l a s = true then some (impl_Average.row l.length (impl_Average.incs (impl_Average.plc l a s) (impl_Average.quo l a s) (impl_Average.lefts l a s l.length).toNat), true) else none
def impl_Average.f (k : Nat) (l : List Int) (a : Int) : Option (List Int × Bool) :=
  (impl_in.f (l.length : Int) 1 40).bind fun t1 => if t1 = true then ((impl_all.f l 0 1000000000).bind fun t2 => if t2 = true then ((impl_sumOf.f k l).bind fun s => if s = 0 then some ([], false) else ((impl_in.f a 0 1000000000).bind fun t3 => if t3 = true then (if a > s then some ([], false) else impl_Average.fin l a s) else some ([], false))) else some ([], false)) else some ([], false)
theorem impl_Average.mono : ∀ a0 a1 k, LeO (impl_Average.f k a0 a1) (impl_Average.f (k + 1) a0 a1) := by
  intro a0 a1 k
  unfold impl_Average.f
  refine LeO.bind (LeO.refl _) fun _ => ?_
  refine LeO.ite ?_ (LeO.refl _)
  refine LeO.bind (LeO.refl _) fun _ => ?_
  refine LeO.ite ?_ (LeO.refl _)
  exact LeO.bind (impl_sumOf.mono _ _) fun _ => LeO.refl _
set_option maxHeartbeats 8000000 in
set_option maxRecDepth 100000 in
theorem impl_Average.calls (k : Nat) (A0 : Option Addr) (c0 : Nat) (l : List Int) (a : Int) (r1 : List Int) (r2 : Bool) (w : World) (hr0 : Kd.C (Kd.int .i64) w A0 l.length l) (hc0 : l.length ≤ c0) (h : impl_Average.f k l a = some (r1, r2)) :
    Calls Try.prog 6 #[.slice A0 l.length c0, .int .i64 a] w fun e w' => ∃ v0_ : Value, e = .returned (.tuple #[v0_, .bool r2]) ∧ Kd.R (Kd.int .i64) 3 w' w.heap.size (fun _ => True) v0_ r1 ∧ Below w.heap.size w w' := by
  have hu := Try.underlying22
  have HR0 := Aside0.mk hr0
  have HC0 := Aside0.mk hc0
  clear hr0 hc0
  have HB := Aside0.mk (Below.refl w.heap.size w)
  unfold impl_Average.f at h
  obtain ⟨t1, ht1, h⟩ := Option.bind_eq_some_iff.mp h
  have HT1 := Aside0.mk ht1
  clear ht1
  cases t1 with
  | false =>
    rw [if_neg (by decide)] at h
    obtain ⟨rfl, rfl⟩ := Prod.mk.inj (Option.some.inj h)
    clear h
    go_enter Try.func6, Try.ntmps6
    go_wp2_with (first | ((with_reducible refine gate_dst (N := 2) rfl ?_); refine box_event ?hg (N := 2) ?hd (cs := #[.slice A0 l.length c0]) (t := 22) ?hr ?_; (case hd => rfl); (case hg => rfl); (case hr => first | (go_simp; done) | (go_simp; rfl)); intro gv hg w1 hbox hb; have GBKV := Aside0.mk (show w.heap.size ≤ gv by rw [hg]; exact below_size (by repeat (first | (with_reducible first | exact HB.out | apply below_alloc | apply pw_below_drewN | apply below_drew1) | exact HB.out))); have BKV := Aside0.mk hbox; have n0_ := Aside0.mk (below_step (by repeat (first | (with_reducible first | exact HB.out | apply below_alloc | apply pw_below_drewN | apply below_drew1) | exact HB.out)) hb); clear HB ; have HB := n0_; clear n0_; clear hb hbox hg; have hcw1BKV_0 : w1.cell? ⟨gv, 0, none⟩ = some (.slice A0 l.length c0) := (blk_cell BKV.out 0).trans rfl; have hfw1BKV_0 := blk_frozen BKV.out 0) | ((with_reducible refine gate_dst (N := 3) rfl ?_); refine box_event ?hg (N := 3) ?hd (cs := #[.int .i64 a]) (t := 3) ?hr ?_; (case hd => rfl); (case hg => rfl); (case hr => first | (go_simp; done) | (go_simp; rfl)); intro gl hg w2 hbox hb; have GBKL := Aside0.mk (show w.heap.size ≤ gl by rw [hg]; exact below_size (by repeat (first | (with_reducible first | exact HB.out | apply below_alloc | apply pw_below_drewN | apply below_drew1) | exact HB.out))); have BKL := Aside0.mk hbox; have n0_ := Aside0.mk (below_step (by repeat (first | (with_reducible first | exact HB.out | apply below_alloc | apply pw_below_drewN | apply below_drew1) | exact HB.out)) hb); have n1_ := Aside0.mk (blk_below (g := gv) (o := .cells #[.slice A0 l.length c0] 22 (0, 0)) (by (with_reducible repeat (first | refine blk_drewN ?_ _ | refine blk_drew ?_ | refine blk_alloc ?_ _)); exact BKV.out) hb); clear HB BKV; have HB := n0_; have BKV := n1_; clear n0_ n1_; clear hb hbox hg; have hcw2BKV_0 : w2.cell? ⟨gv, 0, none⟩ = some (.slice A0 l.length c0) := (blk_cell BKV.out 0).trans rfl; have hcw2BKL_0 : w2.cell? ⟨gl, 0, none⟩ = some (.int .i64 a) := (blk_cell BKL.out 0).trans rfl; have hfw2BKV_0 := blk_frozen BKV.out 0; have hfw2BKL_0 := blk_frozen BKL.out 0) | (go_at_call 14; (with_reducible refine (impl_in.calls _ _ _ _ _ HT1.out).mono ?_); rintro e w3 ⟨rfl, ⟨nd3, rfl⟩⟩))
    go_ret2
    exact ⟨.slice none 0 0, rfl, Kd.R_nil _ _ _ _ _, (by repeat (first | (with_reducible first | exact HB.out | apply below_alloc | apply pw_below_drewN | apply below_drew1) | exact HB.out))⟩
  | true =>
  rw [if_pos rfl] at h
  obtain ⟨t2, ht2, h⟩ := Option.bind_eq_some_iff.mp h
  have HT2 := Aside0.mk ht2
  clear ht2
  cases t2 with
  | false =>
    rw [if_neg (by decide)] at h
    obtain ⟨rfl, rfl⟩ := Prod.mk.inj (Option.some.inj h)
    clear h
    go_enter Try.func6, Try.ntmps6
    go_wp2_with (first | ((with_reducible refine gate_dst (N := 2) rfl ?_); refine box_event ?hg (N := 2) ?hd (cs := #[.slice A0 l.length c0]) (t := 22) ?hr ?_; (case hd => rfl); (case hg => rfl); (case hr => first | (go_simp; done) | (go_simp; rfl)); intro gv hg w1 hbox hb; have GBKV := Aside0.mk (show w.heap.size ≤ gv by rw [hg]; exact below_size (by repeat (first | (with_reducible first | exact HB.out | apply below_alloc | apply pw_below_drewN | apply below_drew1) | exact HB.out))); have BKV := Aside0.mk hbox; have n0_ := Aside0.mk (below_step (by repeat (first | (with_reducible first | exact HB.out | apply below_alloc | apply pw_below_drewN | apply below_drew1) | exact HB.out)) hb); clear HB ; have HB := n0_; clear n0_; clear hb hbox hg; have hcw1BKV_0 : w1.cell? ⟨gv, 0, none⟩ = some (.slice A0 l.length c0) := (blk_cell BKV.out 0).trans rfl; have hfw1BKV_0 := blk_frozen BKV.out 0) | ((with_reducible refine gate_dst (N := 3) rfl ?_); refine box_event ?hg (N := 3) ?hd (cs := #[.int .i64 a]) (t := 3) ?hr ?_; (case hd => rfl); (case hg => rfl); (case hr => first | (go_simp; done) | (go_simp; rfl)); intro gl hg w2 hbox hb; have GBKL := Aside0.mk (show w.heap.size ≤ gl by rw [hg]; exact below_size (by repeat (first | (with_reducible first | exact HB.out | apply below_alloc | apply pw_below_drewN | apply below_drew1) | exact HB.out))); have BKL := Aside0.mk hbox; have n0_ := Aside0.mk (below_step (by repeat (first | (with_reducible first | exact HB.out | apply below_alloc | apply pw_below_drewN | apply below_drew1) | exact HB.out)) hb); have n1_ := Aside0.mk (blk_below (g := gv) (o := .cells #[.slice A0 l.length c0] 22 (0, 0)) (by (with_reducible repeat (first | refine blk_drewN ?_ _ | refine blk_drew ?_ | refine blk_alloc ?_ _)); exact BKV.out) hb); clear HB BKV; have HB := n0_; have BKV := n1_; clear n0_ n1_; clear hb hbox hg; have hcw2BKV_0 : w2.cell? ⟨gv, 0, none⟩ = some (.slice A0 l.length c0) := (blk_cell BKV.out 0).trans rfl; have hcw2BKL_0 : w2.cell? ⟨gl, 0, none⟩ = some (.int .i64 a) := (blk_cell BKL.out 0).trans rfl; have hfw2BKV_0 := blk_frozen BKV.out 0; have hfw2BKL_0 := blk_frozen BKL.out 0) | (go_at_call 14; (with_reducible refine (impl_in.calls _ _ _ _ _ HT1.out).mono ?_); rintro e w3 ⟨rfl, ⟨nd3, rfl⟩⟩) | (go_at_call 15; refine (impl_all.calls A0 c0 l 0 1000000000 _ _ (Kd.C_below HR0.out (by repeat (first | (with_reducible first | exact HB.out | apply below_alloc | apply pw_below_drewN | apply below_drew1) | exact HB.out))) HC0.out HT2.out).mono ?_; rintro e w4 ⟨rfl, hb⟩; have n0_ := Aside0.mk (below_step (by repeat (first | (with_reducible first | exact HB.out | apply below_alloc | apply pw_below_drewN | apply below_drew1) | exact HB.out)) hb); have n1_ := Aside0.mk (blk_below (g := gv) (o := .cells #[.slice A0 l.length c0] 22 (0, 0)) (by (with_reducible repeat (first | refine blk_drewN ?_ _ | refine blk_drew ?_ | refine blk_alloc ?_ _)); exact BKV.out) hb); have n2_ := Aside0.mk (blk_below (g := gl) (o := .cells #[.int .i64 a] 3 (0, 0)) (by (with_reducible repeat (first | refine blk_drewN ?_ _ | refine blk_drew ?_ | refine blk_alloc ?_ _)); exact BKL.out) hb); clear HB BKV BKL; have HB := n0_; have BKV := n1_; have BKL := n2_; clear n0_ n1_ n2_; clear hb; have hcw4BKV_0 : w4.cell? ⟨gv, 0, none⟩ = some (.slice A0 l.length c0) := (blk_cell BKV.out 0).trans rfl; have hcw4BKL_0 : w4.cell? ⟨gl, 0, none⟩ = some (.int .i64 a) := (blk_cell BKL.out 0).trans rfl; have hfw4BKV_0 := blk_frozen BKV.out 0; have hfw4BKL_0 := blk_frozen BKL.out 0))
    go_ret2
    exact ⟨.slice none 0 0, rfl, Kd.R_nil _ _ _ _ _, (by repeat (first | (with_reducible first | exact HB.out | apply below_alloc | apply pw_below_drewN | apply below_drew1) | exact HB.out))⟩
  | true =>
  rw [if_pos rfl] at h
  obtain ⟨s, ht3, h⟩ := Option.bind_eq_some_iff.mp h
  have HT3 := Aside0.mk ht3
  clear ht3
  by_cases hs0 : s = 0
  · rw [if_pos hs0] at h
    obtain ⟨rfl, rfl⟩ := Prod.mk.inj (Option.some.inj h)
    have d0 : (s == 0) = true := beq_iff_eq.2 hs0
    have d1 : decide (s = 0) = true := decide_eq_true hs0
    clear h hs0
    go_enter Try.func6, Try.ntmps6
    go_wp2_with (first | ((with_reducible refine gate_dst (N := 2) rfl ?_); refine box_event ?hg (N := 2) ?hd (cs := #[.slice A0 l.length c0]) (t := 22) ?hr ?_; (case hd => rfl); (case hg => rfl); (case hr => first | (go_simp; done) | (go_simp; rfl)); intro gv hg w1 hbox hb; have GBKV := Aside0.mk (show w.heap.size ≤ gv by rw [hg]; exact below_size (by repeat (first | (with_reducible first | exact HB.out | apply below_alloc | apply pw_below_drewN | apply below_drew1) | exact HB.out))); have BKV := Aside0.mk hbox; have n0_ := Aside0.mk (below_step (by repeat (first | (with_reducible first | exact HB.out | apply below_alloc | apply pw_below_drewN | apply below_drew1) | exact HB.out)) hb); clear HB ; have HB := n0_; clear n0_; clear hb hbox hg; have hcw1BKV_0 : w1.cell? ⟨gv, 0, none⟩ = some (.slice A0 l.length c0) := (blk_cell BKV.out 0).trans rfl; have hfw1BKV_0 := blk_frozen BKV.out 0) | ((with_reducible refine gate_dst (N := 3) rfl ?_); refine box_event ?hg (N := 3) ?hd (cs := #[.int .i64 a]) (t := 3) ?hr ?_; (case hd => rfl); (case hg => rfl); (case hr => first | (go_simp; done) | (go_simp; rfl)); intro gl hg w2 hbox hb; have GBKL := Aside0.mk (show w.heap.size ≤ gl by rw [hg]; exact below_size (by repeat (first | (with_reducible first | exact HB.out | apply below_alloc | apply pw_below_drewN | apply below_drew1) | exact HB.out))); have BKL := Aside0.mk hbox; have n0_ := Aside0.mk (below_step (by repeat (first | (with_reducible first | exact HB.out | apply below_alloc | apply pw_below_drewN | apply below_drew1) | exact HB.out)) hb); have n1_ := Aside0.mk (blk_below (g := gv) (o := .cells #[.slice A0 l.length c0] 22 (0, 0)) (by (with_reducible repeat (first | refine blk_drewN ?_ _ | refine blk_drew ?_ | refine blk_alloc ?_ _)); exact BKV.out) hb); clear HB BKV; have HB := n0_; have BKV := n1_; clear n0_ n1_; clear hb hbox hg; have hcw2BKV_0 : w2.cell? ⟨gv, 0, none⟩ = some (.slice A0 l.length c0) := (blk_cell BKV.out 0).trans rfl; have hcw2BKL_0 : w2.cell? ⟨gl, 0, none⟩ = some (.int .i64 a) := (blk_cell BKL.out 0).trans rfl; have hfw2BKV_0 := blk_frozen BKV.out 0; have hfw2BKL_0 := blk_frozen BKL.out 0) | (go_at_call 14; (with_reducible refine (impl_in.calls _ _ _ _ _ HT1.out).mono ?_); rintro e w3 ⟨rfl, ⟨nd3, rfl⟩⟩) | (go_at_call 15; refine (impl_all.calls A0 c0 l 0 1000000000 _ _ (Kd.C_below HR0.out (by repeat (first | (with_reducible first | exact HB.out | apply below_alloc | apply pw_below_drewN | apply below_drew1) | exact HB.out))) HC0.out HT2.out).mono ?_; rintro e w4 ⟨rfl, hb⟩; have n0_ := Aside0.mk (below_step (by repeat (first | (with_reducible first | exact HB.out | apply below_alloc | apply pw_below_drewN | apply below_drew1) | exact HB.out)) hb); have n1_ := Aside0.mk (blk_below (g := gv) (o := .cells #[.slice A0 l.length c0] 22 (0, 0)) (by (with_reducible repeat (first | refine blk_drewN ?_ _ | refine blk_drew ?_ | refine blk_alloc ?_ _)); exact BKV.out) hb); have n2_ := Aside0.mk (blk_below (g := gl) (o := .cells #[.int .i64 a] 3 (0, 0)) (by (with_reducible repeat (first | refine blk_drewN ?_ _ | refine blk_drew ?_ | refine blk_alloc ?_ _)); exact BKL.out) hb); clear HB BKV BKL; have HB := n0_; have BKV := n1_; have BKL := n2_; clear n0_ n1_ n2_; clear hb; have hcw4BKV_0 : w4.cell? ⟨gv, 0, none⟩ = some (.slice A0 l.length c0) := (blk_cell BKV.out 0).trans rfl; have hcw4BKL_0 : w4.cell? ⟨gl, 0, none⟩ = some (.int .i64 a) := (blk_cell BKL.out 0).trans rfl; have hfw4BKV_0 := blk_frozen BKV.out 0; have hfw4BKL_0 := blk_frozen BKL.out 0) | (go_at_call 16; refine (impl_sumOf.calls k A0 c0 l s _ (Kd.C_below HR0.out (by repeat (first | (with_reducible first | exact HB.out | apply below_alloc | apply pw_below_drewN | apply below_drew1) | exact HB.out))) HC0.out HT3.out).mono ?_; rintro e w5 ⟨rfl, ⟨nd5, rfl⟩⟩) | ((with_reducible refine gate_dst (N := 6) rfl ?_); refine box_event ?hg (N := 6) ?hd (cs := #[.int .i64 0]) (t := 3) ?hr ?_; (case hd => rfl); (case hg => rfl); (case hr => first | (go_simp; done) | (go_simp; rfl)); intro gs hg w6 hbox hb; have NEgvgs := Aside0.mk (show gv ≠ gs by rw [hg]; exact Nat.ne_of_lt (blk_lt BKV.out)); have NEglgs := Aside0.mk (show gl ≠ gs by rw [hg]; exact Nat.ne_of_lt (blk_lt BKL.out)); have GBKS := Aside0.mk (show w.heap.size ≤ gs by rw [hg]; exact below_size (by repeat (first | (with_reducible first | exact HB.out | apply below_alloc | apply pw_below_drewN | apply below_drew1) | exact HB.out))); have BKS := Aside0.mk hbox; have n0_ := Aside0.mk (below_step (by repeat (first | (with_reducible first | exact HB.out | apply below_alloc | apply pw_below_drewN | apply below_drew1) | exact HB.out)) hb); have n1_ := Aside0.mk (blk_below (g := gv) (o := .cells #[.slice A0 l.length c0] 22 (0, 0)) (by (with_reducible repeat (first | refine blk_drewN ?_ _ | refine blk_drew ?_ | refine blk_alloc ?_ _)); exact BKV.out) hb); have n2_ := Aside0.mk (blk_below (g := gl) (o := .cells #[.int .i64 a] 3 (0, 0)) (by (with_reducible repeat (first | refine blk_drewN ?_ _ | refine blk_drew ?_ | refine blk_alloc ?_ _)); exact BKL.out) hb); clear HB BKV BKL; have HB := n0_; have BKV := n1_; have BKL := n2_; clear n0_ n1_ n2_; clear hb hbox hg; have hcw6BKV_0 : w6.cell? ⟨gv, 0, none⟩ = some (.slice A0 l.length c0) := (blk_cell BKV.out 0).trans rfl; have hcw6BKL_0 : w6.cell? ⟨gl, 0, none⟩ = some (.int .i64 a) := (blk_cell BKL.out 0).trans rfl; have hcw6BKS_0 : w6.cell? ⟨gs, 0, none⟩ = some (.int .i64 0) := (blk_cell BKS.out 0).trans rfl; have hfw6BKV_0 := blk_frozen BKV.out 0; have hfw6BKL_0 := blk_frozen BKL.out 0; have hfw6BKS_0 := blk_frozen BKS.out 0) | ((with_reducible refine gate_store (t := 3) (p := 6) rfl ?_); refine store_event (t := 3) (p := 6) (v := ?vo_w7) (w1 := (w6.setCell ⟨gs, 0, none⟩ (.int .i64 s))) ?hg ?ho ?hn ?hr ?_; (case ho => rfl); (case hg => rfl); (case hn => rfl); (case hr => first | (go_simp; done) | (go_simp; rfl)); intro w7 hw; have n0_ : Aside0 (w7.heap[gs]? = some (.cells #[.int .i64 s] 3 (0, 0))) := Aside0.mk (by rw [hw]; exact (blk_put (cs := #[.int .i64 0]) (cs' := #[.int .i64 s]) BKS.out 0 (.int .i64 s) rfl)); have n1_ : Aside0 (Below w.heap.size w w7) := Aside0.mk (by rw [hw]; exact (below_set HB.out GBKS.out)); have n2_ : Aside0 (w7.heap[gv]? = some (.cells #[.slice A0 l.length c0] 22 (0, 0))) := Aside0.mk (by rw [hw]; exact (blk_far BKV.out (p := ⟨gs, 0, none⟩) NEgvgs.out (.int .i64 s))); have n3_ : Aside0 (w7.heap[gl]? = some (.cells #[.int .i64 a] 3 (0, 0))) := Aside0.mk (by rw [hw]; exact (blk_far BKL.out (p := ⟨gs, 0, none⟩) NEglgs.out (.int .i64 s))); clear HB BKS BKV BKL hw; have BKS := n0_; have HB := n1_; have BKV := n2_; have BKL := n3_; clear n0_ n1_ n2_ n3_; have hcw7BKV_0 : w7.cell? ⟨gv, 0, none⟩ = some (.slice A0 l.length c0) := (blk_cell BKV.out 0).trans rfl; have hcw7BKL_0 : w7.cell? ⟨gl, 0, none⟩ = some (.int .i64 a) := (blk_cell BKL.out 0).trans rfl; have hcw7BKS_0 : w7.cell? ⟨gs, 0, none⟩ = some (.int .i64 s) := (blk_cell BKS.out 0).trans rfl; have hfw7BKV_0 := blk_frozen BKV.out 0; have hfw7BKL_0 := blk_frozen BKL.out 0; have hfw7BKS_0 := blk_frozen BKS.out 0))
    go_ret2
    exact ⟨.slice none 0 0, rfl, Kd.R_nil _ _ _ _ _, (by repeat (first | (with_reducible first | exact HB.out | apply below_alloc | apply pw_below_drewN | apply below_drew1) | exact HB.out))⟩
  rw [if_neg hs0] at h
  have d0 : (s == 0) = false := beq_eq_false_iff_ne.2 hs0
  have d1 : decide (s = 0) = false := decide_eq_false hs0
  obtain ⟨t4, ht4, h⟩ := Option.bind_eq_some_iff.mp h
  have HT4 := Aside0.mk ht4
  have HS0 := Aside0.mk hs0
  clear ht4 hs0
  cases t4 with
  | false =>
    rw [if_neg (by decide)] at h
    obtain ⟨rfl, rfl⟩ := Prod.mk.inj (Option.some.inj h)
    clear h
    go_enter Try.func6, Try.ntmps6
    go_wp2_with (first | ((with_reducible refine gate_dst (N := 2) rfl ?_); refine box_event ?hg (N := 2) ?hd (cs := #[.slice A0 l.length c0]) (t := 22) ?hr ?_; (case hd => rfl); (case hg => rfl); (case hr => first | (go_simp; done) | (go_simp; rfl)); intro gv hg w1 hbox hb; have GBKV := Aside0.mk (show w.heap.size ≤ gv by rw [hg]; exact below_size (by repeat (first | (with_reducible first | exact HB.out | apply below_alloc | apply pw_below_drewN | apply below_drew1) | exact HB.out))); have BKV := Aside0.mk hbox; have n0_ := Aside0.mk (below_step (by repeat (first | (with_reducible first | exact HB.out | apply below_alloc | apply pw_below_drewN | apply below_drew1) | exact HB.out)) hb); clear HB ; have HB := n0_; clear n0_; clear hb hbox hg; have hcw1BKV_0 : w1.cell? ⟨gv, 0, none⟩ = some (.slice A0 l.length c0) := (blk_cell BKV.out 0).trans rfl; have hfw1BKV_0 := blk_frozen BKV.out 0) | ((with_reducible refine gate_dst (N := 3) rfl ?_); refine box_event ?hg (N := 3) ?hd (cs := #[.int .i64 a]) (t := 3) ?hr ?_; (case hd => rfl); (case hg => rfl); (case hr => first | (go_simp; done) | (go_simp; rfl)); intro gl hg w2 hbox hb; have GBKL := Aside0.mk (show w.heap.size ≤ gl by rw [hg]; exact below_size (by repeat (first | (with_reducible first | exact HB.out | apply below_alloc | apply pw_below_drewN | apply below_drew1) | exact HB.out))); have BKL := Aside0.mk hbox; have n0_ := Aside0.mk (below_step (by repeat (first | (with_reducible first | exact HB.out | apply below_alloc | apply pw_below_drewN | apply below_drew1) | exact HB.out)) hb); have n1_ := Aside0.mk (blk_below (g := gv) (o := .cells #[.slice A0 l.length c0] 22 (0, 0)) (by (with_reducible repeat (first | refine blk_drewN ?_ _ | refine blk_drew ?_ | refine blk_alloc ?_ _)); exact BKV.out) hb); clear HB BKV; have HB := n0_; have BKV := n1_; clear n0_ n1_; clear hb hbox hg; have hcw2BKV_0 : w2.cell? ⟨gv, 0, none⟩ = some (.slice A0 l.length c0) := (blk_cell BKV.out 0).trans rfl; have hcw2BKL_0 : w2.cell? ⟨gl, 0, none⟩ = some (.int .i64 a) := (blk_cell BKL.out 0).trans rfl; have hfw2BKV_0 := blk_frozen BKV.out 0; have hfw2BKL_0 := blk_frozen BKL.out 0) | (go_at_call 14; (with_reducible refine (impl_in.calls _ _ _ _ _ HT1.out).mono ?_); rintro e w3 ⟨rfl, ⟨nd3, rfl⟩⟩) | (go_at_call 15; refine (impl_all.calls A0 c0 l 0 1000000000 _ _ (Kd.C_below HR0.out (by repeat (first | (with_reducible first | exact HB.out | apply below_alloc | apply pw_below_drewN | apply below_drew1) | exact HB.out))) HC0.out HT2.out).mono ?_; rintro e w4 ⟨rfl, hb⟩; have n0_ := Aside0.mk (below_step (by repeat (first | (with_reducible first | exact HB.out | apply below_alloc | apply pw_below_drewN | apply below_drew1) | exact HB.out)) hb); have n1_ := Aside0.mk (blk_below (g := gv) (o := .cells #[.slice A0 l.length c0] 22 (0, 0)) (by (with_reducible repeat (first | refine blk_drewN ?_ _ | refine blk_drew ?_ | refine blk_alloc ?_ _)); exact BKV.out) hb); have n2_ := Aside0.mk (blk_below (g := gl) (o := .cells #[.int .i64 a] 3 (0, 0)) (by (with_reducible repeat (first | refine blk_drewN ?_ _ | refine blk_drew ?_ | refine blk_alloc ?_ _)); exact BKL.out) hb); clear HB BKV BKL; have HB := n0_; have BKV := n1_; have BKL := n2_; clear n0_ n1_ n2_; clear hb; have hcw4BKV_0 : w4.cell? ⟨gv, 0, none⟩ = some (.slice A0 l.length c0) := (blk_cell BKV.out 0).trans rfl; have hcw4BKL_0 : w4.cell? ⟨gl, 0, none⟩ = some (.int .i64 a) := (blk_cell BKL.out 0).trans rfl; have hfw4BKV_0 := blk_frozen BKV.out 0; have hfw4BKL_0 := blk_frozen BKL.out 0) | (go_at_call 16; refine (impl_sumOf.calls k A0 c0 l s _ (Kd.C_below HR0.out (by repeat (first | (with_reducible first | exact HB.out | apply below_alloc | apply pw_below_drewN | apply below_drew1) | exact HB.out))) HC0.out HT3.out).mono ?_; rintro e w5 ⟨rfl, ⟨nd5, rfl⟩⟩) | ((with_reducible refine gate_dst (N := 6) rfl ?_); refine box_event ?hg (N := 6) ?hd (cs := #[.int .i64 0]) (t := 3) ?hr ?_; (case hd => rfl); (case hg => rfl); (case hr => first | (go_simp; done) | (go_simp; rfl)); intro gs hg w6 hbox hb; have NEgvgs := Aside0.mk (show gv ≠ gs by rw [hg]; exact Nat.ne_of_lt (blk_lt BKV.out)); have NEglgs := Aside0.mk (show gl ≠ gs by rw [hg]; exact Nat.ne_of_lt (blk_lt BKL.out)); have GBKS := Aside0.mk (show w.heap.size ≤ gs by rw [hg]; exact below_size (by repeat (first | (with_reducible first | exact HB.out | apply below_alloc | apply pw_below_drewN | apply below_drew1) | exact HB.out))); have BKS := Aside0.mk hbox; have n0_ := Aside0.mk (below_step (by repeat (first | (with_reducible first | exact HB.out | apply below_alloc | apply pw_below_drewN | apply below_drew1) | exact HB.out)) hb); have n1_ := Aside0.mk (blk_below (g := gv) (o := .cells #[.slice A0 l.length c0] 22 (0, 0)) (by (with_reducible repeat (first | refine blk_drewN ?_ _ | refine blk_drew ?_ | refine blk_alloc ?_ _)); exact BKV.out) hb); have n2_ := Aside0.mk (blk_below (g := gl) (o := .cells #[.int .i64 a] 3 (0, 0)) (by (with_reducible repeat (first | refine blk_drewN ?_ _ | refine blk_drew ?_ | refine blk_alloc ?_ _)); exact BKL.out) hb); clear HB BKV BKL; have HB := n0_; have BKV := n1_; have BKL := n2_; clear n0_ n1_ n2_; clear hb hbox hg; have hcw6BKV_0 : w6.cell? ⟨gv, 0, none⟩ = some (.slice A0 l.length c0) := (blk_cell BKV.out 0).trans rfl; have hcw6BKL_0 : w6.cell? ⟨gl, 0, none⟩ = some (.int .i64 a) := (blk_cell BKL.out 0).trans rfl; have hcw6BKS_0 : w6.cell? ⟨gs, 0, none⟩ = some (.int .i64 0) := (blk_cell BKS.out 0).trans rfl; have hfw6BKV_0 := blk_frozen BKV.out 0; have hfw6BKL_0 := blk_frozen BKL.out 0; have hfw6BKS_0 := blk_frozen BKS.out 0) | ((with_reducible refine gate_store (t := 3) (p := 6) rfl ?_); refine store_event (t := 3) (p := 6) (v := ?vo_w7) (w1 := (w6.setCell ⟨gs, 0, none⟩ (.int .i64 s))) ?hg ?ho ?hn ?hr ?_; (case ho => rfl); (case hg => rfl); (case hn => rfl); (case hr => first | (go_simp; done) | (go_simp; rfl)); intro w7 hw; have n0_ : Aside0 (w7.heap[gs]? = some (.cells #[.int .i64 s] 3 (0, 0))) := Aside0.mk (by rw [hw]; exact (blk_put (cs := #[.int .i64 0]) (cs' := #[.int .i64 s]) BKS.out 0 (.int .i64 s) rfl)); have n1_ : Aside0 (Below w.heap.size w w7) := Aside0.mk (by rw [hw]; exact (below_set HB.out GBKS.out)); have n2_ : Aside0 (w7.heap[gv]? = some (.cells #[.slice A0 l.length c0] 22 (0, 0))) := Aside0.mk (by rw [hw]; exact (blk_far BKV.out (p := ⟨gs, 0, none⟩) NEgvgs.out (.int .i64 s))); have n3_ : Aside0 (w7.heap[gl]? = some (.cells #[.int .i64 a] 3 (0, 0))) := Aside0.mk (by rw [hw]; exact (blk_far BKL.out (p := ⟨gs, 0, none⟩) NEglgs.out (.int .i64 s))); clear HB BKS BKV BKL hw; have BKS := n0_; have HB := n1_; have BKV := n2_; have BKL := n3_; clear n0_ n1_ n2_ n3_; have hcw7BKV_0 : w7.cell? ⟨gv, 0, none⟩ = some (.slice A0 l.length c0) := (blk_cell BKV.out 0).trans rfl; have hcw7BKL_0 : w7.cell? ⟨gl, 0, none⟩ = some (.int .i64 a) := (blk_cell BKL.out 0).trans rfl; have hcw7BKS_0 : w7.cell? ⟨gs, 0, none⟩ = some (.int .i64 s) := (blk_cell BKS.out 0).trans rfl; have hfw7BKV_0 := blk_frozen BKV.out 0; have hfw7BKL_0 := blk_frozen BKL.out 0; have hfw7BKS_0 := blk_frozen BKS.out 0) | (go_at_call 14; (with_reducible refine (impl_in.calls _ _ _ _ _ HT4.out).mono ?_); rintro e w8 ⟨rfl, ⟨nd8, rfl⟩⟩))
    go_ret2
    exact ⟨.slice none 0 0, rfl, Kd.R_nil _ _ _ _ _, (by repeat (first | (with_reducible first | exact HB.out | apply below_alloc | apply pw_below_drewN | apply below_drew1) | exact HB.out))⟩
  | true =>
  rw [if_pos rfl] at h
  by_cases has : a > s
  · rw [if_pos has] at h
    obtain ⟨rfl, rfl⟩ := Prod.mk.inj (Option.some.inj h)
    have d2 : decide (a > s) = true := decide_eq_true has
    have d3 : decide (s < a) = true := decide_eq_true has
    clear h has
    go_enter Try.func6, Try.ntmps6
    go_wp2_with (first | ((with_reducible refine gate_dst (N := 2) rfl ?_); refine box_event ?hg (N := 2) ?hd (cs := #[.slice A0 l.length c0]) (t := 22) ?hr ?_; (case hd => rfl); (case hg => rfl); (case hr => first | (go_simp; done) | (go_simp; rfl)); intro gv hg w1 hbox hb; have GBKV := Aside0.mk (show w.heap.size ≤ gv by rw [hg]; exact below_size (by repeat (first | (with_reducible first | exact HB.out | apply below_alloc | apply pw_below_drewN | apply below_drew1) | exact HB.out))); have BKV := Aside0.mk hbox; have n0_ := Aside0.mk (below_step (by repeat (first | (with_reducible first | exact HB.out | apply below_alloc | apply pw_below_drewN | apply below_drew1) | exact HB.out)) hb); clear HB ; have HB := n0_; clear n0_; clear hb hbox hg; have hcw1BKV_0 : w1.cell? ⟨gv, 0, none⟩ = some (.slice A0 l.length c0) := (blk_cell BKV.out 0).trans rfl; have hfw1BKV_0 := blk_frozen BKV.out 0) | ((with_reducible refine gate_dst (N := 3) rfl ?_); refine box_event ?hg (N := 3) ?hd (cs := #[.int .i64 a]) (t := 3) ?hr ?_; (case hd => rfl); (case hg => rfl); (case hr => first | (go_simp; done) | (go_simp; rfl)); intro gl hg w2 hbox hb; have GBKL := Aside0.mk (show w.heap.size ≤ gl by rw [hg]; exact below_size (by repeat (first | (with_reducible first | exact HB.out | apply below_alloc | apply pw_below_drewN | apply below_drew1) | exact HB.out))); have BKL := Aside0.mk hbox; have n0_ := Aside0.mk (below_step (by repeat (first | (with_reducible first | exact HB.out | apply below_alloc | apply pw_below_drewN | apply below_drew1) | exact HB.out)) hb); have n1_ := Aside0.mk (blk_below (g := gv) (o := .cells #[.slice A0 l.length c0] 22 (0, 0)) (by (with_reducible repeat (first | refine blk_drewN ?_ _ | refine blk_drew ?_ | refine blk_alloc ?_ _)); exact BKV.out) hb); clear HB BKV; have HB := n0_; have BKV := n1_; clear n0_ n1_; clear hb hbox hg; have hcw2BKV_0 : w2.cell? ⟨gv, 0, none⟩ = some (.slice A0 l.length c0) := (blk_cell BKV.out 0).trans rfl; have hcw2BKL_0 : w2.cell? ⟨gl, 0, none⟩ = some (.int .i64 a) := (blk_cell BKL.out 0).trans rfl; have hfw2BKV_0 := blk_frozen BKV.out 0; have hfw2BKL_0 := blk_frozen BKL.out 0) | (go_at_call 14; (with_reducible refine (impl_in.calls _ _ _ _ _ HT1.out).mono ?_); rintro e w3 ⟨rfl, ⟨nd3, rfl⟩⟩) | (go_at_call 15; refine (impl_all.calls A0 c0 l 0 1000000000 _ _ (Kd.C_below HR0.out (by repeat (first | (with_reducible first | exact HB.out | apply below_alloc | apply pw_below_drewN | apply below_drew1) | exact HB.out))) HC0.out HT2.out).mono ?_; rintro e w4 ⟨rfl, hb⟩; have n0_ := Aside0.mk (below_step (by repeat (first | (with_reducible first | exact HB.out | apply below_alloc | apply pw_below_drewN | apply below_drew1) | exact HB.out)) hb); have n1_ := Aside0.mk (blk_below (g := gv) (o := .cells #[.slice A0 l.length c0] 22 (0, 0)) (by (with_reducible repeat (first | refine blk_drewN ?_ _ | refine blk_drew ?_ | refine blk_alloc ?_ _)); exact BKV.out) hb); have n2_ := Aside0.mk (blk_below (g := gl) (o := .cells #[.int .i64 a] 3 (0, 0)) (by (with_reducible repeat (first | refine blk_drewN ?_ _ | refine blk_drew ?_ | refine blk_alloc ?_ _)); exact BKL.out) hb); clear HB BKV BKL; have HB := n0_; have BKV := n1_; have BKL := n2_; clear n0_ n1_ n2_; clear hb; have hcw4BKV_0 : w4.cell? ⟨gv, 0, none⟩ = some (.slice A0 l.length c0) := (blk_cell BKV.out 0).trans rfl; have hcw4BKL_0 : w4.cell? ⟨gl, 0, none⟩ = some (.int .i64 a) := (blk_cell BKL.out 0).trans rfl; have hfw4BKV_0 := blk_frozen BKV.out 0; have hfw4BKL_0 := blk_frozen BKL.out 0) | (go_at_call 16; refine (impl_sumOf.calls k A0 c0 l s _ (Kd.C_below HR0.out (by repeat (first | (with_reducible first | exact HB.out | apply below_alloc | apply pw_below_drewN | apply below_drew1) | exact HB.out))) HC0.out HT3.out).mono ?_; rintro e w5 ⟨rfl, ⟨nd5, rfl⟩⟩) | ((with_reducible refine gate_dst (N := 6) rfl ?_); refine box_event ?hg (N := 6) ?hd (cs := #[.int .i64 0]) (t := 3) ?hr ?_; (case hd => rfl); (case hg => rfl); (case hr => first | (go_simp; done) | (go_simp; rfl)); intro gs hg w6 hbox hb; have NEgvgs := Aside0.mk (show gv ≠ gs by rw [hg]; exact Nat.ne_of_lt (blk_lt BKV.out)); have NEglgs := Aside0.mk (show gl ≠ gs by rw [hg]; exact Nat.ne_of_lt (blk_lt BKL.out)); have GBKS := Aside0.mk (show w.heap.size ≤ gs by rw [hg]; exact below_size (by repeat (first | (with_reducible first | exact HB.out | apply below_alloc | apply pw_below_drewN | apply below_drew1) | exact HB.out))); have BKS := Aside0.mk hbox; have n0_ := Aside0.mk (below_step (by repeat (first | (with_reducible first | exact HB.out | apply below_alloc | apply pw_below_drewN | apply below_drew1) | exact HB.out)) hb); have n1_ := Aside0.mk (blk_below (g := gv) (o := .cells #[.slice A0 l.length c0] 22 (0, 0)) (by (with_reducible repeat (first | refine blk_drewN ?_ _ | refine blk_drew ?_ | refine blk_alloc ?_ _)); exact BKV.out) hb); have n2_ := Aside0.mk (blk_below (g := gl) (o := .cells #[.int .i64 a] 3 (0, 0)) (by (with_reducible repeat (first | refine blk_drewN ?_ _ | refine blk_drew ?_ | refine blk_alloc ?_ _)); exact BKL.out) hb); clear HB BKV BKL; have HB := n0_; have BKV := n1_; have BKL := n2_; clear n0_ n1_ n2_; clear hb hbox hg; have hcw6BKV_0 : w6.cell? ⟨gv, 0, none⟩ = some (.slice A0 l.length c0) := (blk_cell BKV.out 0).trans rfl; have hcw6BKL_0 : w6.cell? ⟨gl, 0, none⟩ = some (.int .i64 a) := (blk_cell BKL.out 0).trans rfl; have hcw6BKS_0 : w6.cell? ⟨gs, 0, none⟩ = some (.int .i64 0) := (blk_cell BKS.out 0).trans rfl; have hfw6BKV_0 := blk_frozen BKV.out 0; have hfw6BKL_0 := blk_frozen BKL.out 0; have hfw6BKS_0 := blk_frozen BKS.out 0) | ((with_reducible refine gate_store (t := 3) (p := 6) rfl ?_); refine store_event (t := 3) (p := 6) (v := ?vo_w7) (w1 := (w6.setCell ⟨gs, 0, none⟩ (.int .i64 s))) ?hg ?ho ?hn ?hr ?_; (case ho => rfl); (case hg => rfl); (case hn => rfl); (case hr => first | (go_simp; done) | (go_simp; rfl)); intro w7 hw; have n0_ : Aside0 (w7.heap[gs]? = some (.cells #[.int .i64 s] 3 (0, 0))) := Aside0.mk (by rw [hw]; exact (blk_put (cs := #[.int .i64 0]) (cs' := #[.int .i64 s]) BKS.out 0 (.int .i64 s) rfl)); have n1_ : Aside0 (Below w.heap.size w w7) := Aside0.mk (by rw [hw]; exact (below_set HB.out GBKS.out)); have n2_ : Aside0 (w7.heap[gv]? = some (.cells #[.slice A0 l.length c0] 22 (0, 0))) := Aside0.mk (by rw [hw]; exact (blk_far BKV.out (p := ⟨gs, 0, none⟩) NEgvgs.out (.int .i64 s))); have n3_ : Aside0 (w7.heap[gl]? = some (.cells #[.int .i64 a] 3 (0, 0))) := Aside0.mk (by rw [hw]; exact (blk_far BKL.out (p := ⟨gs, 0, none⟩) NEglgs.out (.int .i64 s))); clear HB BKS BKV BKL hw; have BKS := n0_; have HB := n1_; have BKV := n2_; have BKL := n3_; clear n0_ n1_ n2_ n3_; have hcw7BKV_0 : w7.cell? ⟨gv, 0, none⟩ = some (.slice A0 l.length c0) := (blk_cell BKV.out 0).trans rfl; have hcw7BKL_0 : w7.cell? ⟨gl, 0, none⟩ = some (.int .i64 a) := (blk_cell BKL.out 0).trans rfl; have hcw7BKS_0 : w7.cell? ⟨gs, 0, none⟩ = some (.int .i64 s) := (blk_cell BKS.out 0).trans rfl; have hfw7BKV_0 := blk_frozen BKV.out 0; have hfw7BKL_0 := blk_frozen BKL.out 0; have hfw7BKS_0 := blk_frozen BKS.out 0) | (go_at_call 14; (with_reducible refine (impl_in.calls _ _ _ _ _ HT4.out).mono ?_); rintro e w8 ⟨rfl, ⟨nd8, rfl⟩⟩))
    go_ret2
    exact ⟨.slice none 0 0, rfl, Kd.R_nil _ _ _ _ _, (by repeat (first | (with_reducible first | exact HB.out | apply below_alloc | apply pw_below_drewN | apply below_drew1) | exact HB.out))⟩
  rw [if_neg has] at h
  have d2 : decide (a > s) = false := decide_eq_false has
  have d3 : decide (s < a) = false := decide_eq_false has
  clear has
  unfold impl_Average.fin at h
  by_cases hg : ¬ impl_Average.good l a s = true
  · rw [if_neg hg] at h; cases h
  replace hg := Decidable.of_not_not hg
  rw [if_pos hg] at h
  obtain ⟨rfl, rfl⟩ := Prod.mk.inj (Option.some.inj h)
  unfold impl_Average.good at hg
  simp only [Bool.and_eq_true, decide_eq_true_eq] at hg
  have HN := Aside0.mk (And.intro hg.1.1.1 hg.1.1.1)
  have HLF := Aside0.mk (And.intro hg.1.2 hg.2)
  clear h hg
  go_enter Try.func6, Try.ntmps6
  go_wp2_with (first | ((with_reducible refine gate_dst (N := 2) rfl ?_); refine box_event ?hg (N := 2) ?hd (cs := #[.slice A0 l.length c0]) (t := 22) ?hr ?_; (case hd => rfl); (case hg => rfl); (case hr => first | (go_simp; done) | (go_simp; rfl)); intro gv hg w1 hbox hb; have GBKV := Aside0.mk (show w.heap.size ≤ gv by rw [hg]; exact below_size (by repeat (first | (with_reducible first | exact HB.out | apply below_alloc | apply pw_below_drewN | apply below_drew1) | exact HB.out))); have BKV := Aside0.mk hbox; have n0_ := Aside0.mk (below_step (by repeat (first | (with_reducible first | exact HB.out | apply below_alloc | apply pw_below_drewN | apply below_drew1) | exact HB.out)) hb); clear HB ; have HB := n0_; clear n0_; clear hb hbox hg; have hcw1BKV_0 : w1.cell? ⟨gv, 0, none⟩ = some (.slice A0 l.length c0) := (blk_cell BKV.out 0).trans rfl; have hfw1BKV_0 := blk_frozen BKV.out 0) | ((with_reducible refine gate_dst (N := 3) rfl ?_); refine box_event ?hg (N := 3) ?hd (cs := #[.int .i64 a]) (t := 3) ?hr ?_; (case hd => rfl); (case hg => rfl); (case hr => first | (go_simp; done) | (go_simp; rfl)); intro gl hg w2 hbox hb; have GBKL := Aside0.mk (show w.heap.size ≤ gl by rw [hg]; exact below_size (by repeat (first | (with_reducible first | exact HB.out | apply below_alloc | apply pw_below_drewN | apply below_drew1) | exact HB.out))); have BKL := Aside0.mk hbox; have n0_ := Aside0.mk (below_step (by repeat (first | (with_reducible first | exact HB.out | apply below_alloc | apply pw_below_drewN | apply below_drew1) | exact HB.out)) hb); have n1_ := Aside0.mk (blk_below (g := gv) (o := .cells #[.slice A0 l.length c0] 22 (0, 0)) (by (with_reducible repeat (first | refine blk_drewN ?_ _ | refine blk_drew ?_ | refine blk_alloc ?_ _)); exact BKV.out) hb); clear HB BKV; have HB := n0_; have BKV := n1_; clear n0_ n1_; clear hb hbox hg; have hcw2BKV_0 : w2.cell? ⟨gv, 0, none⟩ = some (.slice A0 l.length c0) := (blk_cell BKV.out 0).trans rfl; have hcw2BKL_0 : w2.cell? ⟨gl, 0, none⟩ = some (.int .i64 a) := (blk_cell BKL.out 0).trans rfl; have hfw2BKV_0 := blk_frozen BKV.out 0; have hfw2BKL_0 := blk_frozen BKL.out 0) | (go_at_call 14; (with_reducible refine (impl_in.calls _ _ _ _ _ HT1.out).mono ?_); rintro e w3 ⟨rfl, ⟨nd3, rfl⟩⟩) | (go_at_call 15; refine (impl_all.calls A0 c0 l 0 1000000000 _ _ (Kd.C_below HR0.out (by repeat (first | (with_reducible first | exact HB.out | apply below_alloc | apply pw_below_drewN | apply below_drew1) | exact HB.out))) HC0.out HT2.out).mono ?_; rintro e w4 ⟨rfl, hb⟩; have n0_ := Aside0.mk (below_step (by repeat (first | (with_reducible first | exact HB.out | apply below_alloc | apply pw_below_drewN | apply below_drew1) | exact HB.out)) hb); have n1_ := Aside0.mk (blk_below (g := gv) (o := .cells #[.slice A0 l.length c0] 22 (0, 0)) (by (with_reducible repeat (first | refine blk_drewN ?_ _ | refine blk_drew ?_ | refine blk_alloc ?_ _)); exact BKV.out) hb); have n2_ := Aside0.mk (blk_below (g := gl) (o := .cells #[.int .i64 a] 3 (0, 0)) (by (with_reducible repeat (first | refine blk_drewN ?_ _ | refine blk_drew ?_ | refine blk_alloc ?_ _)); exact BKL.out) hb); clear HB BKV BKL; have HB := n0_; have BKV := n1_; have BKL := n2_; clear n0_ n1_ n2_; clear hb; have hcw4BKV_0 : w4.cell? ⟨gv, 0, none⟩ = some (.slice A0 l.length c0) := (blk_cell BKV.out 0).trans rfl; have hcw4BKL_0 : w4.cell? ⟨gl, 0, none⟩ = some (.int .i64 a) := (blk_cell BKL.out 0).trans rfl; have hfw4BKV_0 := blk_frozen BKV.out 0; have hfw4BKL_0 := blk_frozen BKL.out 0) | (go_at_call 16; refine (impl_sumOf.calls k A0 c0 l s _ (Kd.C_below HR0.out (by repeat (first | (with_reducible first | exact HB.out | apply below_alloc | apply pw_below_drewN | apply below_drew1) | exact HB.out))) HC0.out HT3.out).mono ?_; rintro e w5 ⟨rfl, ⟨nd5, rfl⟩⟩) | ((with_reducible refine gate_dst (N := 6) rfl ?_); refine box_event ?hg (N := 6) ?hd (cs := #[.int .i64 0]) (t := 3) ?hr ?_; (case hd => rfl); (case hg => rfl); (case hr => first | (go_simp; done) | (go_simp; rfl)); intro gs hg w6 hbox hb; have NEgvgs := Aside0.mk (show gv ≠ gs by rw [hg]; exact Nat.ne_of_lt (blk_lt BKV.out)); have NEglgs := Aside0.mk (show gl ≠ gs by rw [hg]; exact Nat.ne_of_lt (blk_lt BKL.out)); have GBKS := Aside0.mk (show w.heap.size ≤ gs by rw [hg]; exact below_size (by repeat (first | (with_reducible first | exact HB.out | apply below_alloc | apply pw_below_drewN | apply below_drew1) | exact HB.out))); have BKS := Aside0.mk hbox; have n0_ := Aside0.mk (below_step (by repeat (first | (with_reducible first | exact HB.out | apply below_alloc | apply pw_below_drewN | apply below_drew1) | exact HB.out)) hb); have n1_ := Aside0.mk (blk_below (g := gv) (o := .cells #[.slice A0 l.length c0] 22 (0, 0)) (by (with_reducible repeat (first | refine blk_drewN ?_ _ | refine blk_drew ?_ | refine blk_alloc ?_ _)); exact BKV.out) hb); have n2_ := Aside0.mk (blk_below (g := gl) (o := .cells #[.int .i64 a] 3 (0, 0)) (by (with_reducible repeat (first | refine blk_drewN ?_ _ | refine blk_drew ?_ | refine blk_alloc ?_ _)); exact BKL.out) hb); clear HB BKV BKL; have HB := n0_; have BKV := n1_; have BKL := n2_; clear n0_ n1_ n2_; clear hb hbox hg; have hcw6BKV_0 : w6.cell? ⟨gv, 0, none⟩ = some (.slice A0 l.length c0) := (blk_cell BKV.out 0).trans rfl; have hcw6BKL_0 : w6.cell? ⟨gl, 0, none⟩ = some (.int .i64 a) := (blk_cell BKL.out 0).trans rfl; have hcw6BKS_0 : w6.cell? ⟨gs, 0, none⟩ = some (.int .i64 0) := (blk_cell BKS.out 0).trans rfl; have hfw6BKV_0 := blk_frozen BKV.out 0; have hfw6BKL_0 := blk_frozen BKL.out 0; have hfw6BKS_0 := blk_frozen BKS.out 0) | ((with_reducible refine gate_store (t := 3) (p := 6) rfl ?_); refine store_event (t := 3) (p := 6) (v := ?vo_w7) (w1 := (w6.setCell ⟨gs, 0, none⟩ (.int .i64 s))) ?hg ?ho ?hn ?hr ?_; (case ho => rfl); (case hg => rfl); (case hn => rfl); (case hr => first | (go_simp; done) | (go_simp; rfl)); intro w7 hw; have n0_ : Aside0 (w7.heap[gs]? = some (.cells #[.int .i64 s] 3 (0, 0))) := Aside0.mk (by rw [hw]; exact (blk_put (cs := #[.int .i64 0]) (cs' := #[.int .i64 s]) BKS.out 0 (.int .i64 s) rfl)); have n1_ : Aside0 (Below w.heap.size w w7) := Aside0.mk (by rw [hw]; exact (below_set HB.out GBKS.out)); have n2_ : Aside0 (w7.heap[gv]? = some (.cells #[.slice A0 l.length c0] 22 (0, 0))) := Aside0.mk (by rw [hw]; exact (blk_far BKV.out (p := ⟨gs, 0, none⟩) NEgvgs.out (.int .i64 s))); have n3_ : Aside0 (w7.heap[gl]? = some (.cells #[.int .i64 a] 3 (0, 0))) := Aside0.mk (by rw [hw]; exact (blk_far BKL.out (p := ⟨gs, 0, none⟩) NEglgs.out (.int .i64 s))); clear HB BKS BKV BKL hw; have BKS := n0_; have HB := n1_; have BKV := n2_; have BKL := n3_; clear n0_ n1_ n2_ n3_; have hcw7BKV_0 : w7.cell? ⟨gv, 0, none⟩ = some (.slice A0 l.length c0) := (blk_cell BKV.out 0).trans rfl; have hcw7BKL_0 : w7.cell? ⟨gl, 0, none⟩ = some (.int .i64 a) := (blk_cell BKL.out 0).trans rfl; have hcw7BKS_0 : w7.cell? ⟨gs, 0, none⟩ = some (.int .i64 s) := (blk_cell BKS.out 0).trans rfl; have hfw7BKV_0 := blk_frozen BKV.out 0; have hfw7BKL_0 := blk_frozen BKL.out 0; have hfw7BKS_0 := blk_frozen BKS.out 0) | (go_at_call 14; (with_reducible refine (impl_in.calls _ _ _ _ _ HT4.out).mono ?_); rintro e w8 ⟨rfl, ⟨nd8, rfl⟩⟩) | ((with_reducible refine gate_dst (N := 39) rfl ?_); refine Rw.make Rw.I 0 rfl (N := 39) rfl rfl l.length rfl rfl Try.underlying22 8 impl_Average.i3 rfl (by have := HN.out; omega) (by have := HN.out; omega) ?_; intro go hg wo hrow hb; have Ggo := Aside0.mk (show w.heap.size ≤ go by rw [hg]; exact below_size (by repeat (first | (with_reducible first | exact HB.out | apply below_alloc | apply pw_below_drewN | apply below_drew1) | exact HB.out))); have NEgvgo := Aside0.mk (show gv ≠ go by rw [hg]; exact Nat.ne_of_lt (blk_lt BKV.out)); have NEglgo := Aside0.mk (show gl ≠ go by rw [hg]; exact Nat.ne_of_lt (blk_lt BKL.out)); have NEgsgo := Aside0.mk (show gs ≠ go by rw [hg]; exact Nat.ne_of_lt (blk_lt BKS.out)); have n0_ := Aside0.mk (below_step (by repeat (first | (with_reducible first | exact HB.out | apply below_alloc | apply pw_below_drewN | apply below_drew1) | exact HB.out)) hb); have n1_ := Aside0.mk (blk_below (g := gv) (o := .cells #[.slice A0 l.length c0] 22 (0, 0)) (by (with_reducible repeat (first | refine blk_drewN ?_ _ | refine blk_drew ?_ | refine blk_alloc ?_ _)); exact BKV.out) hb); have n2_ := Aside0.mk (blk_below (g := gl) (o := .cells #[.int .i64 a] 3 (0, 0)) (by (with_reducible repeat (first | refine blk_drewN ?_ _ | refine blk_drew ?_ | refine blk_alloc ?_ _)); exact BKL.out) hb); have n3_ := Aside0.mk (blk_below (g := gs) (o := .cells #[.int .i64 s] 3 (0, 0)) (by (with_reducible repeat (first | refine blk_drewN ?_ _ | refine blk_drew ?_ | refine blk_alloc ?_ _)); exact BKS.out) hb); clear HB BKV BKL BKS; have HB := n0_; have BKV := n1_; have BKL := n2_; have BKS := n3_; clear n0_ n1_ n2_ n3_; have RO := Aside0.mk hrow; clear hrow hg hb; have hcwoBKV_0 : wo.cell? ⟨gv, 0, none⟩ = some (.slice A0 l.length c0) := (blk_cell BKV.out 0).trans rfl; have hcwoBKL_0 : wo.cell? ⟨gl, 0, none⟩ = some (.int .i64 a) := (blk_cell BKL.out 0).trans rfl; have hcwoBKS_0 : wo.cell? ⟨gs, 0, none⟩ = some (.int .i64 s) := (blk_cell BKS.out 0).trans rfl; have hfwoBKV_0 := blk_frozen BKV.out 0; have hfwoBKL_0 := blk_frozen BKL.out 0; have hfwoBKS_0 := blk_frozen BKS.out 0) | ((with_reducible refine gate_dst (N := 42) rfl ?_); refine Rw.make Rw.I 0 rfl (N := 42) rfl rfl l.length rfl rfl Try.underlying22 8 impl_Average.i3 rfl (by have := HN.out; omega) (by have := HN.out; omega) ?_; intro gp hg wp hrow hb; have Ggp := Aside0.mk (show w.heap.size ≤ gp by rw [hg]; exact below_size (by repeat (first | (with_reducible first | exact HB.out | apply below_alloc | apply pw_below_drewN | apply below_drew1) | exact HB.out))); have NEgvgp := Aside0.mk (show gv ≠ gp by rw [hg]; exact Nat.ne_of_lt (blk_lt BKV.out)); have NEglgp := Aside0.mk (show gl ≠ gp by rw [hg]; exact Nat.ne_of_lt (blk_lt BKL.out)); have NEgsgp := Aside0.mk (show gs ≠ gp by rw [hg]; exact Nat.ne_of_lt (blk_lt BKS.out)); have NEgogp := Aside0.mk (show go ≠ gp by rw [hg]; exact Nat.ne_of_lt RO.out.lt); have tRO_ := Aside0.mk (RO.out.below hb); clear RO; have RO := tRO_; clear tRO_; have n0_ := Aside0.mk (below_step (by repeat (first | (with_reducible first | exact HB.out | apply below_alloc | apply pw_below_drewN | apply below_drew1) | exact HB.out)) hb); have n1_ := Aside0.mk (blk_below (g := gv) (o := .cells #[.slice A0 l.length c0] 22 (0, 0)) (by (with_reducible repeat (first | refine blk_drewN ?_ _ | refine blk_drew ?_ | refine blk_alloc ?_ _)); exact BKV.out) hb); have n2_ := Aside0.mk (blk_below (g := gl) (o := .cells #[.int .i64 a] 3 (0, 0)) (by (with_reducible repeat (first | refine blk_drewN ?_ _ | refine blk_drew ?_ | refine blk_alloc ?_ _)); exact BKL.out) hb); have n3_ := Aside0.mk (blk_below (g := gs) (o := .cells #[.int .i64 s] 3 (0, 0)) (by (with_reducible repeat (first | refine blk_drewN ?_ _ | refine blk_drew ?_ | refine blk_alloc ?_ _)); exact BKS.out) hb); clear HB BKV BKL BKS; have HB := n0_; have BKV := n1_; have BKL := n2_; have BKS := n3_; clear n0_ n1_ n2_ n3_; have RP := Aside0.mk hrow; clear hrow hg hb; have hcwpBKV_0 : wp.cell? ⟨gv, 0, none⟩ = some (.slice A0 l.length c0) := (blk_cell BKV.out 0).trans rfl; have hcwpBKL_0 : wp.cell? ⟨gl, 0, none⟩ = some (.int .i64 a) := (blk_cell BKL.out 0).trans rfl; have hcwpBKS_0 : wp.cell? ⟨gs, 0, none⟩ = some (.int .i64 s) := (blk_cell BKS.out 0).trans rfl; have hfwpBKV_0 := blk_frozen BKV.out 0; have hfwpBKL_0 := blk_frozen BKL.out 0; have hfwpBKS_0 := blk_frozen BKS.out 0))
  have RO2 : Aside0 (Rw.Row Rw.I wp 3 go (impl_Average.row l.length fun t => if t < (0 : Int).toNat then impl_Average.quo l a s t else 0)) := Aside0.mk (by rw [impl_Average.row_congr l.length _ (fun _ => (0 : Int)) fun t _ => if_neg (by simp), ← impl_Average.row_const]; exact RO.out)
  have RP2 : Aside0 (Rw.Row Rw.I wp 3 gp (impl_Average.row l.length fun t => if t < (0 : Int).toNat then (t : Int) else 0)) := Aside0.mk (by rw [impl_Average.row_congr l.length _ (fun _ => (0 : Int)) fun t _ => if_neg (by simp), ← impl_Average.row_const]; exact RP.out)
  clear RO RP
  go_loopg [9, 46] l.length (fun gg v9 v46 wr => ∃ i : Int, v9 = .int .i64 (impl_Average.lefts l a s i.toNat) ∧ v46 = .int .i64 i ∧ Aside0 (0 ≤ i ∧ i ≤ l.length ∧ l.length - i.toNat ≤ gg) ∧ Aside0 (Rw.Row Rw.I wr 3 go (impl_Average.row l.length fun t => if t < i.toNat then impl_Average.quo l a s t else 0)) ∧ Aside0 (Rw.Row Rw.I wr 3 gp (impl_Average.row l.length fun t => if t < i.toNat then (t : Int) else 0)) ∧ Aside0 (wr.heap[gv]? = some (.cells #[.slice A0 l.length c0] 22 (0, 0))) ∧ Aside0 (wr.heap[gl]? = some (.cells #[.int .i64 a] 3 (0, 0))) ∧ Aside0 (wr.heap[gs]? = some (.cells #[.int .i64 s] 3 (0, 0))) ∧ Aside0 (Below w.heap.size w wr))
  case atStart => exact ⟨0, rfl, rfl, ⟨by omega⟩, RO2, RP2, BKV, BKL, BKS, HB⟩
  case round =>
    clear RO2 RP2 BKV BKL BKS HB
    obtain ⟨i, rfl, rfl, HI, RO, RP, BKV, BKL, BKS, HB⟩ := hrel
    by_cases hlt : i < (l.length : Int)
    · have h0 : 0 ≤ i := HI.out.1
      have HL := Aside0.mk (show 0 ≤ i ∧ i < l.length ∧ i.toNat < l.length ∧ (i + 1).toNat = i.toNat + 1 by omega)
      obtain ⟨ad, e_, hx0⟩ := Kd.at_int (Kd.C_below HR0.out HB.out) i h0 hlt
      cases e_
      have hcl : wr.cell? ⟨gl, 0, none⟩ = some (.int .i64 a) := (blk_cell BKL.out 0).trans rfl
      have hcs : wr.cell? ⟨gs, 0, none⟩ = some (.int .i64 s) := (blk_cell BKS.out 0).trans rfl
      have hco := RO.out.rd i h0 (by rw [impl_Average.row_len]; exact hlt)
      rw [impl_Average.rd_row l.length _ i h0 hlt] at hco
      have hfo := RO.out.frozen i.toNat
      have hq : impl_Average.quo l a s i.toNat = wrap64 (Int.tdiv (wrap64 (a * rd l i)) s) := by unfold impl_Average.quo; rw [Int.toNat_of_nonneg h0]
      have hl1 : impl_Average.lefts l a s (i.toNat + 1) = wrap64 (impl_Average.lefts l a s i.toNat - impl_Average.quo l a s i.toNat) := rfl
      have HQ := Aside0.mk hl1
      have HQ2 := Aside0.mk hq
      clear hl1 hq
      generalize impl_Average.lefts l a s i.toNat = lf at HQ ⊢
      generalize rd l i = vx at hx0 HQ2
      have hs := HS0.out
      have d4 : decide (i < (l.length : Int)) = true := decide_eq_true hlt
      have d5 : decide (0 ≤ i) = true := decide_eq_true h0
      obtain ⟨iN, hiN⟩ : ∃ q, q = i.toNat := ⟨_, rfl⟩
      have HIN := Aside0.mk hiN
      rw [← hiN] at hco hfo hx0
      have ei : i.toNat = iN := hiN.symm
      clear hiN
      replace h0 := eq_true h0
      replace hlt := eq_true hlt
      go_upto_region 13 with (fail)
      have RO2 : Aside0 (Rw.Row Rw.I (wr.setCell ⟨go, iN, none⟩ (.int .i64 (wrap64 ((wrap64 (a * vx)).tdiv s)))) 3 go (impl_Average.row l.length fun t => if t < (i + 1).toNat then impl_Average.quo l a s t else 0)) := Aside0.mk (by
        have h5 := RO.out.set iN (wrap64 ((wrap64 (a * vx)).tdiv s))
        rw [← HQ2.out, HIN.out, impl_Average.fill, ← HL.out.2.2.2, HQ2.out] at h5
        rw [HIN.out]
        exact h5)
      have RP2 := Aside0.mk (RP.out.far (p := ⟨go, iN, none⟩) (fun e => NEgogp.out e.symm) (.int .i64 (wrap64 ((wrap64 (a * vx)).tdiv s))))
      have BV2 := Aside0.mk (blk_far BKV.out (p := ⟨go, iN, none⟩) NEgvgo.out (.int .i64 (wrap64 ((wrap64 (a * vx)).tdiv s))))
      have BL2 := Aside0.mk (blk_far BKL.out (p := ⟨go, iN, none⟩) NEglgo.out (.int .i64 (wrap64 ((wrap64 (a * vx)).tdiv s))))
      have BS2 := Aside0.mk (blk_far BKS.out (p := ⟨go, iN, none⟩) NEgsgo.out (.int .i64 (wrap64 ((wrap64 (a * vx)).tdiv s))))
      have HB2 : Aside0 (Below w.heap.size w (wr.setCell ⟨go, iN, none⟩ (.int .i64 (wrap64 ((wrap64 (a * vx)).tdiv s))))) := ⟨below_set HB.out Ggo.out⟩
      clear RO RP BKV BKL BKS HB hx0 hcl hcs hco hfo
      generalize wr.setCell ⟨go, iN, none⟩ (.int .i64 (wrap64 ((wrap64 (a * vx)).tdiv s))) = w9 at RO2 RP2 BV2 BL2 BS2 HB2 ⊢
      have hco := RO2.out.rd i HL.out.1 (by rw [impl_Average.row_len]; exact HL.out.2.1)
      rw [impl_Average.rd_row l.length _ i HL.out.1 HL.out.2.1, if_pos (by have := HL.out; omega), ← HIN.out] at hco
      have hcp := RP2.out.rd i HL.out.1 (by rw [impl_Average.row_len]; exact HL.out.2.1)
      rw [← HIN.out] at hcp
      have hfp := RP2.out.frozen iN
      have hlv := HQ.out
      rw [← HIN.out] at hlv
      generalize impl_Average.quo l a s iN = qv at hco hlv
      have HLV := Aside0.mk hlv
      generalize rd (impl_Average.row l.length fun t => if t < iN then (t : Int) else 0) i = zv at hcp
      clear hlv
      have hw1 : wrap64 (i + 1) = i + 1 := by have := HL.out; have := HN.out; unfold wrap64; omega
      have HW1 := Aside0.mk hw1
      clear hw1
      go_wp2
      go_roundg (l.length - (i + 1).toNat)
      case measure => have := HI.out; have := HL.out; omega
      case rel =>
        refine ⟨i + 1, ?_, (by first | rfl | (rw [HW1.out])), ⟨by have := HL.out; have := HI.out; omega⟩, ?_, ⟨?_⟩, ?_, ?_, ?_, ⟨below_set HB2.out Ggp.out⟩⟩
        · rw [HL.out.2.2.2, ← HIN.out, HLV.out]
        · exact ⟨RO2.out.far (p := ⟨gp, iN, none⟩) NEgogp.out (.int .i64 i)⟩
        · have h5 := RP2.out.set iN i
          have h6 := impl_Average.fill l.length (fun t => (t : Int)) iN
          rw [show ((iN : Nat) : Int) = i by have := HIN.out; have := HL.out; omega] at h6
          rw [HL.out.2.2.2, ← HIN.out, ← h6]
          rw [← HIN.out] at h5
          exact h5
        · exact ⟨blk_far BV2.out (p := ⟨gp, iN, none⟩) NEgvgp.out _⟩
        · exact ⟨blk_far BL2.out (p := ⟨gp, iN, none⟩) NEglgp.out _⟩
        · exact ⟨blk_far BS2.out (p := ⟨gp, iN, none⟩) NEgsgp.out _⟩
    · have hii : i.toNat = l.length := by have := HI.out; omega
      have d4 : decide (i < (l.length : Int)) = false := decide_eq_false hlt
      have h1 := RO.out
      rw [hii] at h1 ⊢
      rw [impl_Average.row_congr l.length _ (impl_Average.quo l a s) (fun t ht => if_pos ht)] at h1
      have RO2 := Aside0.mk h1
      have hS : impl_Average.SW l.length gp (impl_Average.J A0 l.length c0 a s gv gl gs go (impl_Average.row l.length (impl_Average.quo l a s)) w) wr (fun t => (t : Int)) := ⟨by
        have h2 := RP.out
        rw [hii, impl_Average.row_congr l.length _ (fun t : Nat => (t : Int)) (fun t ht => if_pos ht)] at h2
        exact h2, ⟨HB.out, BKV.out, BKL.out, BKS.out, h1⟩, fun t ht => by constructor <;> omega⟩
      have hcon := impl_Average.sortStable 18 l.length gp _ _ _ (impl_Average.comp l A0 c0 a s gv gl gs go gp (impl_Average.row l.length (impl_Average.quo l a s)) w HR0.out HS0.out Ggp.out NEgvgp.out NEglgp.out NEgsgp.out NEgogp.out) (by have := HN.out; omega) wr _ hS
      have hmf : ∀ (fn : Fn) (first cap : Array Value) (w : World), (Instr.makeFunc fn first cap).run Try.prog w = .ok (.func fn first cap) w := fun _ _ _ _ => rfl
      have HCON := Aside0.mk hcon
      clear h1 hS hcon hlt RO2 RO RP BKV BKL BKS HB
      obtain ⟨lf, hlf⟩ : ∃ lf, lf = impl_Average.lefts l a s l.length := ⟨_, rfl⟩
      have HLE := Aside0.mk hlf
      rw [← hlf]
      have p0 : 0 ≤ lf := by rw [hlf]; exact HLF.out.1
      have p1 : lf ≤ (l.length : Int) := by rw [hlf]; exact HLF.out.2
      have HP := Aside0.mk (And.intro p0 p1)
      clear hlf
      obtain ⟨m, hm⟩ : ∃ m : Nat, lf = (m : Int) := ⟨lf.toNat, by omega⟩
      subst hm
      have q2 : m ≤ l.length := by omega
      go_wp2_with (go_at_call 17; refine HCON.out.mono ?_; rintro e w3 ⟨rfl, hs⟩; have HSO := Aside0.mk hs; clear hs)
      have hplc : impl_Average.stabM (impl_Average.cf l a s) l.length (fun t => (t : Int)) = impl_Average.plc l a s := rfl
      have hso := HSO.out
      rw [hplc] at hso
      have RP := Aside0.mk hso.row
      have HRG := Aside0.mk hso.rng
      have RO := Aside0.mk hso.inv.2.2.2.2
      have HB := Aside0.mk hso.inv.1
      have HF := Aside0.mk (show (impl_Average.lefts l a s l.length).toNat = m by rw [← HLE.out]; rfl)
      clear hplc hso HSO HCON
      go_loopg [77] m (fun gg v77 wr => ∃ j : Int, v77 = .int .i64 j ∧ Aside0 (0 ≤ j ∧ j ≤ m ∧ m - j.toNat ≤ gg) ∧ Aside0 (Rw.Row Rw.I wr 3 go (impl_Average.row l.length (impl_Average.incs (impl_Average.plc l a s) (impl_Average.quo l a s) j.toNat))) ∧ Aside0 (Rw.Row Rw.I wr 3 gp (impl_Average.row l.length (impl_Average.plc l a s))) ∧ Aside0 (Below w.heap.size w wr))
      case atStart => exact ⟨0, rfl, ⟨by omega⟩, RO, RP, HB⟩
      case round =>
        clear RO RP HB
        obtain ⟨j, rfl, HJ, RO, RP, HB⟩ := hrel
        by_cases hjm : j < (m : Int)
        · have h0 : 0 ≤ j := HJ.out.1
          have HL := Aside0.mk (show 0 ≤ j ∧ j < m ∧ j.toNat < l.length ∧ j < l.length ∧ (j + 1).toNat = j.toNat + 1 by have := HP.out; omega)
          have hcp := RP.out.rd j h0 (by rw [impl_Average.row_len]; exact HL.out.2.2.2.1)
          rw [impl_Average.rd_row l.length _ j h0 HL.out.2.2.2.1] at hcp
          have hin : impl_Average.incs (impl_Average.plc l a s) (impl_Average.quo l a s) (j + 1).toNat = fun t => if t = (impl_Average.plc l a s j.toNat).toNat then wrap64 (impl_Average.incs (impl_Average.plc l a s) (impl_Average.quo l a s) j.toNat t + 1) else impl_Average.incs (impl_Average.plc l a s) (impl_Average.quo l a s) j.toNat t := by rw [HL.out.2.2.2.2]; rfl
          have hxr := HRG.out j.toNat HL.out.2.2.1
          have HIN := Aside0.mk hin
          clear hin
          generalize impl_Average.plc l a s j.toNat = x at hcp hxr HIN
          have HX := Aside0.mk hxr
          have hco := RO.out.rd x hxr.1 (by rw [impl_Average.row_len]; exact hxr.2)
          rw [impl_Average.rd_row l.length _ x hxr.1 hxr.2] at hco
          have hfo := RO.out.frozen x.toNat
          obtain ⟨jN, hjN⟩ : ∃ q, q = j.toNat := ⟨_, rfl⟩
          obtain ⟨xN, hxN⟩ : ∃ q, q = x.toNat := ⟨_, rfl⟩
          have HE := Aside0.mk (And.intro hjN hxN)
          rw [← hjN] at hcp
          rw [← hxN] at hco hfo
          generalize hov : impl_Average.incs (impl_Average.plc l a s) (impl_Average.quo l a s) j.toNat xN = ov at hco
          have HOV := Aside0.mk hov
          have ej : j.toNat = jN := hjN.symm
          have ex : x.toNat = xN := hxN.symm
          have d4 : decide (j < (m : Int)) = true := decide_eq_true hjm
          have d5 : decide (0 ≤ j) = true := decide_eq_true h0
          have b0 : x < (l.length : Int) := hxr.2
          have b1 : 0 ≤ x := hxr.1
          have b2 : j < (l.length : Int) := HL.out.2.2.2.1
          have hw1 : wrap64 (j + 1) = j + 1 := by have := HL.out; have := HN.out; unfold wrap64; omega
          have HW1 := Aside0.mk hw1
          clear hw1 hov hjN hxN hxr
          replace h0 := eq_true h0
          replace hjm := eq_true hjm
          go_wp2
          go_roundg (m - (j + 1).toNat)
          case measure => have := HJ.out; have := HL.out; omega
          case rel =>
            refine ⟨j + 1, (by first | rfl | (rw [HW1.out])), ⟨by have := HL.out; have := HJ.out; omega⟩, ⟨?_⟩, ⟨RP.out.far (p := ⟨go, xN, none⟩) (fun e => NEgogp.out e.symm) _⟩, ⟨below_set HB.out Ggo.out⟩⟩
            have h5 := RO.out.set xN (wrap64 (ov + 1))
            rw [impl_Average.row_set l.length _ (impl_Average.incs (impl_Average.plc l a s) (impl_Average.quo l a s) (j + 1).toNat) xN _ (fun t _ => by
              rw [HIN.out, ← HE.out.2]
              by_cases c : t = xN
              · simp only [if_pos c]; rw [c, HOV.out]
              · simp only [if_neg c])] at h5
            exact h5
        · have d4 : decide (j < (m : Int)) = false := decide_eq_false hjm
          have hjj : j.toNat = m := by have := HJ.out; omega
          have h1 := RO.out
          rw [hjj] at h1
          have h5 := h1.R (base := w.heap.size) (ok := fun _ => True) Ggo.out (by rw [impl_Average.row_len]; have := HN.out; unfold maxLen; omega) trivial
          rw [impl_Average.row_len] at h5
          have HR := Aside0.mk h5
          clear h1 h5 hjj hjm RO RP
          go_wp2
          go_ret2
          exact ⟨_, rfl, by first | exact HR.out | (rw [HF.out]; exact HR.out), HB.out⟩


end Go.Proofs.Ythbmpegaogfibae.PA
