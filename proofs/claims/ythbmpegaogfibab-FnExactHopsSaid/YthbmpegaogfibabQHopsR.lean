/- Plain lemmas on the printed functions (HopsR). -/
import Derived.Test.YthbmpegaogfibabPu0
import Derived.Test.YthbmpegaogfibabPAx2
import Derived.Test.YthbmpegaogfibabPAx3
import Derived.Test.YthbmpegaogfibabPAx6
import Derived.Test.YthbmpegaogfibabQBase
import Derived.Test.YthbmpegaogfibabQL3
import Derived.Test.YthbmpegaogfibabQConvIntS
import Derived.Test.YthbmpegaogfibabQFloor
import Derived.Test.YthbmpegaogfibabQMarks
namespace Go.Proofs.Ythbmpegaogfibab.Pu
open Go.RowKit Go.Proofs.Ythbmpegaogfibab Go.Proofs.Ythbmpegaogfibab.PA Go.Proofs.Ythbmpegaogfibab.Pu Go.Proofs.YthbmpegaogfibabW.PrintWords Go.Proofs.YthbmpegaogfibabW.PrintLast Go.Proofs.YthbmpegaogfibabW.PrintMore
set_option linter.unusedVariables false
set_option linter.unusedSimpArgs false
theorem and1 (x : Int) : Go.bits .and .i64 x 1 = 0 ∨ Go.bits .and .i64 x 1 = 1 := by
  have h : (BitVec.ofInt 64 x &&& BitVec.ofInt 64 1).toNat ≤ 1 := by
    rw [BitVec.toNat_and]
    exact Nat.le_trans Nat.and_le_right (by decide)
  simp only [Go.bits]
  rw [show IntKind.i64.bits = 64 from rfl]
  rw [Go.IntKind.wrap_i64]
  omega
/-- Is the way's bit set, and does it lead to a place of the floor? -/
def wayB (a b : Int) (l : List Int) (p bit : Int) : Bool := Go.bits .and .i64 (shr .i64 (rd l p) bit) 1 == 1 && (inB (p % a + impl_Floor_leads.dx bit) 0 (a - 1) && inB (p / a + impl_Floor_leads.dy bit) 0 (b - 1))
def wayV (a : Int) (p bit : Int) : Int := (p / a + impl_Floor_leads.dy bit) * a + (p % a + impl_Floor_leads.dx bit)
theorem divmod_bd (a b p : Int) (ha : 1 ≤ a) (hp : 0 ≤ p) (hp2 : p < a * b) : 0 ≤ p % a ∧ p % a < a ∧ 0 ≤ p / a ∧ p / a < b :=
  ⟨Int.emod_nonneg _ (by omega), Int.emod_lt_of_pos _ (by omega), Int.ediv_nonneg hp (by omega), Int.ediv_lt_of_lt_mul (by omega) (by rw [Int.mul_comm]; exact hp2)⟩
theorem dx_bd (b : Int) : -1 ≤ impl_Floor_leads.dx b ∧ impl_Floor_leads.dx b ≤ 1 := by unfold impl_Floor_leads.dx; split <;> (try split) <;> omega
theorem dy_bd (b : Int) : -1 ≤ impl_Floor_leads.dy b ∧ impl_Floor_leads.dy b ≤ 1 := by unfold impl_Floor_leads.dy; split <;> (try split) <;> omega
theorem place_bd (a b x y : Int) (hx0 : 0 ≤ x) (hx1 : x ≤ a - 1) (hy0 : 0 ≤ y) (hy1 : y ≤ b - 1) : 0 ≤ y * a + x ∧ y * a + x < a * b := by
  have h1 : 0 ≤ y * a := Int.mul_nonneg hy0 (by omega)
  have h2 : (y + 1) * a ≤ b * a := Int.mul_le_mul_of_nonneg_right (by omega) (by omega)
  rw [Int.add_mul, Int.one_mul] at h2
  rw [Int.mul_comm a b]
  omega
theorem way_in {a b : Int} {l : List Int} {p bit : Int} (h : wayB a b l p bit = true) : 0 ≤ wayV a p bit ∧ wayV a p bit < a * b := by
  simp only [wayB, Bool.and_eq_true, inB_t] at h
  exact place_bd a b _ _ h.2.1.1 h.2.1.2 h.2.2.1 h.2.2.2
theorem mul_bd (a y : Int) (ha1 : 1 ≤ a) (ha2 : a ≤ 10) (hy0 : -1 ≤ y) (hy1 : y ≤ 10) : -10 ≤ y * a ∧ y * a ≤ 100 := by
  have h1 : y * a ≤ 10 * a := Int.mul_le_mul_of_nonneg_right hy1 (by omega)
  have h2 : -1 * a ≤ y * a := Int.mul_le_mul_of_nonneg_right hy0 (by omega)
  omega
theorem next_ev (a b : Int) (l : List Int) (p bit : Int) (ha1 : 1 ≤ a) (ha2 : a ≤ 10) (hb1 : 1 ≤ b) (hb2 : b ≤ 10) (hl : (l.length : Int) = a * b) (hp : 0 ≤ p) (hp2 : p < (l.length : Int)) (hb : 0 ≤ bit ∧ bit < 4) :
    Ev (fun k => spec_l19Next.f k a b l p bit) (if wayB a b l p bit = true then wayV a p bit else -1) := by
  obtain ⟨x0, x1, y0, y1⟩ := divmod_bd a b p ha1 hp (by omega)
  have j0 : ∀ x y : Int, -1 ≤ x → x ≤ 10 → -1 ≤ y → y ≤ 10 → Ev (fun k => spec_l19Next.j0 k x y a b l) (if (inB x 0 (a - 1) && inB y 0 (b - 1)) = true then y * a + x else -1) := by
    intro x y hx0 hx1 hy0 hy1
    have hm := mul_bd a y ha1 ha2 hy0 hy1
    refine Ev.step (fun _ => rfl) ?_
    simp only [spec_l19Next.j0, l1In_eq, Option.bind_some]
    rw [wr (x := a - 1) (by omega), wr (x := b - 1) (by omega), wr (x := y * a) (by omega), wr (x := y * a + x) (by omega)]
    cases inB x 0 (a - 1) with
    | false => exact ev_f (by simp) (Ev.now _)
    | true =>
    cases inB y 0 (b - 1) with
    | false => exact ev_t (by first | rfl | trivial) (ev_f (by simp) (Ev.now _))
    | true => exact ev_t (by first | rfl | trivial) (ev_t (by first | rfl | trivial) (Ev.now _))
  simp only [spec_l19Next.f]
  rw [Int.tmod_eq_emod_of_nonneg hp, Int.tdiv_eq_ediv_of_nonneg hp, wr (x := p / a) (by omega), wr (x := p % a + 1) (by omega), wr (x := p % a - 1) (by omega), wr (x := p / a + 1) (by omega), wr (x := p / a - 1) (by omega)]
  refine ev_t hp (ev_t hp2 (ev_t hb.1 ?_))
  unfold wayB wayV
  rcases and1 (shr .i64 (rd l p) bit) with c | c
  · rw [c]
    exact ev_t (by first | rfl | trivial) (by simpa using Ev.now (-1))
  · rw [c]
    refine ev_f (by decide) (ev_f (by omega) ?_)
    have hbb : bit = 0 ∨ bit = 1 ∨ bit = 2 ∨ bit = 3 := by omega
    rcases hbb with rfl | rfl | rfl | rfl
    · simpa [impl_Floor_leads.dx, impl_Floor_leads.dy] using j0 (p % a + 1) (p / a) (by omega) (by omega) (by omega) (by omega)
    · simpa [impl_Floor_leads.dx, impl_Floor_leads.dy] using j0 (p % a) (p / a + 1) (by omega) (by omega) (by omega) (by omega)
    · simpa [impl_Floor_leads.dx, impl_Floor_leads.dy, Int.sub_eq_add_neg] using j0 (p % a - 1) (p / a) (by omega) (by omega) (by omega) (by omega)
    · simpa [impl_Floor_leads.dx, impl_Floor_leads.dy, Int.sub_eq_add_neg] using j0 (p % a) (p / a - 1) (by omega) (by omega) (by omega) (by omega)
/-- The list of the places that the ways of p lead to. -/
def leadL (a b : Int) (l : List Int) (p : Int) : Nat → Int → List Int → List Int
  | 0, _, out => out
  | m + 1, bit, out => leadL a b l p m (bit + 1) (if wayB a b l p bit = true then out ++ [wayV a p bit] else out)
theorem lead_go (a b : Int) (l : List Int) (p : Int) (ha1 : 1 ≤ a) (ha2 : a ≤ 10) (hb1 : 1 ≤ b) (hb2 : b ≤ 10) (hl : (l.length : Int) = a * b) (hp : 0 ≤ p) (hp2 : p < (l.length : Int)) : ∀ m bit out, impl_Floor_leads.go a b p l (p % a) (p / a) m bit out = leadL a b l p m bit out
  | 0, _, _ => rfl
  | m + 1, bit, out => by
    obtain ⟨x0, x1, y0, y1⟩ := divmod_bd a b p ha1 hp (by omega)
    have hdx := dx_bd bit
    have hdy := dy_bd bit
    have hm := mul_bd a (p / a + impl_Floor_leads.dy bit) ha1 ha2 (by omega) (by omega)
    rw [impl_Floor_leads.go, leadL, lead_go a b l p ha1 ha2 hb1 hb2 hl hp hp2 m]
    have hi : ∀ z c : Int, 1 ≤ c → c ≤ 10 → impl_Floor_leads.inr z c = inB z 0 (c - 1) := fun z c h1 h2 => by
      unfold impl_Floor_leads.inr inB
      rw [wr (x := c - 1) (by omega)]
    rw [wr (x := p % a + impl_Floor_leads.dx bit) (by omega), wr (x := p / a + impl_Floor_leads.dy bit) (by omega), hi _ a ha1 ha2, hi _ b hb1 hb2, wr (x := (p / a + impl_Floor_leads.dy bit) * a) (by omega), wr (x := (p / a + impl_Floor_leads.dy bit) * a + (p % a + impl_Floor_leads.dx bit)) (by omega)]
    rfl
theorem lead_eq (a b : Int) (l : List Int) (p : Int) (ha1 : 1 ≤ a) (ha2 : a ≤ 10) (hb1 : 1 ≤ b) (hb2 : b ≤ 10) (hl : (l.length : Int) = a * b) (hp : 0 ≤ p) (hp2 : p < (l.length : Int)) : impl_Floor_leads.f a b l p = some (leadL a b l p 4 0 []) := by
  obtain ⟨x0, x1, y0, y1⟩ := divmod_bd a b p ha1 hp (by omega)
  simp only [impl_Floor_leads.f]
  rw [if_neg (by omega), if_pos ⟨hp, hp2⟩, Int.tmod_eq_emod_of_nonneg hp, Int.tdiv_eq_ediv_of_nonneg hp, wr (x := p / a) (by omega), lead_go a b l p ha1 ha2 hb1 hb2 hl hp hp2]
theorem lead_all (a b : Int) (l : List Int) (p : Int) : ∀ m bit out, (∀ q ∈ out, 0 ≤ q ∧ q < a * b) → ∀ q ∈ leadL a b l p m bit out, 0 ≤ q ∧ q < a * b
  | 0, _, _, h => h
  | m + 1, bit, out, h => by
    rw [leadL]
    refine lead_all a b l p m _ _ fun q hq => ?_
    by_cases c : wayB a b l p bit = true
    · rw [if_pos c] at hq
      rcases List.mem_append.1 hq with hq | hq
      · exact h q hq
      · rw [List.mem_singleton] at hq; subst hq; exact way_in c
    · rw [if_neg c] at hq; exact h q hq
/-- One of the ways from the bit on leads to a place at which f holds. -/
def anyW (a b : Int) (l : List Int) (p : Int) (f : Int → Bool) : Nat → Int → Bool
  | 0, _ => false
  | m + 1, bit => (wayB a b l p bit && f (wayV a p bit)) || anyW a b l p f m (bit + 1)
theorem lead_any (a b : Int) (l : List Int) (p : Int) (f : Int → Bool) : ∀ m bit out, (leadL a b l p m bit out).any f = (out.any f || anyW a b l p f m bit)
  | 0, _, out => by simp [leadL, anyW]
  | m + 1, bit, out => by
    rw [leadL, lead_any a b l p f m, anyW]
    by_cases c : wayB a b l p bit = true
    · rw [if_pos c, c, List.any_append]
      simp [Bool.or_assoc]
    · rw [if_neg c, show wayB a b l p bit = false from by simpa using c]
      simp
/-- A row of one round: whatever is not told and leads to a place told n is told n + 1. -/
def rowP (L : Int → (Int → Bool) → Bool) (n : Int) : Nat → Int → List Int × Bool → List Int × Bool
  | 0, _, s => s
  | m + 1, p, s => rowP L n m (p + 1) (if rd s.1 p < 0 ∧ L p (fun q => rd s.1 q == n) = true then (s.1.set p.toNat (n + 1), true) else s)
def iterP (L : Int → (Int → Bool) → Bool) (N : Nat) : Nat → Int → List Int → List Int
  | 0, _, o => o
  | j + 1, n, o => iterP L N j (n + 1) (rowP L n N 0 (o, false)).1
def negs (o : List Int) : Nat := (o.filter fun x => decide (x < 0)).length
theorem negs_set : ∀ (o : List Int) (i : Nat) (v : Int), i < o.length → o.getD i 0 < 0 → 0 ≤ v → negs (o.set i v) < negs o
  | [], i, v, h, _, _ => by simp at h
  | x :: o, 0, v, _, h1, h2 => by
    have h1' : x < 0 := by simpa using h1
    have h2' : ¬ v < 0 := by omega
    simp [negs, List.filter_cons, h1', h2']
  | x :: o, i + 1, v, h, h1, h2 => by
    have ih := negs_set o i v (by simpa using h) (by simpa using h1) h2
    unfold negs at ih ⊢
    simp only [List.set_cons_succ, List.filter_cons]
    split <;> simp <;> omega
def upTo (n : Int) (o : List Int) : Prop := ∀ x ∈ o, x ≤ n
theorem upTo_rd {n : Int} {o : List Int} (h : upTo n o) (hn : 0 ≤ n) (q : Int) : rd o q ≤ n := by
  unfold rd
  by_cases c : q.toNat < o.length
  · rw [List.getD_eq_getElem?_getD, List.getElem?_eq_getElem c]; exact h _ (List.getElem_mem c)
  · rw [List.getD_eq_getElem?_getD, List.getElem?_eq_none (by omega)]; exact hn
theorem upTo_set {n : Int} {o : List Int} (h : upTo n o) (i : Nat) : upTo n (o.set i n) := fun x hx => by
  rcases List.mem_or_eq_of_mem_set hx with hx | rfl
  · exact h x hx
  · omega
theorem row_inv (L : Int → (Int → Bool) → Bool) (n : Int) (hn : 0 ≤ n) (N : Nat) : ∀ (m : Nat) (p : Int) (s : List Int × Bool), 0 ≤ p → p + m = N → s.1.length = N → upTo (n + 1) s.1 →
    (rowP L n m p s).1.length = N ∧ upTo (n + 1) (rowP L n m p s).1 ∧ (rowP L n m p s = s ∨ ((rowP L n m p s).2 = true ∧ negs (rowP L n m p s).1 < negs s.1))
  | 0, _, s, _, _, h1, h2 => ⟨h1, h2, .inl rfl⟩
  | m + 1, p, s, hp, hpm, h1, h2 => by
    rw [rowP]
    by_cases c : rd s.1 p < 0 ∧ L p (fun q => rd s.1 q == n) = true
    · rw [if_pos c]
      have hs : negs (s.1.set p.toNat (n + 1)) < negs s.1 := negs_set _ _ _ (by omega) c.1 (by omega)
      obtain ⟨i1, i2, i3⟩ := row_inv L n hn N m (p + 1) (s.1.set p.toNat (n + 1), true) (by omega) (by omega) (by simpa using h1) (upTo_set h2 _)
      refine ⟨i1, i2, .inr ?_⟩
      rcases i3 with e | ⟨e1, e2⟩
      · rw [e]; exact ⟨rfl, hs⟩
      · exact ⟨e1, by simp only at e2; omega⟩
    · rw [if_neg c]
      exact row_inv L n hn N m (p + 1) s (by omega) (by omega) h1 h2
theorem row_fix (L : Int → (Int → Bool) → Bool) (n : Int) (hL : ∀ p (f : Int → Bool), (∀ q, f q = false) → L p f = false) (hn : 0 ≤ n) : ∀ (m : Nat) (p : Int) (s : List Int × Bool), upTo n s.1 → rowP L (n + 1) m p s = s
  | 0, _, _, _ => rfl
  | m + 1, p, s, h => by
    rw [rowP, if_neg, row_fix L n hL hn m (p + 1) s h]
    rintro ⟨_, c⟩
    rw [hL p _ fun q => beq_eq_false_iff_ne.2 (by have := upTo_rd h hn q; omega)] at c
    cases c
theorem iter_fix (L : Int → (Int → Bool) → Bool) (N : Nat) (hL : ∀ p (f : Int → Bool), (∀ q, f q = false) → L p f = false) : ∀ (j : Nat) (n : Int) (o : List Int), 0 ≤ n → upTo n o → iterP L N j (n + 1) o = o
  | 0, _, _, _, _ => rfl
  | j + 1, n, o, hn, h => by
    rw [iterP, row_fix L n hL hn N 0 (o, false) h]
    exact iter_fix L N hL j (n + 1) o (by omega) fun x hx => by have := h x hx; omega
def LW (a b : Int) (l : List Int) (p : Int) (f : Int → Bool) : Bool := anyW a b l p f 4 0
theorem LW_no (a b : Int) (l : List Int) (p : Int) (f : Int → Bool) (h : ∀ q, f q = false) : LW a b l p f = false := by
  simp [LW, anyW, h]
theorem row_impl (a b : Int) (l : List Int) (ha1 : 1 ≤ a) (ha2 : a ≤ 10) (hb1 : 1 ≤ b) (hb2 : b ≤ 10) (hl : (l.length : Int) = a * b) (n : Int) (hn : 0 ≤ n ∧ n ≤ 1000) : ∀ (m : Nat) (p : Int) (s : List Int × Bool), 0 ≤ p → p + m = (l.length : Int) → impl_Hops.row a b l n m p s = some (rowP (LW a b l) n m p s)
  | 0, _, _, _, _ => rfl
  | m + 1, p, s, hp, hpm => by
    have ih := fun s => row_impl a b l ha1 ha2 hb1 hb2 hl n hn m (p + 1) s (by omega) (by omega)
    have hall : ((leadL a b l p 4 0 []).all fun q => decide (0 ≤ q) && decide (q < (l.length : Int))) = true := List.all_eq_true.2 fun q hq => by
      have := lead_all a b l p 4 0 [] (fun q hq => by simp at hq) q hq
      simp; omega
    rw [rowP, impl_Hops.row]
    by_cases c : rd s.1 p < 0
    · rw [if_pos c, lead_eq a b l p ha1 ha2 hb1 hb2 hl hp (by omega), Option.bind_some, if_pos hall, lead_any, ih, ih, wr (x := n + 1) (by omega)]
      simp only [List.any_nil, Bool.false_or]
      by_cases d : anyW a b l p (fun q => rd s.1 q == n) 4 0 = true
      · rw [if_pos d, if_pos ⟨c, d⟩]
      · rw [if_neg d, if_neg (fun h => d h.2)]
    · rw [if_neg c, ih, if_neg (fun h => c h.1)]
theorem loop_impl (a b : Int) (l : List Int) (ha1 : 1 ≤ a) (ha2 : a ≤ 10) (hb1 : 1 ≤ b) (hb2 : b ≤ 10) (hl : (l.length : Int) = a * b) : ∀ (j : Nat) (n : Int) (o : List Int) (m : Nat), 0 ≤ n → n + j ≤ 1000 → o.length = l.length → upTo n o → negs o < j → j ≤ m → impl_Hops.loop a b l m n o = some (iterP (LW a b l) l.length j n o)
  | 0, _, _, _, _, _, _, _, h, _ => by omega
  | j + 1, n, o, m, h1, h2, h3, h4, h5, h6 => by
    obtain ⟨m, rfl⟩ : ∃ m', m = m' + 1 := ⟨m - 1, by omega⟩
    obtain ⟨i1, i2, i3⟩ := row_inv (LW a b l) n h1 l.length l.length 0 (o, false) (Int.le_refl _) (by omega) h3 (fun x hx => by have := h4 x hx; omega)
    rw [impl_Hops.loop, row_impl a b l ha1 ha2 hb1 hb2 hl n ⟨h1, by omega⟩ l.length 0 (o, false) (Int.le_refl _) (by omega), Option.bind_some, iterP]
    rcases i3 with e | ⟨e1, e2⟩
    · rw [e, if_neg (by simp)]
      simp only
      rw [iter_fix (LW a b l) l.length (LW_no a b l) j n o h1 h4]
    · rw [if_pos e1, wr (x := n + 1) (by omega)]
      exact loop_impl a b l ha1 ha2 hb1 hb2 hl j (n + 1) _ m (by omega) (by omega) i1 i2 (by simp only at e2; omega) (by omega)
theorem l3_ok (a b : Int) (l : List Int) (ha1 : 1 ≤ a) (ha2 : a ≤ 10) (hb1 : 1 ≤ b) (hb2 : b ≤ 10) (hl : (l.length : Int) = a * b) (o : List Int) (ho : o.length = l.length) (n : Int) (hn : 0 ≤ n ∧ n ≤ 1000) (p : Int) (hp : 0 ≤ p) (hp2 : p < (l.length : Int)) (hneg : rd o p < 0) (hab : a * b ≤ 100) (v : List Int × Bool)
    (hv1 : Ev (fun k => spec_Hops.l2 k (o.set p.toNat (n + 1)) n (p + 1) a b l) v ∨ LW a b l p (fun q => rd o q == n) = false) (hv2 : Ev (fun k => spec_Hops.l2 k o n (p + 1) a b l) v ∨ LW a b l p (fun q => rd o q == n) = true) : ∀ (m : Nat) (bit : Int), 0 ≤ bit → bit + m = 4 → LW a b l p (fun q => rd o q == n) = anyW a b l p (fun q => rd o q == n) m bit → Ev (fun k => spec_Hops.l3 k o n p bit a b l) v
  | 0, bit, hb, hbm, he => by
    have hf : LW a b l p (fun q => rd o q == n) = false := by rw [he]; rfl
    have h2 := hv2.resolve_right (by rw [hf]; decide)
    refine Ev.step (fun _ => rfl) ?_
    simp only [spec_Hops.l3]
    refine ev_f (by omega) (Ev.step (fun _ => rfl) ?_)
    simp only [spec_Hops.j5]
    rw [wr (x := p + 1) (by omega)]
    exact ev_f (by simp) h2
  | m + 1, bit, hb, hbm, he => by
    rw [anyW] at he
    have hnx := next_ev a b l p bit ha1 ha2 hb1 hb2 hl hp hp2 ⟨hb, by omega⟩
    refine Ev.step (fun _ => rfl) ?_
    simp only [spec_Hops.l3]
    rw [decide_eq_true hneg]
    refine ev_t (by omega) (ev_t hp (ev_t (by omega) (Ev.step (fun _ => rfl) ?_)))
    simp only [spec_Hops.j5]
    rw [wr (x := bit + 1) (by omega), wr (x := p + 1) (by omega), wr (x := n + 1) (by omega)]
    refine ev_t (by first | rfl | trivial) (Ev.bind hnx ?_)
    have rest : (wayB a b l p bit && rd o (wayV a p bit) == n) = false → Ev (fun k => spec_Hops.l3 k o n p (bit + 1) a b l) v := fun hc => by
      rw [hc, Bool.false_or] at he
      exact l3_ok a b l ha1 ha2 hb1 hb2 hl o ho n hn p hp hp2 hneg hab v hv1 hv2 m (bit + 1) (by omega) (by omega) he
    cases c : wayB a b l p bit with
    | false =>
      rw [c] at rest
      simp only [Bool.false_eq_true, if_false]
      exact ev_f (by omega) (rest rfl)
    | true =>
      have hin := way_in c
      rw [c] at rest he
      simp only [if_true]
      refine ev_t hin.1 (ev_t hin.1 (ev_t (by omega) ?_))
      by_cases d : rd o (wayV a p bit) = n
      · have hd : (rd o (wayV a p bit) == n) = true := beq_iff_eq.2 d
        rw [hd] at he
        have h1 := hv1.resolve_right (by rw [he]; simp)
        refine ev_t d (ev_t hp (ev_t (by omega) ?_))
        refine Ev.step (fun _ => rfl) ?_
        simp only [spec_Hops.l3]
        have hrd : rd (o.set p.toNat (n + 1)) p = n + 1 := by simp [rd, List.getD, show p.toNat < o.length by omega]
        have hpost : Ev (fun k => spec_Hops.j5 k (o.set p.toNat (n + 1)) n p (bit + 1) false a b l) v := Ev.step (fun _ => rfl) (by
          simp only [spec_Hops.j5]
          rw [wr (x := p + 1) (by omega)]
          exact ev_f (by simp) h1)
        by_cases e : bit + 1 < 4
        · refine ev_t e (ev_t hp (ev_t (by simp; omega) ?_))
          rw [hrd, show decide (n + 1 < 0) = false from decide_eq_false (by omega)]
          exact hpost
        · exact ev_f e hpost
      · refine ev_f d (rest ?_)
        simpa using d
theorem l2_ok (a b : Int) (l : List Int) (ha1 : 1 ≤ a) (ha2 : a ≤ 10) (hb1 : 1 ≤ b) (hb2 : b ≤ 10) (hl : (l.length : Int) = a * b) (hab : a * b ≤ 100) (n : Int) (hn : 0 ≤ n ∧ n ≤ 1000) (v : List Int × Bool) : ∀ (m : Nat) (p : Int) (s : List Int × Bool), 0 ≤ p → p + m = (l.length : Int) → s.1.length = l.length → Ev (fun k => spec_Hops.l1 k (rowP (LW a b l) n m p s).1 (n + 1) a b l) v → Ev (fun k => spec_Hops.l2 k s.1 n p a b l) v
  | 0, p, s, hp, hpm, hs, hv => by
    refine Ev.step (fun _ => rfl) ?_
    simp only [spec_Hops.l2]
    rw [wr (x := n + 1) (by omega)]
    exact ev_f (by omega) hv
  | m + 1, p, s, hp, hpm, hs, hv => by
    rw [rowP] at hv
    refine Ev.step (fun _ => rfl) ?_
    simp only [spec_Hops.l2]
    refine ev_t (by omega) ?_
    by_cases c : rd s.1 p < 0
    · refine l3_ok a b l ha1 ha2 hb1 hb2 hl s.1 hs n hn p hp (by omega) c hab v ?_ ?_ 4 0 (Int.le_refl _) rfl rfl
      · by_cases d : LW a b l p (fun q => rd s.1 q == n) = true
        · rw [if_pos ⟨c, d⟩] at hv
          exact .inl (l2_ok a b l ha1 ha2 hb1 hb2 hl hab n hn v m (p + 1) (s.1.set p.toNat (n + 1), true) (by omega) (by omega) (by simpa using hs) hv)
        · exact .inr (by simpa using d)
      · by_cases d : LW a b l p (fun q => rd s.1 q == n) = true
        · exact .inr d
        · rw [if_neg (fun h => d h.2)] at hv
          exact .inl (l2_ok a b l ha1 ha2 hb1 hb2 hl hab n hn v m (p + 1) s (by omega) (by omega) hs hv)
    · rw [if_neg (fun h => c h.1)] at hv
      have h2 := l2_ok a b l ha1 ha2 hb1 hb2 hl hab n hn v m (p + 1) s (by omega) (by omega) hs hv
      refine Ev.step (fun _ => rfl) ?_
      simp only [spec_Hops.l3]
      rw [decide_eq_false c]
      refine ev_t (by omega) (ev_t hp (ev_t (by omega) (Ev.step (fun _ => rfl) ?_)))
      simp only [spec_Hops.j5]
      rw [wr (x := p + 1) (by omega)]
      exact ev_f (by simp) h2
theorem row_len (L : Int → (Int → Bool) → Bool) (n : Int) : ∀ (m : Nat) (p : Int) (s : List Int × Bool), (rowP L n m p s).1.length = s.1.length
  | 0, _, _ => rfl
  | m + 1, p, s => by
    rw [rowP, row_len L n m]
    split <;> simp
theorem l1_ok (a b : Int) (l : List Int) (ha1 : 1 ≤ a) (ha2 : a ≤ 10) (hb1 : 1 ≤ b) (hb2 : b ≤ 10) (hl : (l.length : Int) = a * b) (hab : a * b ≤ 100) : ∀ (j : Nat) (n : Int) (o : List Int), 0 ≤ n → n + j = (l.length : Int) → o.length = l.length → Ev (fun k => spec_Hops.l1 k o n a b l) (iterP (LW a b l) l.length j n o, true)
  | 0, n, o, hn, hnj, ho => by
    refine Ev.step (fun _ => rfl) ?_
    simp only [spec_Hops.l1]
    exact ev_f (by omega) (Ev.now _)
  | j + 1, n, o, hn, hnj, ho => by
    refine Ev.step (fun _ => rfl) ?_
    simp only [spec_Hops.l1]
    refine ev_t (by omega) ?_
    exact l2_ok a b l ha1 ha2 hb1 hb2 hl hab n ⟨hn, by omega⟩ _ l.length 0 (o, false) (Int.le_refl _) (by omega) ho (l1_ok a b l ha1 ha2 hb1 hb2 hl hab j (n + 1) _ (by omega) (by omega) (by rw [row_len]; exact ho))

end Go.Proofs.Ythbmpegaogfibab.Pu
