/- Plain lemmas on the printed functions (Paths). -/
import Derived.Test.YtfeaabdighopbabPu0
import Derived.Test.YtfeaabdighopbabPCx0
import Derived.Test.YtfeaabdighopbabPCx10
import Derived.Test.YtfeaabdighopbabCQBase
import Derived.Test.YtfeaabdighopbabCQSeas
import Derived.Test.YtfeaabdighopbabCQNexts
import Derived.Test.YtfeaabdighopbabCQPlaces
namespace Go.Proofs.Ytfeaabdighopbab.Pu
open Go.RowKit Go.Proofs.Ytfeaabdighopbab Go.Proofs.Ytfeaabdighopbab.PC Go.Proofs.Ytfeaabdighopbab.Pu Go.Proofs.YtfeaabdighopbabW.PrintWords Go.Proofs.YtfeaabdighopbabW.PrintLast Go.Proofs.YtfeaabdighopbabW.PrintMore
set_option linter.unusedVariables false
set_option linter.unusedSimpArgs false
theorem next_bd (a b p q : Int) (ha : 1 ≤ a) (hp : 0 ≤ p) (hp2 : p < a * b) (h : q ∈ nextL a b p) : 0 ≤ q ∧ q < a * b := by
  obtain ⟨x1, x2, y1, y2, e1⟩ := divmod_bd a b p ha hp hp2
  have mem : (p / a > 0 ∧ q = p - a) ∨ (p % a > 0 ∧ q = p - 1) ∨ (p % a < a - 1 ∧ q = p + 1) ∨ (p / a < b - 1 ∧ q = p + a) := by
    unfold nextL at h
    simp only [List.mem_append] at h
    have m : ∀ (c : Prop) [Decidable c] (z : Int), q ∈ (if c then [z] else []) ↔ c ∧ q = z := by
      intro c _ z
      by_cases h : c <;> simp [h]
    rwa [m, m, m, m] at h
  have k1 : p / a > 0 → a * 1 ≤ a * (p / a) := fun h => Int.mul_le_mul_of_nonneg_left (by omega) (by omega)
  have k2 : a * (p / a + 1) ≤ a * b := Int.mul_le_mul_of_nonneg_left (by omega) (by omega)
  have k3 : p / a < b - 1 → a * (p / a + 2) ≤ a * b := fun h => Int.mul_le_mul_of_nonneg_left (by omega) (by omega)
  have k0 : 0 ≤ a * (p / a) := Int.mul_nonneg (by omega) y1
  rw [Int.mul_add] at k2 k3
  rcases mem with ⟨h1, h2⟩ | ⟨h1, h2⟩ | ⟨h1, h2⟩ | ⟨h1, h2⟩
  · have := k1 h1; omega
  · omega
  · omega
  · have := k3 h1; omega
theorem adj_symm (a p q : Int) : adjB a p q = adjB a q p := by
  unfold adjB
  have e1 : (p % a - q % a) * (p % a - q % a) = (q % a - p % a) * (q % a - p % a) := by rw [← Int.neg_sub (q % a) (p % a), Int.neg_mul_neg]
  have e2 : (p / a - q / a) * (p / a - q / a) = (q / a - p / a) * (q / a - p / a) := by rw [← Int.neg_sub (q / a) (p / a), Int.neg_mul_neg]
  rw [e1, e2]
theorem adj_irr (a p : Int) : adjB a p p = false := by simp [adjB]
theorem rd_set {o : List Int} {q : Int} (hq : 0 ≤ q) (hq2 : q < (o.length : Int)) (v : Int) (j : Int) (hj : 0 ≤ j) : rd (o.set q.toNat v) j = if j = q then v else rd o j := by
  unfold rd
  by_cases e : j = q
  · subst e; rw [if_pos rfl]; simp [List.getD, List.getElem?_set, show j.toNat < o.length by omega]
  · rw [if_neg e]
    have : q.toNat ≠ j.toNat := by omega
    simp [List.getD, List.getElem?_set, this]
/-- A sum over a list. -/
def sumF (f : Int → Nat) : List Int → Nat
  | [] => 0
  | x :: xs => f x + sumF f xs
theorem sumF_set (f : Int → Nat) (v : Int) : ∀ (o : List Int) (i : Nat), i < o.length → sumF f (o.set i v) + f (o.getD i 0) = sumF f o + f v
  | [], i, h => by simp at h
  | x :: xs, 0, _ => by simp [sumF]; omega
  | x :: xs, i + 1, h => by
    have h1 := sumF_set f v xs i (by simpa using h)
    simp only [List.set_cons_succ, sumF]
    have e : (x :: xs).getD (i + 1) 0 = xs.getD i 0 := by simp
    rw [e]; omega
def fBig (x : Int) : Nat := if x < 0 then 1000000 else x.toNat
def fPos (x : Int) : Nat := if x < 0 then 0 else 1
theorem pos_le : ∀ o : List Int, sumF fPos o ≤ o.length
  | [] => by simp [sumF]
  | x :: xs => by
    have := pos_le xs
    simp only [sumF, List.length_cons]
    have h : fPos x ≤ 1 := by unfold fPos; split <;> omega
    omega
/-- There is a way from s to p that costs u. -/
inductive Wk (a : Int) (l : List Int) (s : Int) : Int → Int → Prop
  | base : Wk a l s s 0
  | step {q u p : Int} (h : Wk a l s q u) (hp : 0 ≤ p) (hp2 : p < (l.length : Int)) (hq : 0 ≤ q) (hq2 : q < (l.length : Int)) (ha : adjB a q p = true) (hc : rd l p > 0) : Wk a l s p (u + rd l p)
structure InvC (a : Int) (l : List Int) (s : Int) (o : List Int) : Prop where
  len : o.length = l.length
  val : ∀ p : Int, 0 ≤ p → p < (l.length : Int) → rd o p = -1 ∨ (0 ≤ rd o p ∧ Wk a l s p (rd o p))
  src : rd o s = 0
  bd : ∀ p : Int, 0 ≤ p → p < (l.length : Int) → rd o p ≤ 1000 * (sumF fPos o : Nat)
theorem set_inv {a : Int} {l : List Int} {s : Int} {o : List Int} (hl : l.length ≤ 144) (hc : ∀ i : Nat, i < l.length → 0 ≤ rd l i ∧ rd l i ≤ 1000) (hs : 0 ≤ s) (hs2 : s < (l.length : Int)) (h : InvC a l s o) {p q : Int} (hp : 0 ≤ p) (hp2 : p < (l.length : Int)) (hq : 0 ≤ q) (hq2 : q < (l.length : Int)) (hadj : adjB a p q = true) (hcq : rd l q > 0) (hd : 0 ≤ rd o p) (hbet : rd o q < 0 ∨ rd o q > rd o p + rd l q) :
    InvC a l s (o.set q.toNat (rd o p + rd l q)) ∧ sumF fBig (o.set q.toNat (rd o p + rd l q)) < sumF fBig o := by
  have hlen := h.len
  have hcost : 0 ≤ rd l q ∧ rd l q ≤ 1000 := by have := hc q.toNat (by omega); rwa [show ((q.toNat : Nat) : Int) = q by omega] at this
  have hv0 : 0 ≤ rd o p + rd l q := by omega
  have hw : Wk a l s p (rd o p) := by
    rcases h.val p hp hp2 with e | ⟨_, e⟩
    · omega
    · exact e
  have hqo : q < (o.length : Int) := by omega
  have e0 : o.getD q.toNat 0 = rd o q := rfl
  have hpos := sumF_set fPos (rd o p + rd l q) o q.toNat (by omega)
  have hbig := sumF_set fBig (rd o p + rd l q) o q.toNat (by omega)
  rw [e0] at hpos hbig
  have hpl := pos_le (o.set q.toNat (rd o p + rd l q))
  rw [List.length_set, hlen] at hpl
  have hpl2 := pos_le o
  have hbp := h.bd p hp hp2
  have hbq := h.bd q hq hq2
  have f1 : fPos (rd o p + rd l q) = 1 := by unfold fPos; rw [if_neg (by omega)]
  have f2 : fBig (rd o p + rd l q) = (rd o p + rd l q).toNat := by unfold fBig; rw [if_neg (by omega)]
  refine ⟨⟨by rw [List.length_set]; exact hlen, fun j hj hj2 => ?_, ?_, fun j hj hj2 => ?_⟩, ?_⟩
  · rw [rd_set hq hqo _ j hj]
    by_cases e : j = q
    · rw [if_pos e]; right; subst e; exact ⟨hv0, Wk.step hw hj hj2 hp hp2 hadj hcq⟩
    · rw [if_neg e]; exact h.val j hj hj2
  · rw [rd_set hq hqo _ s hs]
    by_cases e : s = q
    · exfalso
      have := h.src
      rw [e] at this
      omega
    · rw [if_neg e]; exact h.src
  · rw [rd_set hq hqo _ j hj]
    by_cases hn : rd o q < 0
    · have f3 : fPos (rd o q) = 0 := by unfold fPos; rw [if_pos hn]
      have hj3 := h.bd j hj hj2
      by_cases e : j = q
      · rw [if_pos e]; omega
      · rw [if_neg e]; omega
    · have f3 : fPos (rd o q) = 1 := by unfold fPos; rw [if_neg hn]
      have hj3 := h.bd j hj hj2
      by_cases e : j = q
      · rw [if_pos e]; omega
      · rw [if_neg e]; omega
  · by_cases hn : rd o q < 0
    · have f3 : fBig (rd o q) = 1000000 := by unfold fBig; rw [if_pos hn]
      omega
    · have f3 : fBig (rd o q) = (rd o q).toNat := by unfold fBig; rw [if_neg hn]
      omega
/-- Nothing can be made cheaper by going on from p. -/
def FixC (a : Int) (l o : List Int) (p : Int) : Prop := 0 ≤ rd o p → ∀ q : Int, 0 ≤ q → q < (l.length : Int) → adjB a p q = true → rd l q > 0 → 0 ≤ rd o q ∧ rd o q ≤ rd o p + rd l q
theorem fix_low {a : Int} {l : List Int} {s : Int} {o : List Int} (hsrc : rd o s = 0) (hf : ∀ p : Int, 0 ≤ p → p < (l.length : Int) → FixC a l o p) : ∀ {p u : Int}, Wk a l s p u → 0 ≤ rd o p ∧ rd o p ≤ u := by
  intro p u h
  induction h with
  | base => omega
  | step h hp hp2 hq hq2 ha hc ih =>
    have h1 := hf _ hq hq2 ih.1 _ hp hp2 ha hc
    omega
theorem fix_same {a : Int} {l : List Int} {s : Int} {o1 o2 : List Int} (h1 : InvC a l s o1) (h2 : InvC a l s o2) (f1 : ∀ p : Int, 0 ≤ p → p < (l.length : Int) → FixC a l o1 p) (f2 : ∀ p : Int, 0 ≤ p → p < (l.length : Int) → FixC a l o2 p) : o1 = o2 := by
  refine List.ext_getElem (by rw [h1.len, h2.len]) fun i hi1 hi2 => ?_
  have hi : ((i : Nat) : Int) < (l.length : Int) := by have := h1.len; omega
  have e1 : o1[i] = rd o1 (i : Nat) := by simp [rd, List.getD, hi1]
  have e2 : o2[i] = rd o2 (i : Nat) := by simp [rd, List.getD, hi2]
  rw [e1, e2]
  rcases h1.val i (by omega) hi with a1 | ⟨a1, w1⟩ <;> rcases h2.val i (by omega) hi with a2 | ⟨a2, w2⟩
  · omega
  · have := fix_low h1.src f1 w2; omega
  · have := fix_low h2.src f2 w1; omega
  · have b1 := fix_low h1.src f1 w2
    have b2 := fix_low h2.src f2 w1
    omega
theorem relax_ok {a : Int} {l : List Int} {s : Int} (hl : l.length ≤ 144) (hc : ∀ i : Nat, i < l.length → 0 ≤ rd l i ∧ rd l i ≤ 1000) (hs : 0 ≤ s) (hs2 : s < (l.length : Int)) {p : Int} (hp : 0 ≤ p) (hp2 : p < (l.length : Int)) (d : Int) (hd : 0 ≤ d) : ∀ (qs : List Int), (∀ q ∈ qs, 0 ≤ q ∧ q < (l.length : Int) ∧ adjB a p q = true) → ∀ (o : List Int) (ag : Bool), InvC a l s o → rd o p = d →
    ∃ o' ag', impl_Cheapest.relax l d qs (o, ag) = some (o', ag') ∧ InvC a l s o' ∧ sumF fBig o' ≤ sumF fBig o ∧ ((ag' = ag ∧ o' = o ∧ ∀ q ∈ qs, rd l q > 0 → 0 ≤ rd o q ∧ rd o q ≤ d + rd l q) ∨ (ag' = true ∧ sumF fBig o' < sumF fBig o))
  | [], _, o, ag, hi, _ => ⟨o, ag, rfl, hi, Nat.le_refl _, .inl ⟨rfl, rfl, fun q hq => by cases hq⟩⟩
  | q :: qs, hq, o, ag, hi, hpd => by
    obtain ⟨hq0, hq1, hqa⟩ := hq q List.mem_cons_self
    have hqs := fun z hz => hq z (List.mem_cons_of_mem _ hz)
    have hlen := hi.len
    unfold impl_Cheapest.relax
    simp only
    rw [if_pos hq0, if_pos hq1, if_pos (by omega)]
    have hcost : 0 ≤ rd l q ∧ rd l q ≤ 1000 := by have := hc q.toNat (by omega); rwa [show ((q.toNat : Nat) : Int) = q by omega] at this
    have hbp := hi.bd p hp hp2
    have hpl2 := pos_le o
    have hww : wrap64 (d + rd l q) = d + rd l q := wr (by omega)
    rw [hww]
    have hpq : p ≠ q := by rintro rfl; rw [adj_irr] at hqa; cases hqa
    by_cases hcq : rd l q > 0
    · rw [if_pos hcq]
      have doit : (rd o q < 0 ∨ rd o q > d + rd l q) → ∃ o' ag', impl_Cheapest.relax l d qs (o.set q.toNat (d + rd l q), true) = some (o', ag') ∧ InvC a l s o' ∧ sumF fBig o' ≤ sumF fBig o ∧ ((ag' = ag ∧ o' = o ∧ ∀ z ∈ q :: qs, rd l z > 0 → 0 ≤ rd o z ∧ rd o z ≤ d + rd l z) ∨ (ag' = true ∧ sumF fBig o' < sumF fBig o)) := by
        intro hb
        rw [← hpd] at hb ⊢
        obtain ⟨hi2, hm2⟩ := set_inv hl hc hs hs2 hi hp hp2 hq0 hq1 hqa hcq (by omega) hb
        obtain ⟨o', ag', r1, r2, r3, r4⟩ := relax_ok hl hc hs hs2 hp hp2 (rd o p) (by omega) qs hqs _ true hi2 (by rw [rd_set hq0 (by omega) _ p hp, if_neg hpq])
        refine ⟨o', ag', r1, r2, by omega, .inr ⟨?_, by omega⟩⟩
        rcases r4 with h | h
        · exact h.1
        · exact h.1
      by_cases h1 : rd o q < 0
      · rw [if_pos h1]; exact doit (.inl h1)
      · rw [if_neg h1]
        by_cases h2 : rd o q > d + rd l q
        · rw [if_pos h2]; exact doit (.inr h2)
        · rw [if_neg h2]
          obtain ⟨o', ag', r1, r2, r3, r4⟩ := relax_ok hl hc hs hs2 hp hp2 d hd qs hqs o ag hi hpd
          refine ⟨o', ag', r1, r2, r3, ?_⟩
          rcases r4 with ⟨h3, h4, h5⟩ | h3
          · refine .inl ⟨h3, h4, fun z hz hz2 => ?_⟩
            rcases List.mem_cons.1 hz with rfl | hz
            · omega
            · exact h5 z hz hz2
          · exact .inr h3
    · rw [if_neg hcq]
      obtain ⟨o', ag', r1, r2, r3, r4⟩ := relax_ok hl hc hs hs2 hp hp2 d hd qs hqs o ag hi hpd
      refine ⟨o', ag', r1, r2, r3, ?_⟩
      rcases r4 with ⟨h3, h4, h5⟩ | h3
      · refine .inl ⟨h3, h4, fun z hz hz2 => ?_⟩
        rcases List.mem_cons.1 hz with rfl | hz
        · omega
        · exact h5 z hz hz2
      · exact .inr h3
theorem row_ok (a b : Int) (l : List Int) (f : List S143) (s : Int) (hsea : seaB a b l f = true) (hs : 0 ≤ s) (hs2 : s < (l.length : Int)) : ∀ (m : Nat) (p : Int), 0 ≤ p → p + m = (l.length : Int) → ∀ (o : List Int) (ag : Bool), InvC a l s o →
    ∃ o' ag', Ev (fun k => impl_Cheapest.row k a b l f m p (o, ag)) (o', ag') ∧ InvC a l s o' ∧ sumF fBig o' ≤ sumF fBig o ∧ ((ag' = ag ∧ o' = o ∧ ∀ q : Int, p ≤ q → q < (l.length : Int) → FixC a l o q) ∨ (ag' = true ∧ sumF fBig o' < sumF fBig o))
  | 0, p, hp, hm, o, ag, hi => ⟨o, ag, Ev.now _, hi, Nat.le_refl _, .inl ⟨rfl, rfl, fun q h1 h2 => by omega⟩⟩
  | m + 1, p, hp, hm, o, ag, hi => by
    obtain ⟨ha1, ha2, hb1, hb2, hlab, hab, hab1, _, hc⟩ := seaB_t hsea
    have hl : l.length ≤ 144 := by omega
    by_cases hd : rd o p < 0
    · obtain ⟨o', ag', r1, r2, r3, r4⟩ := row_ok a b l f s hsea hs hs2 m (p + 1) (by omega) (by omega) o ag hi
      refine ⟨o', ag', ?_, r2, r3, ?_⟩
      · simp only [impl_Cheapest.row]
        exact ev_t hd r1
      · rcases r4 with ⟨h1, h2, h3⟩ | h1
        · refine .inl ⟨h1, h2, fun q hq hq2 => ?_⟩
          by_cases e : q = p
          · subst e; intro h; omega
          · exact h3 q (by omega) hq2
        · exact .inr h1
    · have hnx := next2 a b l f p ha1 ha2 hb1 hb2 hab hp (by omega)
      obtain ⟨o1, ag1, q1, q2, q3, q4⟩ := relax_ok hl hc hs hs2 hp (by omega) (rd o p) (by omega) (nextL a b p) (fun q hq => by
        have h1 := next_bd a b p q ha1 hp (by omega) hq
        exact ⟨h1.1, by omega, (next_mem a b p q ha1 hp (by omega) h1.1 h1.2).1 hq⟩) o ag hi rfl
      obtain ⟨o', ag', r1, r2, r3, r4⟩ := row_ok a b l f s hsea hs hs2 m (p + 1) (by omega) (by omega) o1 ag1 q2
      refine ⟨o', ag', ?_, r2, by omega, ?_⟩
      · simp only [impl_Cheapest.row]
        refine ev_f hd (Ev.bind hnx ?_)
        simp only [q1, Option.bind_some]
        exact r1
      · rcases q4 with ⟨h1, h2, h3⟩ | ⟨h1, h2⟩
        · subst h1 h2
          rcases r4 with ⟨g1, g2, g3⟩ | g1
          · refine .inl ⟨g1, g2, fun q hq hq2 => ?_⟩
            by_cases e : q = p
            · subst e
              intro _ z hz hz2 hza hzc
              exact h3 z ((next_mem a b q z ha1 hp (by omega) hz (by omega)).2 hza) hzc
            · exact g3 q (by omega) hq2
          · exact .inr g1
        · refine .inr ⟨?_, by omega⟩
          rcases r4 with g1 | g1
          · rw [g1.1, h1]
          · exact g1.1
theorem loop_ok (a b : Int) (l : List Int) (f : List S143) (s : Int) (hsea : seaB a b l f = true) (hs : 0 ≤ s) (hs2 : s < (l.length : Int)) : ∀ (n : Nat) (o : List Int), sumF fBig o ≤ n → InvC a l s o →
    ∃ r, (∃ K, ∀ k m, K ≤ k → K ≤ m → impl_Cheapest.loop k a b l f m o = some r) ∧ InvC a l s r ∧ ∀ p : Int, 0 ≤ p → p < (l.length : Int) → FixC a l r p
  | n, o, hn, hi => by
    obtain ⟨o', ag', ⟨K1, r1⟩, r2, r3, r4⟩ := row_ok a b l f s hsea hs hs2 l.length 0 (Int.le_refl _) (by omega) o false hi
    rcases r4 with ⟨h1, h2, h3⟩ | ⟨h1, h2⟩
    · subst h1 h2
      refine ⟨o', ⟨K1 + 1, fun k m hk hm => ?_⟩, hi, fun p hp hp2 => h3 p hp hp2⟩
      obtain ⟨m, rfl⟩ : ∃ m', m = m' + 1 := ⟨m - 1, by omega⟩
      simp only [impl_Cheapest.loop, r1 k (by omega), Option.bind_some]
      rfl
    · subst h1
      obtain ⟨n, rfl⟩ : ∃ n', n = n' + 1 := ⟨n - 1, by omega⟩
      obtain ⟨r, ⟨K2, g1⟩, g2, g3⟩ := loop_ok a b l f s hsea hs hs2 n o' (by omega) r2
      refine ⟨r, ⟨K1 + K2 + 1, fun k m hk hm => ?_⟩, g2, g3⟩
      obtain ⟨m, rfl⟩ : ∃ m', m = m' + 1 := ⟨m - 1, by omega⟩
      simp only [impl_Cheapest.loop, r1 k (by omega), Option.bind_some, if_true]
      exact g1 k m (by omega) (by omega)

end Go.Proofs.Ytfeaabdighopbab.Pu
