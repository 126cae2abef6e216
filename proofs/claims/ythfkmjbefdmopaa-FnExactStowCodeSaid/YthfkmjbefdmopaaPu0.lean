/- Plain lemmas on numbers, lists and rounds, for the pure statements. Own text of this session. -/
import Derived.Test.YthfkmjbefdmopaaWMore
namespace Go.Proofs.Ythfkmjbefdmopaa.Pu
open Go.RowKit Go.Proofs.YthfkmjbefdmopaaW.PrintWords
set_option linter.unusedVariables false
set_option linter.unusedSimpArgs false
theorem wr {x : Int} (h : -9223372036854775808 ≤ x ∧ x ≤ 9223372036854775807) : wrap64 x = x := by unfold wrap64; omega
def inB (x a b : Int) : Bool := decide (a ≤ x) && decide (x ≤ b)
theorem inB_t {x a b : Int} : inB x a b = true ↔ a ≤ x ∧ x ≤ b := by simp [inB]
theorem inB_f {x a b : Int} : inB x a b = false ↔ ¬ (a ≤ x ∧ x ≤ b) := by rw [← inB_t]; simp
/-- Downwards from n. -/
theorem down {P : Nat → Prop} {n : Nat} (done : P n) (step : ∀ i, i < n → P (i + 1) → P i) : ∀ i, i ≤ n → P i := by
  intro i hi
  obtain ⟨d, rfl⟩ : ∃ d, n = i + d := ⟨n - i, by omega⟩
  induction d generalizing i with
  | zero => exact done
  | succ d ih => exact step i (by omega) (ih (i + 1) (by rw [show i + 1 + d = i + (d + 1) by omega]; exact done) (fun j hj => step j (by omega)) (by omega))
theorem ev_t {α : Type} {c : Prop} [Decidable c] {f g : Nat → Option α} {r : α} (hc : c) (h : Ev f r) : Ev (fun k => if c then f k else g k) r := by
  simpa only [if_pos hc] using h
theorem ev_f {α : Type} {c : Prop} [Decidable c] {f g : Nat → Option α} {r : α} (hc : ¬ c) (h : Ev g r) : Ev (fun k => if c then f k else g k) r := by
  simpa only [if_neg hc] using h
theorem getD_at {α : Type} (l : List α) (d : α) {i : Nat} (h : i < l.length) : l.getD i d = l[i] := by simp [List.getD, h]
theorem set_fill {α β : Type} (l : List α) (f : α → β) (z : β) (i : Nat) (hi : i < l.length) (v : β) (hv : v = f l[i]) :
    ((l.take i).map f ++ List.replicate (l.length - i) z).set i v = (l.take (i + 1)).map f ++ List.replicate (l.length - (i + 1)) z := by
  subst hv
  have h1 : ((l.take i).map f).length = i := by simp; omega
  rw [List.set_append_right (h := by omega), h1, Nat.sub_self]
  obtain ⟨m, hm⟩ : ∃ m, l.length - i = m + 1 := ⟨l.length - i - 1, by omega⟩
  rw [hm, List.replicate_succ, List.set_cons_zero, List.take_add_one, List.getElem?_eq_getElem hi]
  simp only [Option.toList_some, List.map_append, List.map_cons, List.map_nil, List.append_assoc, List.singleton_append]
  congr 3
  omega
theorem fill_all {α β : Type} (l : List α) (f : α → β) (z : β) : (l.take l.length).map f ++ List.replicate (l.length - l.length) z = l.map f := by simp
theorem fill_none {α β : Type} (l : List α) (f : α → β) (z : β) : (l.take 0).map f ++ List.replicate (l.length - 0) z = List.replicate l.length z := by simp
def allFrom (p : Nat → Bool) : Nat → Nat → Bool
  | _, 0 => true
  | i, d + 1 => p i && allFrom p (i + 1) d
/-- A loop that goes on while p holds. -/
theorem ev_all {g : Nat → Int → Option Bool} {n : Nat} (p : Nat → Bool) (fin : Bool) (done : Ev (fun k => g k (n : Int)) fin)
    (step : ∀ i : Nat, i < n → ∀ r, Ev (fun k => g k ((i + 1 : Nat) : Int)) r → Ev (fun k => g k (i : Int)) (p i && r)) : Ev (fun k => g k 0) (allFrom p 0 n && fin) := by
  have key : ∀ i, i ≤ n → Ev (fun k => g k (i : Int)) (allFrom p i (n - i) && fin) := by
    refine down ?_ ?_
    · simpa [allFrom] using done
    · intro i hi ih
      rw [show n - i = (n - (i + 1)) + 1 by omega]
      simp only [allFrom, Bool.and_assoc]
      exact step i hi _ ih
  simpa using key 0 (Nat.zero_le _)
theorem allFrom_iff {p : Nat → Bool} : ∀ d i, allFrom p i d = true ↔ ∀ j, i ≤ j → j < i + d → p j = true
  | 0, i => by simp [allFrom]; omega
  | d + 1, i => by
    simp only [allFrom, Bool.and_eq_true, allFrom_iff d (i + 1)]
    constructor
    · rintro ⟨h1, h2⟩ j hj hj'
      by_cases e : j = i
      · subst e; exact h1
      · exact h2 j (by omega) (by omega)
    · intro h
      exact ⟨h i (by omega) (by omega), fun j hj hj' => h j (by omega) (by omega)⟩
end Go.Proofs.Ythfkmjbefdmopaa.Pu
