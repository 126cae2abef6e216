/- Plain words on lists for the contracts of slices.IndexFunc and slices.ContainsFunc at whatever predicate. Own text of this session. -/
import Derived.Test.YthfkmjbefdmopaaWWords
import Derived.Shelf.Abstract
namespace Go.Proofs.Ythfkmjbefdmopaa.Gv
/-- Where the first element at which p holds stands, or -1. -/
def idxP {α : Type} (p : α → Bool) (l : List α) : Int := if l.any p then (l.findIdx p : Int) else -1
theorem idxP_hit {α : Type} (p : α → Bool) (l : List α) (i : Nat) (x : α) (hx : l[i]? = some x) (hp : p x = true) (hb : ∀ j : Nat, j < i → ∀ y, l[j]? = some y → p y = false) : idxP p l = (i : Int) := by
  have hi : i < l.length := (List.getElem?_eq_some_iff.1 hx).1
  have hxe : l[i] = x := (List.getElem?_eq_some_iff.1 hx).2
  have ha : l.any p = true := List.any_eq_true.2 ⟨x, List.mem_of_getElem? hx, hp⟩
  unfold idxP
  rw [if_pos ha]
  congr 1
  rw [List.findIdx_eq hi]
  refine ⟨by rw [hxe]; exact hp, fun j hj => ?_⟩
  exact hb j hj _ (List.getElem?_eq_getElem (by omega))
theorem idxP_miss {α : Type} (p : α → Bool) (l : List α) (h : ∀ x, x ∈ l → p x = false) : idxP p l = -1 := by
  unfold idxP
  rw [if_neg]
  intro ha
  obtain ⟨x, hx, hp⟩ := List.any_eq_true.1 ha
  rw [h x hx] at hp
  cases hp
theorem idxP_any {α : Type} (p : α → Bool) (l : List α) : decide (0 ≤ idxP p l) = l.any p := by
  unfold idxP
  cases h : l.any p with
  | true => simp
  | false => simp
theorem any_congr {α : Type} {l : List α} {p q : α → Bool} (h : ∀ x ∈ l, p x = q x) : l.any p = l.any q := by
  induction l with
  | nil => rfl
  | cons x l ih => rw [List.any_cons, List.any_cons, h x List.mem_cons_self, ih fun y hy => h y (List.mem_cons_of_mem _ hy)]
end Go.Proofs.Ythfkmjbefdmopaa.Gv
