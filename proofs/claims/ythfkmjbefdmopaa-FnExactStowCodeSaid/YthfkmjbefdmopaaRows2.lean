/- A row of ints (or bools) that a call makes and writes in place, told by its block: words for walks by hand. Own text of this session. -/
import Derived.Test.YthfkmjbefdmopaaWMore
import Derived.Laws.OwnMore
namespace Go.Proofs.Ythfkmjbefdmopaa.Rw
open Go Go.RowKit Go.Proofs.YthfkmjbefdmopaaW.PrintWords
set_option linter.unusedVariables false
/-- Block g holds the values of xs, and nothing else. -/
def Row {α : Type} (enc : α → Value) (W : World) (e g : Nat) (xs : List α) : Prop := W.heap[g]? = some (.cells (xs.map enc).toArray e (0, 0))
abbrev I : Int → Value := Value.int .i64
abbrev B : Bool → Value := Value.bool
section
variable {α : Type} {enc : α → Value} {W W1 : World} {e g : Nat} {xs : List α}
theorem Row.below (h : Row enc W e g xs) (hb : Below W.heap.size W W1) : Row enc W1 e g xs := blk_below h hb
theorem Row.drewN (h : Row enc W e g xs) (m : Nat) : Row enc (W.drewN m) e g xs := h
theorem Row.alloc (h : Row enc W e g xs) (o : Obj) : Row enc (W.alloc o) e g xs := blk_alloc h o
theorem Row.set (h : Row enc W e g xs) (i : Nat) (x : α) : Row enc (W.setCell ⟨g, i, none⟩ (enc x)) e g (xs.set i x) := blk_put h i _ (by simp)
theorem Row.cell (h : Row enc W e g xs) {i : Nat} (hi : i < xs.length) : W.cell? ⟨g, i, none⟩ = some (enc xs[i]) := by
  rw [blk_cell h i]
  simp [hi]
theorem Row.frozen (h : Row enc W e g xs) (i : Nat) : W.frozen? ⟨g, i, none⟩ = false := blk_frozen h i
/-- As a row of one's own. -/
theorem Row.R {xs : List Int} (h : Row I W e g xs) {base : Nat} {ok : Nat → Prop} (hb : base ≤ g) (hm : xs.length ≤ maxLen) (hok : ok g) : (Kd.int .i64).R e W base ok (.slice (some ⟨g, 0, none⟩) xs.length xs.length) xs :=
  Kd.R_of_own (enc := I) ⟨by simp [encs], .inr ⟨g, xs.length, (xs.map I).toArray, rfl, hb, h, Nat.le_refl _, hm, by simp, (by simp [encs]; exact List.take_of_length_le (by simp))⟩⟩ (fun k hk => by cases hk; exact hok)
theorem Row.C {xs : List Int} (h : Row I W e g xs) (hm : xs.length ≤ maxLen) : (Kd.int .i64).C W (some ⟨g, 0, none⟩) xs.length xs := (Kd.R_reads' (h.R (base := 0) (ok := fun _ => True) (Nat.zero_le _) hm trivial)).2.2
variable {P : Program} {ops : Array Oper} {rest : List Oper} {o : Oper} {a : Act} {Q : Exit → Act → World → Prop}
end
end Go.Proofs.Ythfkmjbefdmopaa.Rw
