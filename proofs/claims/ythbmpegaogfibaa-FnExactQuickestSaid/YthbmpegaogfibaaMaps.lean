/- Maps from int to bool and from int to int that a call makes and keeps: words over the library's laws on maps. Own text of this session. -/
import Derived.Test.YthbmpegaogfibaaGiven
import Derived.Maps.OwnOps
import Derived.Maps.OwnSet
import Derived.Below
namespace Go.Proofs.Ythbmpegaogfibaa.Mp
open Go Go.RowKit Go.Maps Go.Proofs.YthbmpegaogfibaaW.PrintWords
set_option linter.unusedVariables false
section
variable {P : Program} {K E T : TypeId}
/-- Block b is a map of at most n entries; the numbers at which it reads true are those of acc. -/
def SetIs (P : Program) (K E : TypeId) (w : World) (b n : Nat) (acc : List Int) : Prop :=
  ∃ D : DataW Unit, w.ownsMap P K (plainElem P E) b n D ∧ ∀ x : Int, D.atKey (.int .i64 x) (.lit (.bool false)) = .lit (.bool (acc.contains x))
theorem SetIs.made (w : World) : SetIs P K E (w.alloc (.map #[] 0)) w.heap.size 0 [] := ⟨_, World.ownsMap_made _ _ _ _, fun x => rfl⟩
theorem SetIs.drewN {w : World} {b n : Nat} {acc : List Int} (h : SetIs P K E w b n acc) (m : Nat) : SetIs P K E (w.drewN m) b n acc := h
theorem SetIs.kept {w w' : World} {b n : Nat} {acc : List Int} {row : Option Nat} (h : SetIs P K E w b n acc) (hg : w.grownBy w' row) (hne : some b ≠ row) : SetIs P K E w' b n acc := by
  obtain ⟨D, h1, h2⟩ := h
  exact ⟨D, h1.kept hg hne, h2⟩
theorem SetIs.below {w w' : World} {b n : Nat} {acc : List Int} (h : SetIs P K E w b n acc) (hb : Below w.heap.size w w') : SetIs P K E w' b n acc := h.kept (grown_of_below hb none) (by simp)
theorem SetIs.lt {w : World} {b n : Nat} {acc : List Int} (h : SetIs P K E w b n acc) : b < w.heap.size := by
  obtain ⟨D, h1, h2⟩ := h
  exact h1.lt
theorem SetIs.mono {w : World} {b n n' : Nat} {acc : List Int} (h : SetIs P K E w b n acc) (hn : n ≤ n') : SetIs P K E w b n' acc := by
  obtain ⟨D, h1, h2⟩ := h
  exact ⟨D, h1.mono hn, h2⟩
theorem SetIs.ne {w : World} {b n : Nat} {acc : List Int} (h : SetIs P K E w b n acc) {g : Nat} {cs : Array Value} {t : TypeId} {fr : Nat × Nat} (hg : w.heap[g]? = some (.cells cs t fr)) : some g ≠ some b := by
  obtain ⟨D, ⟨es, clock, hb, _⟩, _⟩ := h
  rintro e
  injection e with e
  subst e
  rw [hb] at hg
  cases hg
theorem wf_of {x : Int} (h : -9223372036854775808 ≤ x ∧ x ≤ 9223372036854775807) : (Lit.int .i64 x).wf = true := by
  simp [Lit.wf, IntKind.min, IntKind.max, IntKind.signed, IntKind.bits]
  omega
theorem bool_inv {e : TypeId} (he : P.underlying e = some .bool) {v : Value} {z : DataW Unit × List MemPlace} (h : plainElem P e v = some z) : ∃ c, v = .bool c ∧ z = (.lit (.bool c), []) := by
  unfold plainElem at h
  rw [he] at h
  split at h
  · cases h; exact ⟨_, rfl, rfl⟩
  · rename_i h1; cases h1
  · rename_i h1; cases h1
  · cases h
variable {ops : Array Oper} {rest : List Oper} {o : Oper} {a : Act} {Q : Exit → Act → World → Prop}
theorem look {w : World} {b n : Nat} {acc : List Int} (hS : SetIs P K E w b n acc) (hg : o.guard = none) (m x : Operand) (hop : o.op = Op.lookup T m x false)
    (hk : P.underlying K = some (.int .i64)) (ht : P.underlying T = some (.map K E)) (he : P.underlying E = some .bool) (hz : (zeroValue E).run P w = .ok (.bool false) w)
    (hm : a.eval m = .map (some b)) (y : Int) (hx : a.eval x = .int .i64 y) (hy : (Lit.int .i64 y).wf = true)
    (h : wpList P ops Q rest (a.put o.dst (.bool (acc.contains y))) w) : wpList P ops Q (o :: rest) a w := by
  obtain ⟨D, h1, h2⟩ := hS
  refine wpList_plain hg fun K' hK' => ?_
  obtain ⟨v, ps, hrun, hv⟩ := h1.lookup (int_keyed hk) ht hz (plainElem_bool he false) (keyOf_int_mk hk hy)
  obtain ⟨c, rfl, hc⟩ := bool_inv he hv
  have hc2 := (Prod.mk.inj hc).1
  rw [h2 y] at hc2
  injection hc2 with hc3
  injection hc3 with hc4
  unfold Oper.wp
  simp [execOp, hop, hm, hx, hrun, Result.andThen]
  rw [hc4] at h
  exact hK' _ _ h
theorem put {w : World} {b n : Nat} {acc : List Int} (hS : SetIs P K E w b n acc) (hg : o.guard = none) (m x v : Operand) (hop : o.op = Op.mapUpdate T m x v)
    (hk : P.underlying K = some (.int .i64)) (ht : P.underlying T = some (.map K E)) (he : P.underlying E = some .bool) (hn : n < maxLen)
    (hm : a.eval m = .map (some b)) (y : Int) (hx : a.eval x = .int .i64 y) (hv : a.eval v = .bool true) (hy : (Lit.int .i64 y).wf = true)
    (h : ∀ w', SetIs P K E w' b (n + 1) (y :: acc) → w.grownBy w' (some b) → wpList P ops Q rest (a.put o.dst undef) w') : wpList P ops Q (o :: rest) a w := by
  obtain ⟨D, h1, h2⟩ := hS
  have hD := h1.isMap
  refine wpList_mapUpdate_own w hg m x v T hop K E (int_keyed hk) ht (plainElem P E) b n D hm h1 hn _ _ (.int .i64 y) hx hv (keyOf_int_mk hk hy) (.lit (.bool true)) [] (plainElem_bool he true) fun w' h3 h4 => h w' ⟨_, h3, fun z => ?_⟩ h4
  by_cases e : z = y
  · subst e
    rw [atKey_put_same hD (by trivial)]
    simp
  · rw [atKey_put_other (fun h => e (by injection h))]
    rw [h2 z]
    simp [e]
/-- Block b is a map of at most n entries: at which place of l each number stands. -/
def TurnIs (P : Program) (K E : TypeId) (w : World) (b n : Nat) (l : List Int) : Prop :=
  ∃ D : DataW Unit, w.ownsMap P K (plainElem P E) b n D ∧ (∀ x : Int, D.atKey (.int .i64 x) (.lit (.int .i64 0)) = .lit (.int .i64 (if l.contains x = true then (l.findIdx (· == x) : Int) else 0))) ∧ ∀ x : Int, Maps.has D (.int .i64 x) = l.contains x
theorem TurnIs.made (w : World) : TurnIs P K E (w.alloc (.map #[] 0)) w.heap.size 0 [] := ⟨_, World.ownsMap_made _ _ _ _, fun x => rfl, fun x => rfl⟩
theorem TurnIs.kept {w w' : World} {b n : Nat} {acc : List Int} {row : Option Nat} (h : TurnIs P K E w b n acc) (hg : w.grownBy w' row) (hne : some b ≠ row) : TurnIs P K E w' b n acc := by
  obtain ⟨D, h1, h2⟩ := h
  exact ⟨D, h1.kept hg hne, h2⟩
theorem TurnIs.setCell {w : World} {b n : Nat} {acc : List Int} (h : TurnIs P K E w b n acc) {p : Addr} (hp : some p.block ≠ some b) (u : Value) : TurnIs P K E (w.setCell p u) b n acc := by
  obtain ⟨D, h1, h2⟩ := h
  exact ⟨D, h1.setCell (fun e => hp (by rw [e])) u, h2⟩
theorem TurnIs.below {w w' : World} {b n : Nat} {acc : List Int} (h : TurnIs P K E w b n acc) (hb : Below w.heap.size w w') : TurnIs P K E w' b n acc := h.kept (grown_of_below hb none) (by simp)
theorem TurnIs.ne {w : World} {b n : Nat} {acc : List Int} (h : TurnIs P K E w b n acc) {g : Nat} {cs : Array Value} {t : TypeId} {fr : Nat × Nat} (hg : w.heap[g]? = some (.cells cs t fr)) : some g ≠ some b := by
  obtain ⟨D, ⟨es, clock, hb, _⟩, _⟩ := h
  rintro e
  injection e with e
  subst e
  rw [hb] at hg
  cases hg
end
end Go.Proofs.Ythbmpegaogfibaa.Mp
