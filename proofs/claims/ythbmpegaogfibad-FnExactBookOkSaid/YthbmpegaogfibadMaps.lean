/- Maps from int to bool and from int to int that a call makes and keeps: words over the library's laws on maps. Own text of this session. -/
import Derived.Test.YthbmpegaogfibadGiven
import Derived.Maps.OwnOps
import Derived.Maps.OwnSet
import Derived.Below
namespace Go.Proofs.Ythbmpegaogfibad.Mp
open Go Go.RowKit Go.Maps Go.Proofs.YthbmpegaogfibadW.PrintWords
set_option linter.unusedVariables false
section
variable {P : Program} {K E T : TypeId}
/-- Block b is a map of at most n entries; the numbers at which it reads true are those of acc. -/
def SetIs (P : Program) (K E : TypeId) (w : World) (b n : Nat) (acc : List Int) : Prop :=
  ∃ D : DataW Unit, w.ownsMap P K (plainElem P E) b n D ∧ ∀ x : Int, D.atKey (.int .i64 x) (.lit (.bool false)) = .lit (.bool (acc.contains x))
theorem SetIs.made (w : World) : SetIs P K E (w.alloc (.map #[] 0)) w.heap.size 0 [] := ⟨_, World.ownsMap_made _ _ _ _, fun x => rfl⟩
theorem SetIs.drewN {w : World} {b n : Nat} {acc : List Int} (h : SetIs P K E w b n acc) (m : Nat) : SetIs P K E (w.drewN m) b n acc := h
theorem SetIs.kept {w w' : World} {b n : Nat} {acc : List Int} {row : Option Nat} (h : SetIs P K E w b n acc) (hg : w.grownBy w' row) (hne : some b ≠ row) : SetIs P K E w' b n acc := by
  obtain ⟨D, h1, h2⟩ := h
  exact ⟨D, h1.kept hg hne, h2⟩
theorem SetIs.below {w w' : World} {b n : Nat} {acc : List Int} (h : SetIs P K E w b n acc) (hb : Below w.heap.size w w') : SetIs P K E w' b n acc := h.kept (grown_of_below hb none) (by simp)
theorem SetIs.lt {w : World} {b n : Nat} {acc : List Int} (h : SetIs P K E w b n acc) : b < w.heap.size := by
  obtain ⟨D, h1, h2⟩ := h
  exact h1.lt
theorem SetIs.mono {w : World} {b n n' : Nat} {acc : List Int} (h : SetIs P K E w b n acc) (hn : n ≤ n') : SetIs P K E w b n' acc := by
  obtain ⟨D, h1, h2⟩ := h
  exact ⟨D, h1.mono hn, h2⟩
theorem SetIs.ne {w : World} {b n : Nat} {acc : List Int} (h : SetIs P K E w b n acc) {g : Nat} {cs : Array Value} {t : TypeId} {fr : Nat × Nat} (hg : w.heap[g]? = some (.cells cs t fr)) : some g ≠ some b := by
  obtain ⟨D, ⟨es, clock, hb, _⟩, _⟩ := h
  rintro e
  injection e with e
  subst e
  rw [hb] at hg
  cases hg
theorem wf_of {x : Int} (h : -9223372036854775808 ≤ x ∧ x ≤ 9223372036854775807) : (Lit.int .i64 x).wf = true := by
  simp [Lit.wf, IntKind.min, IntKind.max, IntKind.signed, IntKind.bits]
  omega
theorem bool_inv {e : TypeId} (he : P.underlying e = some .bool) {v : Value} {z : DataW Unit × List MemPlace} (h : plainElem P e v = some z) : ∃ c, v = .bool c ∧ z = (.lit (.bool c), []) := by
  unfold plainElem at h
  rw [he] at h
  split at h
  · cases h; exact ⟨_, rfl, rfl⟩
  · rename_i h1; cases h1
  · rename_i h1; cases h1
  · cases h
variable {ops : Array Oper} {rest : List Oper} {o : Oper} {a : Act} {Q : Exit → Act → World → Prop}
theorem make {W : World} (hg : o.guard = none) {N : Tmp} (hd : o.dst = some N) (hop : o.op = Op.makeMap T none)
    (h : ∀ b, b = W.heap.size → ∀ w1, SetIs P K E w1 b 0 [] → Below W.heap.size W w1 → wpList P ops Q rest (a.put o.dst (.map (some b))) w1) : wpList P ops Q (o :: rest) a W := by
  refine wpList_plain hg fun K' hK' => ?_
  have hrun := @run_makeMap P T W
  unfold Oper.wp
  simp [execOp, hop, hrun, Result.andThen]
  exact hK' _ _ (h _ rfl _ (SetIs.made W) (below_alloc (Below.refl _ _) _))
theorem look {w : World} {b n : Nat} {acc : List Int} (hS : SetIs P K E w b n acc) (hg : o.guard = none) (m x : Operand) (hop : o.op = Op.lookup T m x false)
    (hk : P.underlying K = some (.int .i64)) (ht : P.underlying T = some (.map K E)) (he : P.underlying E = some .bool) (hz : (zeroValue E).run P w = .ok (.bool false) w)
    (hm : a.eval m = .map (some b)) (y : Int) (hx : a.eval x = .int .i64 y) (hy : (Lit.int .i64 y).wf = true)
    (h : wpList P ops Q rest (a.put o.dst (.bool (acc.contains y))) w) : wpList P ops Q (o :: rest) a w := by
  obtain ⟨D, h1, h2⟩ := hS
  refine wpList_plain hg fun K' hK' => ?_
  obtain ⟨v, ps, hrun, hv⟩ := h1.lookup (int_keyed hk) ht hz (plainElem_bool he false) (keyOf_int_mk hk hy)
  obtain ⟨c, rfl, hc⟩ := bool_inv he hv
  have hc2 := (Prod.mk.inj hc).1
  rw [h2 y] at hc2
  injection hc2 with hc3
  injection hc3 with hc4
  unfold Oper.wp
  simp [execOp, hop, hm, hx, hrun, Result.andThen]
  rw [hc4] at h
  exact hK' _ _ h
theorem put {w : World} {b n : Nat} {acc : List Int} (hS : SetIs P K E w b n acc) (hg : o.guard = none) (m x v : Operand) (hop : o.op = Op.mapUpdate T m x v)
    (hk : P.underlying K = some (.int .i64)) (ht : P.underlying T = some (.map K E)) (he : P.underlying E = some .bool) (hn : n < maxLen)
    (hm : a.eval m = .map (some b)) (y : Int) (hx : a.eval x = .int .i64 y) (hv : a.eval v = .bool true) (hy : (Lit.int .i64 y).wf = true)
    (h : ∀ w', SetIs P K E w' b (n + 1) (y :: acc) → w.grownBy w' (some b) → wpList P ops Q rest (a.put o.dst undef) w') : wpList P ops Q (o :: rest) a w := by
  obtain ⟨D, h1, h2⟩ := hS
  have hD := h1.isMap
  refine wpList_mapUpdate_own w hg m x v T hop K E (int_keyed hk) ht (plainElem P E) b n D hm h1 hn _ _ (.int .i64 y) hx hv (keyOf_int_mk hk hy) (.lit (.bool true)) [] (plainElem_bool he true) fun w' h3 h4 => h w' ⟨_, h3, fun z => ?_⟩ h4
  by_cases e : z = y
  · subst e
    rw [atKey_put_same hD (by trivial)]
    simp
  · rw [atKey_put_other (fun h => e (by injection h))]
    rw [h2 z]
    simp [e]
/-- Block b is a map of at most n entries: at which place of l each number stands. -/
def TurnIs (P : Program) (K E : TypeId) (w : World) (b n : Nat) (l : List Int) : Prop :=
  ∃ D : DataW Unit, w.ownsMap P K (plainElem P E) b n D ∧ (∀ x : Int, D.atKey (.int .i64 x) (.lit (.int .i64 0)) = .lit (.int .i64 (if l.contains x = true then (l.findIdx (· == x) : Int) else 0))) ∧ ∀ x : Int, Maps.has D (.int .i64 x) = l.contains x
theorem TurnIs.made (w : World) : TurnIs P K E (w.alloc (.map #[] 0)) w.heap.size 0 [] := ⟨_, World.ownsMap_made _ _ _ _, fun x => rfl, fun x => rfl⟩
theorem TurnIs.kept {w w' : World} {b n : Nat} {acc : List Int} {row : Option Nat} (h : TurnIs P K E w b n acc) (hg : w.grownBy w' row) (hne : some b ≠ row) : TurnIs P K E w' b n acc := by
  obtain ⟨D, h1, h2⟩ := h
  exact ⟨D, h1.kept hg hne, h2⟩
theorem TurnIs.setCell {w : World} {b n : Nat} {acc : List Int} (h : TurnIs P K E w b n acc) {p : Addr} (hp : some p.block ≠ some b) (u : Value) : TurnIs P K E (w.setCell p u) b n acc := by
  obtain ⟨D, h1, h2⟩ := h
  exact ⟨D, h1.setCell (fun e => hp (by rw [e])) u, h2⟩
theorem TurnIs.below {w w' : World} {b n : Nat} {acc : List Int} (h : TurnIs P K E w b n acc) (hb : Below w.heap.size w w') : TurnIs P K E w' b n acc := h.kept (grown_of_below hb none) (by simp)
theorem TurnIs.ne {w : World} {b n : Nat} {acc : List Int} (h : TurnIs P K E w b n acc) {g : Nat} {cs : Array Value} {t : TypeId} {fr : Nat × Nat} (hg : w.heap[g]? = some (.cells cs t fr)) : some g ≠ some b := by
  obtain ⟨D, ⟨es, clock, hb, _⟩, _⟩ := h
  rintro e
  injection e with e
  subst e
  rw [hb] at hg
  cases hg
theorem makeT {W : World} (hg : o.guard = none) {N : Tmp} (hd : o.dst = some N) (hop : o.op = Op.makeMap T none)
    (h : ∀ b, b = W.heap.size → ∀ w1, TurnIs P K E w1 b 0 [] → Below W.heap.size W w1 → wpList P ops Q rest (a.put o.dst (.map (some b))) w1) : wpList P ops Q (o :: rest) a W := by
  refine wpList_plain hg fun K' hK' => ?_
  have hrun := @run_makeMap P T W
  unfold Oper.wp
  simp [execOp, hop, hrun, Result.andThen]
  exact hK' _ _ (h _ rfl _ (TurnIs.made W) (below_alloc (Below.refl _ _) _))
theorem lookT {w : World} {b n : Nat} {l : List Int} (hS : TurnIs P K E w b n l) (hg : o.guard = none) (m x : Operand) (hop : o.op = Op.lookup T m x true)
    (hk : P.underlying K = some (.int .i64)) (ht : P.underlying T = some (.map K E)) (he : P.underlying E = some (.int .i64)) (hz : (zeroValue E).run P w = .ok (.int .i64 0) w)
    (hm : a.eval m = .map (some b)) (y : Int) (hx : a.eval x = .int .i64 y) (hy : (Lit.int .i64 y).wf = true)
    (h : wpList P ops Q rest (a.put o.dst (.tuple #[.int .i64 (if l.contains y = true then (l.findIdx (· == y) : Int) else 0), .bool (l.contains y)])) w) : wpList P ops Q (o :: rest) a w := by
  obtain ⟨D, h1, h2, h3⟩ := hS
  refine wpList_lookup_own_ok_int w hg m x T hop K E .i64 (int_keyed hk) ht he hz b n D hm h1 _ (.int .i64 y) hx (keyOf_int_mk hk hy) fun c hc _ => ?_
  rw [h2 y] at hc
  injection hc with hc
  injection hc with _ hc
  rw [← hc, h3 y]
  exact h
theorem putT {w : World} {b n : Nat} {l : List Int} (hS : TurnIs P K E w b n l) (hg : o.guard = none) (m x v : Operand) (hop : o.op = Op.mapUpdate T m x v)
    (hk : P.underlying K = some (.int .i64)) (ht : P.underlying T = some (.map K E)) (he : P.underlying E = some (.int .i64)) (hn : n < maxLen)
    (hm : a.eval m = .map (some b)) (y : Int) (hx : a.eval x = .int .i64 y) (hv : a.eval v = .int .i64 (l.length : Int)) (hy : (Lit.int .i64 y).wf = true) (hl : l.length ≤ 9223372036854775807) (hnew : l.contains y = false)
    (h : ∀ w', TurnIs P K E w' b (n + 1) (l ++ [y]) → w.grownBy w' (some b) → wpList P ops Q rest (a.put o.dst undef) w') : wpList P ops Q (o :: rest) a w := by
  obtain ⟨D, h1, h2, h3⟩ := hS
  have hD := h1.isMap
  have hni : ∀ z ∈ l, ¬ (z == y) = true := fun z hz e => by
    rw [beq_iff_eq] at e; subst e
    rw [List.contains_eq_mem, decide_eq_false_iff_not] at hnew
    exact hnew hz
  refine wpList_mapUpdate_own w hg m x v T hop K E (int_keyed hk) ht (plainElem P E) b n D hm h1 hn _ _ (.int .i64 y) hx hv (keyOf_int_mk hk hy) (.lit (.int .i64 (l.length : Int))) [] (plainElem_int he (wf_of (by omega))) fun w' h4 h5 => h w' ⟨_, h4, fun z => ?_, fun z => ?_⟩ h5
  · by_cases e : z = y
    · subst e
      have e1 : l.findIdx (· == z) = l.length := List.findIdx_eq_length_of_false (by simpa using hni)
      have e2 : (l ++ [z]).findIdx (· == z) = l.length := by simp [List.findIdx_append, e1]
      rw [atKey_put_same hD (by trivial), if_pos (by simp), e2]
    · rw [atKey_put_other (fun h => e (by injection h)), h2 z]
      have e1 : (l ++ [y]).contains z = l.contains z := by simp [e]
      rw [e1]
      by_cases c : l.contains z = true
      · rw [if_pos c, if_pos c, List.findIdx_append, if_pos]
        have : z ∈ l := by simpa using c
        exact List.findIdx_lt_length_of_exists ⟨z, this, by simp⟩
      · rw [if_neg c, if_neg c]
  · by_cases e : z = y
    · subst e
      rw [has_put_same hD (by trivial)]
      simp
    · rw [has_put_other (fun h => e (by injection h)), h3 z]
      simp [e]
end
end Go.Proofs.Ythbmpegaogfibad.Mp
