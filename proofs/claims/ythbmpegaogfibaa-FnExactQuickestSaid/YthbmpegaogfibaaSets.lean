/- Maps from int to bool whose entries are known to be few: words over the library's laws on maps. Own text of this session. -/
import Derived.Test.YthbmpegaogfibaaMaps
import Derived.Maps.RangeWalk
namespace Go.Proofs.Ythbmpegaogfibaa.Mp
open Go Go.RowKit Go.Maps Go.MapKept Go.Proofs.YthbmpegaogfibaaW.PrintWords
set_option linter.unusedVariables false
theorem tight {H : Type} {w : World} {P : Program} {k : TypeId} {R : Value → Option (DataW H × List MemPlace)} {b n : Nat} {D : DataW H} (h : w.ownsMap P k R b n D) : w.ownsMap P k R b (Maps.size D) D := by
  obtain ⟨es, clock, hb, F, hs, rfl⟩ := h
  refine ⟨es, clock, hb, F, ?_, rfl⟩
  simp [Maps.size, Go.length_sorted]
/-- Distinct numbers of [0, n) are at most n. -/
theorem few (n : Nat) : ∀ l : List Int, l.Nodup → (∀ x ∈ l, 0 ≤ x ∧ x < n) → l.length ≤ n := by
  induction n with
  | zero =>
    intro l _ h
    cases l with
    | nil => simp
    | cons a t => have := h a (by simp); omega
  | succ n ih =>
    intro l hn h
    have h1 : (l.erase (n : Int)).length ≤ n := by
      refine ih _ (hn.erase _) fun x hx => ?_
      have h2 := h x (List.mem_of_mem_erase hx)
      have h3 : x ≠ (n : Int) := by
        rintro rfl
        exact (List.Nodup.not_mem_erase hn) hx
      omega
    have h4 : l.length ≤ (l.erase (n : Int)).length + 1 := by
      rw [List.length_erase]
      split <;> omega
    omega
theorem small {H : Type} {D : DataW H} (ht : Tidy D) (N : Nat) (hk : ∀ es, D = .map es → ∀ p ∈ es, ∃ x : Int, p.1 = .int .i64 x ∧ 0 ≤ x ∧ x < N) : Maps.size D ≤ N := by
  obtain ⟨es, rfl, hp⟩ := ht
  have hx := hk es rfl
  have h := few N (es.map fun p => match p.1 with | .int _ x => x | _ => 0) ?_ ?_
  · simpa [Maps.size] using h
  · rw [List.Nodup, List.pairwise_map]
    refine List.Pairwise.imp_of_mem ?_ hp
    intro p q h1 h2 hne e
    obtain ⟨x, hx1, _⟩ := hx p h1
    obtain ⟨y, hy1, _⟩ := hx q h2
    rw [hx1, hy1] at e
    simp only at e
    exact hne (by rw [hx1, hy1, e])
  · intro z hz
    obtain ⟨p, hp1, rfl⟩ := List.mem_map.1 hz
    obtain ⟨x, h1, h2⟩ := hx p hp1
    simp only [h1]
    exact h2
section
variable {P : Program} {K E T : TypeId}
/-- Block b is a map of at most n entries, each of them true; its keys are the numbers of acc. -/
def OnIs (P : Program) (K E : TypeId) (w : World) (b n : Nat) (acc : List Int) : Prop :=
  ∃ es : List (Lit × DataW Unit), w.ownsMap P K (plainElem P E) b n (.map es) ∧ (∀ x : Int, (DataW.map es).atKey (.int .i64 x) (.lit (.bool false)) = .lit (.bool (acc.contains x))) ∧ ∀ p ∈ es, ∃ x : Int, p.1 = .int .i64 x ∧ acc.contains x = true ∧ p.2 = .lit (.bool true)
theorem OnIs.set {w : World} {b n : Nat} {acc : List Int} (h : OnIs P K E w b n acc) : SetIs P K E w b n acc := let ⟨_, h1, h2, _⟩ := h; ⟨_, h1, h2⟩
theorem OnIs.made (w : World) : OnIs P K E (w.alloc (.map #[] 0)) w.heap.size 0 [] := ⟨[], World.ownsMap_made _ _ _ _, fun x => rfl, fun p hp => by simp at hp⟩
theorem OnIs.kept {w w' : World} {b n : Nat} {acc : List Int} {row : Option Nat} (h : OnIs P K E w b n acc) (hg : w.grownBy w' row) (hne : some b ≠ row) : OnIs P K E w' b n acc := by
  obtain ⟨D, h1, h2⟩ := h
  exact ⟨D, h1.kept hg hne, h2⟩
theorem OnIs.below {w w' : World} {b n : Nat} {acc : List Int} (h : OnIs P K E w b n acc) (hb : Below w.heap.size w w') : OnIs P K E w' b n acc := h.kept (grown_of_below hb none) (by simp)
theorem OnIs.ne {w : World} {b n : Nat} {acc : List Int} (h : OnIs P K E w b n acc) {g : Nat} {cs : Array Value} {t : TypeId} {fr : Nat × Nat} (hg : w.heap[g]? = some (.cells cs t fr)) : some g ≠ some b := h.set.ne hg
theorem OnIs.tight {w : World} {b n N : Nat} {acc : List Int} (hk : P.underlying K = some (.int .i64)) (h : OnIs P K E w b n acc) (hN : ∀ x : Int, acc.contains x = true → 0 ≤ x ∧ x < N) : OnIs P K E w b N acc := by
  obtain ⟨es, h1, h2, h3⟩ := h
  refine ⟨es, (Mp.tight h1).mono (small (h1.tidy (int_keyed hk)) N ?_), h2, h3⟩
  intro es' he p hp
  injection he with he
  subst he
  obtain ⟨x, hx, hc, _⟩ := h3 p hp
  exact ⟨x, hx, hN x hc⟩
theorem OnIs.same {w : World} {b n : Nat} {acc acc' : List Int} (h : OnIs P K E w b n acc) (he : ∀ x, acc'.contains x = acc.contains x) : OnIs P K E w b n acc' := by
  obtain ⟨es, h1, h2, h3⟩ := h
  refine ⟨es, h1, fun x => by rw [he x]; exact h2 x, fun p hp => ?_⟩
  obtain ⟨x, hx, hc, hv⟩ := h3 p hp
  exact ⟨x, hx, by rw [he x]; exact hc, hv⟩
variable {ops : Array Oper} {rest : List Oper} {o : Oper} {a : Act} {Q : Exit → Act → World → Prop}
theorem makeO {W : World} (hg : o.guard = none) {N : Tmp} (hd : o.dst = some N) (hop : o.op = Op.makeMap T none)
    (h : ∀ b, b = W.heap.size → ∀ w1, OnIs P K E w1 b 0 [] → Below W.heap.size W w1 → wpList P ops Q rest (a.put o.dst (.map (some b))) w1) : wpList P ops Q (o :: rest) a W := by
  refine wpList_plain hg fun K' hK' => ?_
  have hrun := @run_makeMap P T W
  unfold Oper.wp
  simp [execOp, hop, hrun, Result.andThen]
  exact hK' _ _ (h _ rfl _ (OnIs.made W) (below_alloc (Below.refl _ _) _))
theorem putO {w : World} {b n : Nat} {acc : List Int} (hS : OnIs P K E w b n acc) (hg : o.guard = none) (m x v : Operand) (hop : o.op = Op.mapUpdate T m x v)
    (hk : P.underlying K = some (.int .i64)) (ht : P.underlying T = some (.map K E)) (he : P.underlying E = some .bool) (hn : n < maxLen)
    (hm : a.eval m = .map (some b)) (y : Int) (hx : a.eval x = .int .i64 y) (hv : a.eval v = .bool true) (hy : (Lit.int .i64 y).wf = true)
    (h : ∀ w', OnIs P K E w' b (n + 1) (y :: acc) → w.grownBy w' (some b) → wpList P ops Q rest (a.put o.dst undef) w') : wpList P ops Q (o :: rest) a w := by
  obtain ⟨es, h1, h2, h5⟩ := hS
  have hD := h1.isMap
  refine wpList_mapUpdate_own w hg m x v T hop K E (int_keyed hk) ht (plainElem P E) b n (.map es) hm h1 hn _ _ (.int .i64 y) hx hv (keyOf_int_mk hk hy) (.lit (.bool true)) [] (plainElem_bool he true) fun w' h3 h4 => h w' ⟨ChangeMaps.putKey (.int .i64 y) (.lit (.bool true)) es, h3, fun z => ?_, fun p hp => ?_⟩ h4
  · rw [← DataW.put_eq]
    by_cases e : z = y
    · subst e
      rw [atKey_put_same hD (by trivial)]
      simp
    · rw [atKey_put_other (fun h => e (by injection h))]
      rw [h2 z]
      simp [e]
  · rw [ChangeMaps.putKey, ChangeMaps.mem_insert_iff] at hp
    rcases hp with rfl | hp
    · exact ⟨y, rfl, by simp, rfl⟩
    · obtain ⟨z, hz, hc, hv2⟩ := h5 p (List.mem_filter.1 hp).1
      exact ⟨z, hz, by simp at hc ⊢; exact .inr hc, hv2⟩
theorem has_of {es : List (Lit × DataW Unit)} {acc : List Int} (h2 : ∀ x : Int, (DataW.map es).atKey (.int .i64 x) (.lit (.bool false)) = .lit (.bool (acc.contains x))) (h3 : ∀ p ∈ es, ∃ x : Int, p.1 = .int .i64 x ∧ acc.contains x = true ∧ p.2 = .lit (.bool true)) (x : Int) : Maps.has (DataW.map es) (.int .i64 x) = acc.contains x := by
  cases hh : Maps.has (DataW.map es) (.int .i64 x)
  · have h := atKey_of_not_has hh (.lit (.bool false))
    rw [h2 x] at h
    injection h with h
    injection h with h
    exact h.symm
  · rw [has_eq, List.any_eq_true] at hh
    obtain ⟨p, hp, hs⟩ := hh
    obtain ⟨z, hz, hc, _⟩ := h3 p hp
    rw [hz] at hs
    simp [Lit.sameKey] at hs
    subst hs
    exact hc.symm
/-- A range over the map b goes on at r: the numbers of S have come, cnt are still to come. -/
def Going (P : Program) (K E : TypeId) (w : World) (b r n : Nat) (acc S : List Int) (cnt : Nat) : Prop :=
  ∃ (es : List (Lit × DataW Unit)) (left : Lit → Bool), w.ranges P K (plainElem P E) b r n (.map es) left cnt ∧ (∀ x : Int, (DataW.map es).atKey (.int .i64 x) (.lit (.bool false)) = .lit (.bool (acc.contains x))) ∧ (∀ p ∈ es, ∃ x : Int, p.1 = .int .i64 x ∧ acc.contains x = true ∧ p.2 = .lit (.bool true)) ∧ ∀ x : Int, left (.int .i64 x) = (acc.contains x && !S.contains x)
theorem rangeO {w : World} {b n : Nat} {acc : List Int} (hS : OnIs P K E w b n acc) (hg : o.guard = none) (m : Operand) (hop : o.op = Op.range T m)
    (hk : P.underlying K = some (.int .i64)) (ht : P.underlying T = some (.map K E)) (hm : a.eval m = .map (some b))
    (h : ∀ w' cnt, Going P K E w' b w.heap.size n acc [] cnt → w.grownBy w' none → w'.heap.size = w.heap.size + 1 → wpList P ops Q rest (a.put o.dst (.pointer (some ⟨w.heap.size, 0, none⟩))) w') : wpList P ops Q (o :: rest) a w := by
  obtain ⟨es, h1, h2, h3⟩ := hS
  refine wpList_range_own w hg m T hop K E (int_keyed hk) ht (plainElem P E) b n (.map es) hm h1 fun w' hr hgr hsz => h w' _ ⟨es, _, hr, h2, h3, fun x => ?_⟩ hgr hsz
  rw [has_of h2 h3 x]
  simp
theorem nextO {w : World} {b r n : Nat} {acc S : List Int} {cnt : Nat} (hG : Going P K E w b r n acc S cnt) (hg : o.guard = none) (it : Operand) (hop : o.op = Op.next it false)
    (hk : P.underlying K = some (.int .i64)) (he : P.underlying E = some .bool) (hit : a.eval it = .pointer (some ⟨r, 0, none⟩))
    (hDone : (∀ x, acc.contains x = true → S.contains x = true) → wpList P ops Q rest (a.put o.dst (.tuple #[.bool false])) w)
    (hMore : ∀ (x : Int) (c : Bool) (w' : World) (cnt' : Nat), (Lit.int .i64 x).wf = true → acc.contains x = true → S.contains x = false → Going P K E w' b r n acc (x :: S) cnt' → cnt' < cnt → w.grownBy w' (some r) → w'.heap.size = w.heap.size →
      (Instr.entry (.pointer (some ⟨r, 0, none⟩))).run P w' = .ok (.tuple #[.int .i64 x, .bool c]) w' → wpList P ops Q rest (a.put o.dst (.tuple #[.bool true, .int .i64 x, .bool c])) w') : wpList P ops Q (o :: rest) a w := by
  obtain ⟨es, left, h1, h2, h3, h4⟩ := hG
  refine wpList_next_ranges w hg it hop K (int_keyed hk) (plainElem P E) (Value.int .i64) Value.bool (fun key kl hkey => by obtain ⟨x, rfl, _⟩ := Maps.keyOf_int_inv hk hkey; exact ⟨x, rfl⟩) (fun v y hv => by obtain ⟨c, rfl, _⟩ := bool_inv he hv; exact ⟨c, rfl⟩)
    b r n (.map es) left cnt hit h1 (fun _ hl => hDone fun x hx => ?_) (fun x c kl y w' cnt' hkey hlk hv hat hrg hlt hgr hsz hen => ?_)
  · have h := h4 x
    rw [hl, hx] at h
    simpa using h.symm
  · obtain ⟨x', ex, rfl, hwx⟩ := Maps.keyOf_int_inv hk hkey
    cases ex
    have h := h4 x
    rw [hlk] at h
    have h' := h.symm
    rw [Bool.and_eq_true, Bool.not_eq_true'] at h'
    refine hMore x c w' cnt' hwx h'.1 h'.2 ⟨es, _, hrg, h2, h3, fun z => ?_⟩ hlt hgr hsz hen
    show (left (.int .i64 z) && !(Lit.int .i64 z).sameKey (.int .i64 x)) = _
    rw [h4 z]
    by_cases e : z = x <;> simp [Lit.sameKey, e]
theorem Going.kept {w w' : World} {b r n : Nat} {acc S : List Int} {cnt : Nat} {row : Option Nat} (h : Going P K E w b r n acc S cnt) (hg : w.grownBy w' row) (hb : some b ≠ row) (hr : some r ≠ row) : Going P K E w' b r n acc S cnt := by
  obtain ⟨es, left, h1, h2⟩ := h
  exact ⟨es, left, h1.kept hg hb hr, h2⟩
theorem Going.below {w w' : World} {b r n : Nat} {acc S : List Int} {cnt : Nat} (h : Going P K E w b r n acc S cnt) (hb : Below w.heap.size w w') : Going P K E w' b r n acc S cnt := h.kept (grown_of_below hb none) (by simp) (by simp)
theorem Going.drewN {w : World} {b r n : Nat} {acc S : List Int} {cnt : Nat} (h : Going P K E w b r n acc S cnt) (m : Nat) : Going P K E (w.drewN m) b r n acc S cnt := h
theorem OnIs.lt {w : World} {b n : Nat} {acc : List Int} (h : OnIs P K E w b n acc) : b < w.heap.size := let ⟨_, h1, _⟩ := h; h1.lt
theorem OnIs.drewN {w : World} {b n : Nat} {acc : List Int} (h : OnIs P K E w b n acc) (m : Nat) : OnIs P K E (w.drewN m) b n acc := h
theorem OnIs.mono {w : World} {b n n' : Nat} {acc : List Int} (h : OnIs P K E w b n acc) (hn : n ≤ n') : OnIs P K E w b n' acc := let ⟨es, h1, h2⟩ := h; ⟨es, h1.mono hn, h2⟩
/-- How many rounds a range takes at most. -/
theorem Going.few {w : World} {b r n : Nat} {acc S : List Int} {cnt : Nat} (h : Going P K E w b r n acc S cnt) : cnt ≤ n := by
  obtain ⟨es, left, ⟨e0, clock, since, seen, c0, hb, F, hs, hD, hr, h5, hc, _⟩, _⟩ := h
  refine Nat.le_trans ?_ hs
  rw [← hc]
  simpa [leftOf] using Array.size_filter_le
end
end Go.Proofs.Ythbmpegaogfibaa.Mp
