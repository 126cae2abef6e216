/- A row of ints (or bools) that a call makes and writes in place, told by its block: words for walks by hand. Own text of this session. -/
import Derived.Test.YthbmpegaogfibaeWMore
import Derived.Laws.OwnMore
namespace Go.Proofs.Ythbmpegaogfibae.Rw
open Go Go.RowKit Go.Proofs.YthbmpegaogfibaeW.PrintWords
set_option linter.unusedVariables false
/-- Block g holds the values of xs, and nothing else. -/
def Row {α : Type} (enc : α → Value) (W : World) (e g : Nat) (xs : List α) : Prop := W.heap[g]? = some (.cells (xs.map enc).toArray e (0, 0))
abbrev I : Int → Value := Value.int .i64
abbrev B : Bool → Value := Value.bool
section
variable {α : Type} {enc : α → Value} {W W1 : World} {e g : Nat} {xs : List α}
theorem Row.below (h : Row enc W e g xs) (hb : Below W.heap.size W W1) : Row enc W1 e g xs := blk_below h hb
theorem Row.drewN (h : Row enc W e g xs) (m : Nat) : Row enc (W.drewN m) e g xs := h
theorem Row.alloc (h : Row enc W e g xs) (o : Obj) : Row enc (W.alloc o) e g xs := blk_alloc h o
theorem Row.far (h : Row enc W e g xs) {p : Addr} (hp : g ≠ p.block) (u : Value) : Row enc (W.setCell p u) e g xs := blk_far h hp u
theorem Row.set (h : Row enc W e g xs) (i : Nat) (x : α) : Row enc (W.setCell ⟨g, i, none⟩ (enc x)) e g (xs.set i x) := blk_put h i _ (by simp)
theorem Row.cell (h : Row enc W e g xs) {i : Nat} (hi : i < xs.length) : W.cell? ⟨g, i, none⟩ = some (enc xs[i]) := by
  rw [blk_cell h i]
  simp [hi]
theorem Row.frozen (h : Row enc W e g xs) (i : Nat) : W.frozen? ⟨g, i, none⟩ = false := blk_frozen h i
theorem Row.lt (h : Row enc W e g xs) : g < W.heap.size := blk_lt h
theorem Row.ne {e' g' : Nat} {cs : Array Value} (h : Row enc W e g xs) (h' : W.heap[g']? = some (.cells cs e' (0, 0))) (hne : e ≠ e') : g ≠ g' := blk_ne h h' hne
theorem Row.rd {xs : List Int} (h : Row I W e g xs) (j : Int) (h0 : 0 ≤ j) (h1 : j < (xs.length : Int)) : W.cell? ⟨g, j.toNat, none⟩ = some (.int .i64 (rd xs j)) := by
  have hi : j.toNat < xs.length := by omega
  rw [h.cell hi]
  simp [Go.Proofs.YthbmpegaogfibaeW.PrintWords.rd, List.getD, hi]
theorem Row.rdB {xs : List Bool} (h : Row B W e g xs) (j : Int) (h0 : 0 ≤ j) (h1 : j < (xs.length : Int)) : W.cell? ⟨g, j.toNat, none⟩ = some (.bool (xs.getD j.toNat false)) := by
  have hi : j.toNat < xs.length := by omega
  rw [h.cell hi]
  simp [List.getD, hi]
/-- As a row of one's own. -/
theorem Row.R {xs : List Int} (h : Row I W e g xs) {base : Nat} {ok : Nat → Prop} (hb : base ≤ g) (hm : xs.length ≤ maxLen) (hok : ok g) : (Kd.int .i64).R e W base ok (.slice (some ⟨g, 0, none⟩) xs.length xs.length) xs :=
  Kd.R_of_own (enc := I) ⟨by simp [encs], .inr ⟨g, xs.length, (xs.map I).toArray, rfl, hb, h, Nat.le_refl _, hm, by simp, (by simp [encs]; exact List.take_of_length_le (by simp))⟩⟩ (fun k hk => by cases hk; exact hok)
theorem Row.C {xs : List Int} (h : Row I W e g xs) (hm : xs.length ≤ maxLen) : (Kd.int .i64).C W (some ⟨g, 0, none⟩) xs.length xs := (Kd.R_reads' (h.R (base := 0) (ok := fun _ => True) (Nat.zero_le _) hm trivial)).2.2
theorem len_le {β : Type} {d : Kd β} {base : Nat} {ok : Nat → Prop} {v : Value} {ys : List β} (h : d.R e W base ok v ys) : ys.length ≤ 9223372036854775807 := by
  obtain ⟨inner, ho⟩ := Kd.R_own h
  rcases ho.2 with ⟨_, h0⟩ | ⟨g, cap, cur, _, _, _, h1, h2, _⟩
  · omega
  · unfold maxLen at h2; omega
variable {P : Program} {ops : Array Oper} {rest : List Oper} {o : Oper} {a : Act} {Q : Exit → Act → World → Prop}
theorem make (enc : α → Value) (z : α) (hgd : o.guard = none) {N : Tmp} (hd : o.dst = some N) {t : TypeId} {x y : Operand} (ho : o.op = .makeSlice t x y) (m : Nat) (hx : a.eval x = .int .i64 (m : Int)) (hy : a.eval y = .int .i64 (m : Int))
    (ht : P.underlying t = some (.slice e)) (bytes : Nat) (hinfo : (P.info? e).map (fun i => (i.zero, i.size, i.bytes)) = some (some (enc z), 1, bytes)) (hz : (enc z).cells = #[enc z]) (hm : m * bytes ≤ 281474976710656) (hm2 : m ≤ 281474976710656)
    (h : ∀ g, g = W.heap.size → ∀ w1, Row enc w1 e g (List.replicate m z) → Below W.heap.size W w1 → wpList P ops Q rest (a.put o.dst (.slice (some ⟨g, 0, none⟩) m m)) w1) : wpList P ops Q (o :: rest) a W := by
  obtain ⟨i0, hi, hzz⟩ := Option.map_eq_some_iff.1 hinfo
  simp only [Prod.mk.injEq] at hzz
  obtain ⟨hz0, hz1, hz2⟩ := hzz
  have hr := run_make (P := P) W t e i0 (enc z) ht hi hz0 .i64 .i64 (m : Int) (m : Int) (by omega) (by omega)
    (by
      have h3 : ((i0.bytes * m : Nat) : Int) ≤ 281474976710656 := by rw [hz2, Nat.mul_comm]; omega
      rwa [Int.natCast_mul] at h3) (by omega)
  simp only [Int.toNat_natCast] at hr
  rw [hz1, hz, Nat.mul_one] at hr
  refine Kd.event_run hgd (v := .slice (some ⟨W.heap.size, 0, none⟩) m m) (w1 := W.alloc (.cells (madeCells #[enc z] m) e)) ?_ (h _ rfl _ ?_ (below_alloc (Below.refl _ _) _))
  · simp [execOp, ho, hx, hy, hr]
  · have e1 : madeCells #[enc z] m = ((List.replicate m z).map enc).toArray := by
      rw [← Array.toList_inj, toList_madeCells_one]; simp
    rw [e1]
    exact blk_new W _
end
end Go.Proofs.Ythbmpegaogfibae.Rw
