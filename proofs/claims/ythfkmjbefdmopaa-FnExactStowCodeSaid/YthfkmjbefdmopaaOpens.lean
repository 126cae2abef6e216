/- Opening of arguments, for any kind of the print's words: what reads as data is of its kind, with its bounds (lengths, sizes, numbers in range). Own text of this session, over the print's words. -/
import Derived.Test.YthfkmjbefdmopaaWWords
import Derived.Deep.Slices
import Derived.WideShapes
import Derived.ChangeArms
namespace Go.Proofs.Ythfkmjbefdmopaa.Op
open Go.RowKit Go.Deep Go.Proofs.YthfkmjbefdmopaaW.PrintWords

/-- What reads as data at type t is of the kind d, and G holds of it. -/
def Opens {α : Type} (P : Program) (t : TypeId) (d : Kd α) (G : α → Prop) : Prop :=
  ∀ (H : Type) (enc : TypeId × Value → H) (w : World) (base : Nat) (spare : Nat → Bool) (held : Bool) (fuel : Nat) (cs : List Value) (x : DataW H × List MemPlace),
    DataW.trod enc P w base spare held fuel t cs = some x → ∃ a : α, d.K w a cs ∧ G a

/-- The same of several types in line. -/
def OpensL {α : Type} (P : Program) (ts : List TypeId) (d : Kd α) (G : α → Prop) : Prop :=
  ∀ (H : Type) (enc : TypeId × Value → H) (w : World) (base : Nat) (spare : Nat → Bool) (held : Bool) (fuel : Nat) (cs : List Value),
    cs.length = (ts.map P.cellsOf).sum →
    (∀ (i : Nat) (t : TypeId), ts[i]? = some t → ∃ x, DataW.trod enc P w base spare held fuel t ((cs.drop ((ts.take i).map P.cellsOf).sum).take (P.cellsOf t)) = some x) →
    ∃ a : α, d.K w a cs ∧ G a

variable {P : Program} {t e : TypeId} {α β : Type}

theorem opens_int {k : IntKind} (ht : P.underlying t = some (.int k)) : Opens P t (Kd.int k) (fun n => (Lit.int k n).wf = true) := by
  intro H enc w base spare held fuel cs x h
  obtain ⟨n, rfl, _, hw⟩ := DataW.trod_int ht h
  exact ⟨n, rfl, hw⟩
theorem opens_bool (ht : P.underlying t = some .bool) : Opens P t Kd.bool (fun _ => True) := by
  intro H enc w base spare held fuel cs x h
  obtain ⟨n, rfl, _⟩ := DataW.trod_bool ht h
  exact ⟨n, rfl, trivial⟩
theorem opens_string (ht : P.underlying t = some .string) : Opens P t Kd.string (fun s => s.size ≤ maxLen) := by
  intro H enc w base spare held fuel cs x h
  obtain ⟨s, rfl, _, hs⟩ := DataW.trod_string ht h
  exact ⟨s, rfl, hs⟩
theorem opens_slice {d : Kd α} {G : α → Prop} (ht : P.underlying t = some (.slice e)) (hc : P.cellsOf e = d.sz) (h : Opens P e d G) : Opens P t (Kd.slice e d) (fun l => l.length ≤ maxLen ∧ ∀ x ∈ l, G x) := by
  intro H enc w base spare held fuel cs x hx
  rcases open_slice ht hx with ⟨rfl, _⟩ | ⟨a, len, cap, m, n, D, Pl, rfl, hb, hl, hm, hmm, rfl, hi⟩
  · exact ⟨[], ⟨none, 0, rfl, Nat.le_refl _, ⟨rfl, by simp, fun h => absurd h (by simp)⟩⟩, by simp, by simp⟩
  · have hlm : len ≤ m := by rw [hmm]; split <;> omega
    have hml : len ≤ maxLen := Nat.le_trans hl hm
    have hq : ∀ i : Fin len, ∃ y : α, ∃ c, w.cells? base (a.add (i.1 * P.cellsOf e)) (P.cellsOf e) = some c ∧ d.K w y c ∧ G y := fun i => by
      obtain ⟨c, h1, h2⟩ := hi i.1 (by omega)
      obtain ⟨y, h3, h4⟩ := h H enc w base spare held n c _ h2
      exact ⟨y, c, h1, h3, h4⟩
    refine ⟨List.ofFn fun i => Classical.choose (hq i), ⟨some a, cap, by simp, by simpa using hl, ⟨rfl, ?_, fun _ => ⟨a, rfl, fun j p hp => ?_⟩⟩⟩, by simpa using hml, fun y hy => ?_⟩
    · simp only [List.length_ofFn]; unfold maxLen at hml; omega
    · have hj : j < len := by
        have := (List.getElem?_eq_some_iff.1 hp).1
        simpa using this
      have hp2 : p = Classical.choose (hq ⟨j, hj⟩) := by
        obtain ⟨_, hp⟩ := List.getElem?_eq_some_iff.1 hp
        rw [List.getElem_ofFn] at hp
        exact hp.symm
      obtain ⟨c, h1, h2, _⟩ := Classical.choose_spec (hq ⟨j, hj⟩)
      rw [← hp2] at h2
      obtain ⟨_, hlen, hcell⟩ := World.cells?_some h1
      refine ⟨c, d.K_len h2, h2, fun i u hu => ?_⟩
      have hi2 : i < P.cellsOf e := by rw [← hlen]; exact (List.getElem?_eq_some_iff.1 hu).1
      have := hcell i hi2
      rw [Go.Deep.add_add, hc] at this
      rw [this, hu]
    · obtain ⟨i, rfl⟩ := List.mem_ofFn.1 hy
      obtain ⟨_, _, _, h4⟩ := Classical.choose_spec (hq i)
      exact h4
theorem opens_one {d : Kd α} {G : α → Prop} (h : Opens P t d G) : OpensL P [t] d G := by
  intro H enc w base spare held fuel cs hl hx
  obtain ⟨x, h0⟩ := hx 0 t rfl
  have : cs.take (P.cellsOf t) = cs := List.take_of_length_le (by rw [hl]; simp)
  simp only [List.take_zero, List.map_nil, List.sum_nil, List.drop_zero, this] at h0
  exact h H enc w base spare held fuel cs x h0
theorem opens_cons {a : Kd α} {b : Kd β} {G : α → Prop} {G2 : β → Prop} {ts : List TypeId} (h : Opens P t a G) (h2 : OpensL P ts b G2) : OpensL P (t :: ts) (Kd.pair a b) (fun x => G x.1 ∧ G2 x.2) := by
  intro H enc w base spare held fuel cs hl hx
  obtain ⟨x, h0⟩ := hx 0 t rfl
  simp only [List.take_zero, List.map_nil, List.sum_nil, List.drop_zero] at h0
  obtain ⟨u, hu, gu⟩ := h H enc w base spare held fuel _ x h0
  simp only [List.map_cons, List.sum_cons] at hl
  obtain ⟨v, hv, gv⟩ := h2 H enc w base spare held fuel (cs.drop (P.cellsOf t)) (by rw [List.length_drop, hl]; omega) (fun i t' hi => by
    obtain ⟨y, hy⟩ := hx (i + 1) t' (by simpa using hi)
    refine ⟨y, ?_⟩
    simp only [List.take_succ_cons, List.map_cons, List.sum_cons] at hy
    rw [List.drop_drop]
    exact hy)
  exact ⟨(u, v), ⟨_, _, (List.take_append_drop _ _).symm, hu, hv⟩, gu, gv⟩
/-- The fields lie in line. -/
def inLine (P : Program) (fs : Array Field) : Bool :=
  (List.range fs.size).all fun i => match fs[i]? with
    | some f => f.offset == (((fs.toList.map (·.type)).take i).map P.cellsOf).sum
    | none => true
theorem opens_struct {d : Kd α} {G : α → Prop} {fs : Array Field} (ht : P.underlying t = some (.struct fs)) (hin : inLine P fs = true) (hs : P.cellsOf t = ((fs.toList.map (·.type)).map P.cellsOf).sum)
    {ts : List TypeId} (hts : fs.toList.map (·.type) = ts) (h : OpensL P ts d G) (f : β → α) (g : α → β) (hfg : ∀ a, f (g a) = a) : Opens P t (Kd.iso d f) (fun b => G (f b)) := by
  intro H enc w base spare held fuel cs x hx
  obtain ⟨xs, n, _, _, hl, hxs, hf⟩ := DataW.trod_struct ht hx
  subst hts
  obtain ⟨a, ha, ga⟩ := h H enc w base spare held n cs (hl.trans hs) (fun i t' hi => by
    rw [List.getElem?_map] at hi
    obtain ⟨fl, hfl, rfl⟩ := Option.map_eq_some_iff.1 hi
    have hfl' : fs[i]? = some fl := by simpa using hfl
    have hlt : i < fs.size := (Array.getElem?_eq_some_iff.1 hfl').1
    have ho : fl.offset = (((fs.toList.map (·.type)).take i).map P.cellsOf).sum := by
      have := List.all_eq_true.1 hin i (List.mem_range.2 hlt)
      rw [hfl'] at this
      simpa using this
    have h1 := hf i fl hfl'
    rw [ho] at h1
    rw [h1]
    exact ⟨_, List.getElem?_eq_getElem (by omega)⟩)
  refine ⟨g a, ?_, ?_⟩
  · show d.K w (f (g a)) cs
    rw [hfg]; exact ha
  · show G (f (g a))
    rw [hfg]; exact ga
end Go.Proofs.Ythfkmjbefdmopaa.Op
