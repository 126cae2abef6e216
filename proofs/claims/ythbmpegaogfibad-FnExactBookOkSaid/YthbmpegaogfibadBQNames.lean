/- Plain lemmas on the printed functions (Names). -/
import Derived.Test.YthbmpegaogfibadPu0
import Derived.Test.YthbmpegaogfibadPBx0
import Derived.Test.YthbmpegaogfibadPBx2
import Derived.Test.YthbmpegaogfibadPBx3
import Derived.Test.YthbmpegaogfibadPBx7
import Derived.Test.YthbmpegaogfibadPBx8
import Derived.Test.YthbmpegaogfibadBQBase
namespace Go.Proofs.Ythbmpegaogfibad.Pu
open Go.RowKit Go.Proofs.Ythbmpegaogfibad Go.Proofs.Ythbmpegaogfibad.PB Go.Proofs.Ythbmpegaogfibad.Pu Go.Proofs.YthbmpegaogfibadW.PrintWords Go.Proofs.YthbmpegaogfibadW.PrintLast Go.Proofs.YthbmpegaogfibadW.PrintMore
set_option linter.unusedVariables false
set_option linter.unusedSimpArgs false
theorem ev_ite {α : Type} {c : Prop} [Decidable c] {f g : Nat → Option α} {r : α} (ht : c → Ev f r) (hf : ¬ c → Ev g r) : Ev (fun k => if c then f k else g k) r := by
  by_cases h : c
  · exact ev_t h (ht h)
  · exact ev_f h (hf h)
def chB (c : Int) : Bool := inB c 97 122 || (inB c 65 90 || (inB c 48 57 || c == 45))
theorem chB_t {c : Int} : chB c = true ↔ (97 ≤ c ∧ c ≤ 122) ∨ (65 ≤ c ∧ c ≤ 90) ∨ (48 ≤ c ∧ c ≤ 57) ∨ c = 45 := by
  simp only [chB, Bool.or_eq_true, inB_t, beq_iff_eq]
def nameB (s : ByteArray) : Bool := allFrom (fun i => chB (bt s (i : Int))) 0 s.size && inB (s.size : Int) 1 20
theorem name1 (s : ByteArray) (hs : s.size ≤ 1048576) : Ev (fun k => spec_l1Name.f k s) (nameB s) := by
  simp only [spec_l1Name.f]
  refine ev_all (g := fun k i => spec_l1Name.l0 k s i) (fun i => chB (bt s (i : Int))) _ ?_ ?_
  · refine Ev.step (fun _ => rfl) ?_
    simp only [spec_l1Name.l0, l1In_eq, Option.bind_some]
    exact ev_f (by omega) (Ev.now _)
  · intro i hi r ih
    have hb := bt_range s (i : Int)
    refine Ev.step (fun _ => rfl) ?_
    simp only [spec_l1Name.l0, l1In_eq, Option.bind_some]
    rw [wr (x := bt s (i : Int)) (by omega), wr (x := (i : Int) + 1) (by omega)]
    have ih' : Ev (fun k => spec_l1Name.l0 k s ((i : Int) + 1)) r := ih
    refine ev_t (by omega) (ev_t (by omega) ?_)
    generalize bt s (i : Int) = c
    unfold chB
    cases inB c 97 122 with
    | true => exact ev_t (by first | rfl | trivial) (by simpa using ih')
    | false =>
    refine ev_f (by simp) ?_
    cases inB c 65 90 with
    | true => exact ev_t (by first | rfl | trivial) (by simpa using ih')
    | false =>
    refine ev_f (by simp) ?_
    cases inB c 48 57 with
    | true => exact ev_t (by first | rfl | trivial) (by simpa using ih')
    | false =>
    refine ev_f (by simp) ?_
    by_cases h : c = 45
    · exact ev_t h (by simpa [h] using ih')
    · refine ev_f h ?_
      rw [show (c == 45) = false from beq_eq_false_iff_ne.2 h]
      simpa using Ev.now false
theorem name2 (s : ByteArray) (hs : s.size ≤ 1048576) : Ev (fun k => impl_nameOk.f k s) (nameB s) := by
  simp only [impl_nameOk.f]
  have jt : Ev (fun k => impl_nameOk.j0 k s true) false := Ev.step (fun _ => rfl) (by simp only [impl_nameOk.j0]; exact ev_t (by first | rfl | trivial) (Ev.now _))
  by_cases h1 : (s.size : Int) < 1
  · refine ev_t h1 ?_
    have : inB (s.size : Int) 1 20 = false := inB_f.2 (by omega)
    simpa [nameB, this] using jt
  refine ev_f h1 ?_
  by_cases h2 : (s.size : Int) > 20
  · rw [decide_eq_true h2]
    have : inB (s.size : Int) 1 20 = false := inB_f.2 (by omega)
    simpa [nameB, this] using jt
  rw [decide_eq_false h2]
  have : inB (s.size : Int) 1 20 = true := inB_t.2 (by omega)
  unfold nameB
  rw [this]
  refine Ev.step (fun _ => rfl) ?_
  simp only [impl_nameOk.j0]
  refine ev_f (by simp) ?_
  refine ev_all (g := fun k i => impl_nameOk.l0 k s (s.size : Int) i) (fun i => chB (bt s (i : Int))) _ ?_ ?_
  · refine Ev.step (fun _ => rfl) ?_
    simp only [impl_nameOk.l0]
    exact ev_f (by omega) (Ev.now _)
  · intro i hi r ih
    have hb := bt_range s (i : Int)
    refine Ev.step (fun _ => rfl) ?_
    simp only [impl_nameOk.l0]
    rw [wr (x := (i : Int) + 1) (by omega)]
    have ih' : Ev (fun k => impl_nameOk.l0 k s (s.size : Int) ((i : Int) + 1)) r := ih
    refine ev_t (by omega) (ev_t (by omega) (ev_t (by omega) ?_))
    generalize bt s (i : Int) = c at hb ⊢
    cases hc : chB c with
    | true =>
      rw [Bool.true_and]
      have hc := chB_t.1 hc
      repeat' (first | exact ih' | (refine ev_ite (fun _ => ?_) (fun _ => ?_)) | (exfalso; omega))
    | false =>
      rw [Bool.false_and]
      have hc : ¬ ((97 ≤ c ∧ c ≤ 122) ∨ (65 ≤ c ∧ c ≤ 90) ∨ (48 ≤ c ∧ c ≤ 57) ∨ c = 45) := fun h => by rw [chB_t.2 h] at hc; cases hc
      repeat' (first | exact Ev.now false | (refine ev_ite (fun _ => ?_) (fun _ => ?_)) | (exfalso; omega))
def eoB (s : ByteArray) : Bool := decide (s.toList = ([] : List UInt8)) || nameB s
theorem eo2 (s : ByteArray) (hs : s.size ≤ 1048576) : Ev (fun k => impl_emptyOrName.f k s) (eoB s) := by
  simp only [impl_emptyOrName.f]
  unfold eoB
  by_cases h : s.toList = ([] : List UInt8)
  · rw [decide_eq_true h]; exact ev_t h (Ev.now _)
  · rw [decide_eq_false h, Bool.false_or]; exact ev_f h (Ev.bind (name2 s hs) (Ev.now _))
theorem find1 (l : List S38) (fr : List Int) (id : Int) (hl : l.length ≤ 1048576) : ∃ v, Ev (fun k => spec_l14Find.f k l fr id) v ∧ decide (v < 0) = !(l.any fun x => x.f0 == id) := by
  have key : ∀ i : Nat, i ≤ l.length → ∃ v, Ev (fun k => spec_l14Find.l0 k id (i : Int) l fr) v ∧ decide (v < 0) = !((l.drop i).any fun x => x.f0 == id) := by
    refine down ?_ ?_
    · refine ⟨-1, Ev.step (fun _ => rfl) ?_, by simp⟩
      simp only [spec_l14Find.l0]
      exact ev_f (by omega) (Ev.now _)
    · intro i hi ih
      obtain ⟨v, v1, v2⟩ := ih
      rw [List.drop_eq_getElem_cons hi, List.any_cons]
      have hx : rd_T38 l (i : Int) = l[i] := by simp [rd_T38, hi]
      by_cases c : l[i].f0 = id
      · refine ⟨(i : Int), Ev.step (fun _ => rfl) ?_, by simp [c]⟩
        simp only [spec_l14Find.l0]
        rw [hx]
        exact ev_t (by omega) (ev_t (by omega) (ev_t c (Ev.now _)))
      · refine ⟨v, Ev.step (fun _ => rfl) ?_, by rw [show (l[i].f0 == id) = false from beq_eq_false_iff_ne.2 c, Bool.false_or]; exact v2⟩
        simp only [spec_l14Find.l0]
        rw [hx, wr (x := (i : Int) + 1) (by omega)]
        exact ev_t (by omega) (ev_t (by omega) (ev_f c v1))
  obtain ⟨v, v1, v2⟩ := key 0 (Nat.zero_le _)
  exact ⟨v, by simp only [spec_l14Find.f]; exact v1, by simpa using v2⟩

end Go.Proofs.Ythbmpegaogfibad.Pu
