/- Plain lemmas on the printed functions (Bills). -/
import Derived.Test.YthbmpegaogfibadPu0
import Derived.Test.YthbmpegaogfibadPBx0
import Derived.Test.YthbmpegaogfibadPBx2
import Derived.Test.YthbmpegaogfibadPBx3
import Derived.Test.YthbmpegaogfibadPBx9
import Derived.Test.YthbmpegaogfibadBQBase
import Derived.Test.YthbmpegaogfibadBQNames
namespace Go.Proofs.Ythbmpegaogfibad.Pu
open Go.RowKit Go.Proofs.Ythbmpegaogfibad Go.Proofs.Ythbmpegaogfibad.PB Go.Proofs.Ythbmpegaogfibad.Pu Go.Proofs.YthbmpegaogfibadW.PrintWords Go.Proofs.YthbmpegaogfibadW.PrintLast Go.Proofs.YthbmpegaogfibadW.PrintMore
set_option linter.unusedVariables false
set_option linter.unusedSimpArgs false
/-- A bill whose strings are not too long. -/
def fitB (x : S38) : Prop := x.f1.size ≤ 1048576 ∧ x.f2.size ≤ 1048576 ∧ x.f4.length ≤ 1048576 ∧ ∀ s ∈ x.f4, s.size ≤ 1048576
theorem held1 (l : List S38) (fr : List Int) (i : Nat) (hi : (i : Int) ≤ 1048576) (x : S38) (hx : fitB x) (r : Bool) (hr : Ev (fun k => spec_BookOk.l0 k ((i : Int) + 1) l fr) r) : Ev (fun k => spec_BookOk.l1 k (i : Int) 0 l fr x.f0 x.f1 x.f2 x.f3 x.f4) (x.f4.all eoB && r) := by
  have key : ∀ j : Nat, j ≤ x.f4.length → Ev (fun k => spec_BookOk.l1 k (i : Int) (j : Int) l fr x.f0 x.f1 x.f2 x.f3 x.f4) ((x.f4.drop j).all eoB && r) := by
    refine down ?_ ?_
    · rw [List.drop_length, List.all_nil, Bool.true_and]
      refine Ev.step (fun _ => rfl) ?_
      simp only [spec_BookOk.l1]
      rw [wr (x := (i : Int) + 1) (by omega)]
      exact ev_f (by omega) hr
    · intro j hj ih
      have hs := hx.2.2.2 x.f4[j] (List.getElem_mem _)
      have hlen := hx.2.2.1
      have hrd : rdOf ByteArray.empty x.f4 (j : Int) = x.f4[j] := by simp [rdOf, List.getD, hj]
      rw [List.drop_eq_getElem_cons hj, List.all_cons, Bool.and_assoc]
      have ih' : Ev (fun k => spec_BookOk.l1 k (i : Int) ((j : Int) + 1) l fr x.f0 x.f1 x.f2 x.f3 x.f4) ((x.f4.drop (j + 1)).all eoB && r) := ih
      generalize ((x.f4.drop (j + 1)).all eoB && r) = q at ih' ⊢
      refine Ev.step (fun _ => rfl) ?_
      simp only [spec_BookOk.l1]
      rw [hrd, wr (x := (j : Int) + 1) (by omega)]
      generalize x.f4[j] = s at hs
      refine ev_t (by omega) (ev_t (by omega) ?_)
      unfold eoB
      by_cases h : s.toList = ([] : List UInt8)
      · rw [decide_eq_true h]; exact ev_t h (by simpa using ih')
      · rw [decide_eq_false h, Bool.false_or]
        refine ev_f h (Ev.bind (name1 s hs) ?_)
        cases nameB s with
        | true => exact ev_t (by first | rfl | trivial) (by simpa using ih')
        | false => exact ev_f (by simp) (by simpa using Ev.now false)
  exact key 0 (Nat.zero_le _)
theorem any_not (l : List ByteArray) (p : ByteArray → Bool) : (!(l.any fun s => !p s)) = l.all p := by
  induction l with
  | nil => rfl
  | cons a t ih => rw [List.any_cons, List.all_cons, Bool.not_or, ih, Bool.not_not]
theorem bill1 (l : List S38) (fr : List Int) (i : Nat) (hi : i < l.length) (hl : l.length ≤ 1048576) (hf : ∀ x ∈ l, fitB x) (r : Bool) (hr : Ev (fun k => spec_BookOk.l0 k ((i : Int) + 1) l fr) r) : Ev (fun k => spec_BookOk.l0 k (i : Int) l fr) (!impl_BookOk.bad nameB eoB (i : Int) (rd_T38 l ((i : Int) - 1)).f0 (rd_T38 l (i : Int)) && r) := by
  have hmem : rd_T38 l (i : Int) ∈ l := by
    have : l[i] = rd_T38 l (i : Int) := by simp [rd_T38, hi]
    rw [← this]; exact List.getElem_mem _
  have hx := hf _ hmem
  have hh := held1 l fr i (by omega) _ hx r hr
  have hn1 := name1 _ hx.1
  have hn2 := name1 _ hx.2.1
  generalize hxe : rd_T38 l (i : Int) = x at hx hh hn1 hn2
  have j1 : ∀ b, Ev (fun k => spec_BookOk.j1 k (i : Int) b l fr x.f0 x.f1 x.f2 x.f3 x.f4) (!b && (x.f4.all eoB && r)) := fun b => by
    refine Ev.step (fun _ => rfl) ?_
    simp only [spec_BookOk.j1]
    cases b with
    | true => exact ev_t (by first | rfl | trivial) (Ev.now _)
    | false => exact ev_f (by simp) (by simpa using hh)
  have jt : Ev (fun k => spec_BookOk.j1 k (i : Int) true l fr x.f0 x.f1 x.f2 x.f3 x.f4) false := j1 true
  unfold impl_BookOk.bad impl_BookOk.hdr
  simp only [Bool.not_or, Bool.not_not, any_not, Bool.and_assoc]
  generalize hq : x.f4.all eoB = q at j1
  have tail : Ev (fun k => (spec_l1Name.f k x.f1).bind fun t120 => (if t120 = true then (if x.f2.toList = ([] : List UInt8) then ((spec_l1In.f x.f3 1 5).bind fun t121 => (if t121 = true then (spec_BookOk.j1 k (i : Int) ((x.f4.length : Int) != x.f3) l fr x.f0 x.f1 x.f2 x.f3 x.f4) else (spec_BookOk.j1 k (i : Int) true l fr x.f0 x.f1 x.f2 x.f3 x.f4))) else ((spec_l1Name.f k x.f2).bind fun t122 => (if t122 = true then ((spec_l1In.f x.f3 1 5).bind fun t123 => (if t123 = true then (spec_BookOk.j1 k (i : Int) ((x.f4.length : Int) != x.f3) l fr x.f0 x.f1 x.f2 x.f3 x.f4) else (spec_BookOk.j1 k (i : Int) true l fr x.f0 x.f1 x.f2 x.f3 x.f4))) else (spec_BookOk.j1 k (i : Int) true l fr x.f0 x.f1 x.f2 x.f3 x.f4)))) else (spec_BookOk.j1 k (i : Int) true l fr x.f0 x.f1 x.f2 x.f3 x.f4))) (nameB x.f1 && (eoB x.f2 && (inB x.f3 1 5 && (!((x.f4.length : Int) != x.f3) && (q && r))))) := by
    refine Ev.bind hn1 ?_
    cases nameB x.f1 with
    | false => exact ev_f (by simp) jt
    | true =>
    rw [Bool.true_and]
    refine ev_t (by first | rfl | trivial) ?_
    have fin : Ev (fun k => if inB x.f3 1 5 = true then (spec_BookOk.j1 k (i : Int) ((x.f4.length : Int) != x.f3) l fr x.f0 x.f1 x.f2 x.f3 x.f4) else (spec_BookOk.j1 k (i : Int) true l fr x.f0 x.f1 x.f2 x.f3 x.f4)) (inB x.f3 1 5 && (!((x.f4.length : Int) != x.f3) && (q && r))) := by
      cases inB x.f3 1 5 with
      | false => exact ev_f (by simp) jt
      | true => exact ev_t (by first | rfl | trivial) (by simpa using j1 ((x.f4.length : Int) != x.f3))
    simp only [l1In_eq, Option.bind_some]
    unfold eoB
    by_cases h : x.f2.toList = ([] : List UInt8)
    · rw [decide_eq_true h, Bool.true_or, Bool.true_and]
      exact ev_t h fin
    · rw [decide_eq_false h, Bool.false_or]
      refine ev_f h (Ev.bind hn2 ?_)
      cases nameB x.f2 with
      | false => exact ev_f (by simp) jt
      | true => exact ev_t (by first | rfl | trivial) (by simpa using fin)
  have hin : ∀ a b c, impl_BookOk.inb a b c = inB a b c := fun _ _ _ => rfl
  rw [hin, hin]
  generalize (nameB x.f1 && (eoB x.f2 && (inB x.f3 1 5 && (!((x.f4.length : Int) != x.f3) && (q && r))))) = z at tail ⊢
  refine Ev.step (fun _ => rfl) ?_
  simp only [spec_BookOk.l0]
  rw [hxe]
  simp only [l1In_eq, Option.bind_some] at tail ⊢
  refine ev_t (by omega) (ev_t (by omega) ?_)
  cases inB x.f0 1 1000000 with
  | false => exact ev_f (by simp) (by simpa using jt)
  | true =>
  rw [Bool.true_and]
  refine ev_t (by first | rfl | trivial) ?_
  by_cases h2 : 0 < (i : Int)
  · refine ev_t h2 ?_
    rw [wr (x := (i : Int) - 1) (by omega), decide_eq_true h2, Bool.true_and]
    refine ev_t (by omega) (ev_t (by omega) ?_)
    by_cases h3 : (rd_T38 l ((i : Int) - 1)).f0 ≥ x.f0
    · rw [decide_eq_true h3]
      exact ev_t h3 (by simpa using jt)
    · rw [decide_eq_false h3, Bool.not_false, Bool.true_and]
      exact ev_f h3 tail
  · rw [decide_eq_false h2, Bool.false_and, Bool.not_false, Bool.true_and]
    exact ev_f h2 tail

end Go.Proofs.Ythbmpegaogfibad.Pu
