/- Plain lemmas on the printed functions (L3). -/
import Derived.Test.YthbmpegaogfibaePu0
import Derived.Test.YthbmpegaogfibaePAx1
import Derived.Test.YthbmpegaogfibaePAx3
import Derived.Test.YthbmpegaogfibaeQBase
namespace Go.Proofs.Ythbmpegaogfibae.Pu
open Go.RowKit Go.Proofs.Ythbmpegaogfibae Go.Proofs.Ythbmpegaogfibae.PA Go.Proofs.Ythbmpegaogfibae.Pu Go.Proofs.YthbmpegaogfibaeW.PrintWords Go.Proofs.YthbmpegaogfibaeW.PrintLast Go.Proofs.YthbmpegaogfibaeW.PrintMore
set_option linter.unusedVariables false
set_option linter.unusedSimpArgs false
theorem l3All_ev (l : List Int) (a b : Int) (hl : l.length ≤ 35184372088832) : Ev (fun k => spec_l3All.f k l a b) (l.all fun x => inB x a b) := by
  have key : ∀ i, i ≤ l.length → Ev (fun k => spec_l3All.l0 k l a b (i : Int)) ((l.drop i).all fun x => inB x a b) := by
    refine down ?_ ?_
    · refine Ev.step (fun _ => rfl) ?_
      simp only [spec_l3All.l0]
      exact ev_f (by omega) (by simpa using Ev.now true)
    · intro i hi ih
      refine Ev.step (fun _ => rfl) ?_
      simp only [spec_l3All.l0, l1In_eq, Option.bind_some]
      refine ev_t (by omega) (ev_t (by omega) ?_)
      rw [wr (by omega), List.drop_eq_getElem_cons hi, List.all_cons, show rd l (i : Int) = l[i] by simp [rd, hi]]
      cases inB l[i] a b with
      | true => simpa using ih
      | false => simpa using Ev.now false
  simpa [spec_l3All.f] using key 0 (Nat.zero_le _)
theorem all_eq (l : List Int) (a b : Int) : impl_all.f l a b = some (l.all fun x => inB x a b) := by
  simp only [impl_all.f, inB]
  congr 1
  induction l with
  | nil => rfl
  | cons x l ih => simp only [List.any_cons, List.all_cons, Bool.not_or, ih, Bool.not_not]

end Go.Proofs.Ythbmpegaogfibae.Pu
