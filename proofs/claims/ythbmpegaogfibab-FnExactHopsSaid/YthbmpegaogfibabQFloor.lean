/- Plain lemmas on the printed functions (Floor). -/
import Derived.Test.YthbmpegaogfibabPu0
import Derived.Test.YthbmpegaogfibabPAx1
import Derived.Test.YthbmpegaogfibabPAx4
import Derived.Test.YthbmpegaogfibabPAx5
import Derived.Test.YthbmpegaogfibabPAx7
import Derived.Test.YthbmpegaogfibabQBase
import Derived.Test.YthbmpegaogfibabQConvIntS
import Derived.Test.YthbmpegaogfibabQL3
namespace Go.Proofs.Ythbmpegaogfibab.Pu
open Go.RowKit Go.Proofs.Ythbmpegaogfibab Go.Proofs.Ythbmpegaogfibab.PA Go.Proofs.Ythbmpegaogfibab.Pu Go.Proofs.YthbmpegaogfibabW.PrintWords Go.Proofs.YthbmpegaogfibabW.PrintLast Go.Proofs.YthbmpegaogfibabW.PrintMore
set_option linter.unusedVariables false
set_option linter.unusedSimpArgs false
theorem floor1 (a b : Int) (l : List Int) (hl : l.length ≤ 35184372088832) : Ev (fun k => spec_FloorOk.f k a b l) (inB a 1 10 && (inB b 1 10 && (decide ((l.length : Int) = wrap64 (a * b)) && l.all fun x => inB x 0 15))) := by
  simp only [spec_FloorOk.f, l1In_eq, Option.bind_some]
  cases inB a 1 10 with
  | false => exact Ev.now false
  | true =>
  cases inB b 1 10 with
  | false => exact Ev.now false
  | true =>
  by_cases h : (l.length : Int) = wrap64 (a * b)
  · refine ev_t rfl (ev_t rfl (ev_t h ?_))
    rw [decide_eq_true h]
    exact Ev.bind (l3All_ev l 0 15 hl) (Ev.now _)
  · refine ev_t rfl (ev_t rfl (ev_f h ?_))
    rw [decide_eq_false h]
    exact Ev.now _
theorem floor2 (a b : Int) (l : List Int) : impl_FloorOk.f a b l = some (inB a 1 10 && (inB b 1 10 && (decide ((l.length : Int) = wrap64 (a * b)) && l.all fun x => inB x 0 15))) := by
  simp only [impl_FloorOk.f, in_eq, all_eq, Option.bind_some]
  by_cases h : (l.length : Int) = wrap64 (a * b) <;> cases inB a 1 10 <;> cases inB b 1 10 <;> simp [h]
theorem toFloor_ev (a b : Int) (l : List Int) (hl : l.length ≤ 35184372088832) : Ev (fun k => laws_toFloor.f k a b l) (a, b, l) := by
  simp only [laws_toFloor.f]
  exact Ev.bind (toIntS_id l hl) (Ev.now _)
theorem eqFloor_ev (a b : Int) (l : List Int) (hl : l.length ≤ 35184372088832) : Ev (fun k => laws_eqFloor.f k a b l a b l) true := by
  simp only [laws_eqFloor.f]
  exact ev_t (by first | rfl | trivial) (ev_t (by first | rfl | trivial) (Ev.bind (eqIntS_ev l hl) (ev_t rfl (Ev.now _))))

end Go.Proofs.Ythbmpegaogfibab.Pu
