/- The pure statement of FnExactFloorOk, proved: for every input that the opening lets in, the printed law comes to true. -/
import Derived.Test.YtlmohamgfindmaaPu0
import Derived.Test.YtlmohamgfindmaaPAx1
import Derived.Test.YtlmohamgfindmaaPAx42
import Derived.Test.YtlmohamgfindmaaPAx43
import Derived.Test.YtlmohamgfindmaaQFloor
import Derived.Test.YtlmohamgfindmaaStFnExactFloorOk
namespace Go.Proofs.Ytlmohamgfindmaa.Pure
open Go.RowKit Go.Proofs.Ytlmohamgfindmaa Go.Proofs.Ytlmohamgfindmaa.PA Go.Proofs.Ytlmohamgfindmaa.Pu Go.Proofs.YtlmohamgfindmaaW.PrintWords Go.Proofs.YtlmohamgfindmaaW.PrintLast Go.Proofs.YtlmohamgfindmaaW.PrintMore
set_option linter.unusedVariables false
set_option linter.unusedSimpArgs false
theorem P_FloorOk : ∀ (a b : Int) (l : List Int), l.length ≤ maxLen → ∃ k, laws_FnExactFloorOk.f k a b l = some true := by
  intro a b l hl
  refine Ev.rounds ?_
  unfold maxLen at hl
  simp only [laws_FnExactFloorOk.f, laws_szFloor.f, laws_szIntS.f]
  rw [wr (by omega)]
  by_cases h : (l.length : Int) ≤ 1048576
  · rw [if_neg (by omega)]
    simp only [Option.bind_some]
    rw [if_neg (by omega)]
    simp only [Option.bind_some, floor2]
    have ht := toFloor_ev a b l (by omega)
    exact ev_f (by omega) (Ev.bind ht (Ev.bind (floor1 a b l (by omega)) (Ev.bind ht (ev_f (by simp) (Ev.bind ht (Ev.bind (eqFloor_ev a b l (by omega)) (ev_t rfl (Ev.now _))))))))
  · rw [if_pos (by omega)]
    simp only [Option.bind_some]
    rw [if_pos (by omega)]
    simp only [Option.bind_some]
    exact ev_t (by omega) (Ev.now _)
theorem FnExactFloorOk : laws_FnExactFloorOk.Pure := fun x h => P_FloorOk _ _ _ h.2.2.1

end Go.Proofs.Ytlmohamgfindmaa.Pure
