/- The pure statement of FnExactHatchesOk, proved: for every input that the opening lets in, the printed law comes to true. -/
import Derived.Test.YtlmohamgfindmaaPu0
import Derived.Test.YtlmohamgfindmaaPAx0
import Derived.Test.YtlmohamgfindmaaPAx29
import Derived.Test.YtlmohamgfindmaaPAx33
import Derived.Test.YtlmohamgfindmaaQHatches
import Derived.Test.YtlmohamgfindmaaQConvHatchS
import Derived.Test.YtlmohamgfindmaaStFnExactHatchesOk
namespace Go.Proofs.Ytlmohamgfindmaa.Pure
open Go.RowKit Go.Proofs.Ytlmohamgfindmaa Go.Proofs.Ytlmohamgfindmaa.PA Go.Proofs.Ytlmohamgfindmaa.Pu Go.Proofs.YtlmohamgfindmaaW.PrintWords Go.Proofs.YtlmohamgfindmaaW.PrintLast Go.Proofs.YtlmohamgfindmaaW.PrintMore
set_option linter.unusedVariables false
set_option linter.unusedSimpArgs false
theorem P_HatchesOk : ∀ (l : List S137), l.length ≤ maxLen → ∃ k, laws_FnExactHatchesOk.f k l = some true := by
  intro l hl
  refine Ev.rounds ?_
  unfold maxLen at hl
  simp only [laws_FnExactHatchesOk.f, laws_szHatchS.f]
  rw [wr (by omega)]
  by_cases h : (l.length : Int) ≤ 1048576
  · rw [if_neg (by omega)]
    simp only [Option.bind_some, hatches2]
    have h' : (l.map cHatch).length ≤ 1048576 := by simp; omega
    have ht := toHatchS_ev l (by omega)
    exact ev_f (by omega) (Ev.bind ht (Ev.bind (hatches1 _ h') (Ev.bind ht (ev_f (by simp) (Ev.bind ht (Ev.bind (eqHatchS_ev _ (by omega)) (ev_t rfl (Ev.now _))))))))
  · rw [if_pos (by omega)]
    simp only [Option.bind_some]
    exact ev_t (by omega) (Ev.now _)
theorem FnExactHatchesOk : laws_FnExactHatchesOk.Pure := fun l h => P_HatchesOk l h.1

end Go.Proofs.Ytlmohamgfindmaa.Pure
