/- The pure statement of FnExactDraftSurvey, proved: for every input that the opening lets in, the printed law comes to true. -/
import Derived.Test.YtjebipmpcabfbaaPu0
import Derived.Test.YtjebipmpcabfbaaPAx4
import Derived.Test.YtjebipmpcabfbaaQBase
import Derived.Test.YtjebipmpcabfbaaStFnExactDraftSurvey
namespace Go.Proofs.Ytjebipmpcabfbaa.Pure
open Go.RowKit Go.Proofs.Ytjebipmpcabfbaa Go.Proofs.Ytjebipmpcabfbaa.PA Go.Proofs.Ytjebipmpcabfbaa.Pu Go.Proofs.YtjebipmpcabfbaaW.PrintWords Go.Proofs.YtjebipmpcabfbaaW.PrintLast Go.Proofs.YtjebipmpcabfbaaW.PrintMore
set_option linter.unusedVariables false
set_option linter.unusedSimpArgs false
theorem Pure_DraftSurvey (a b c d : Int) : laws_FnExactDraftSurvey.f a b c d = some true := by
  have h : impl_all.f [a, b, c] 0 20000 = some (inB a 0 20000 && inB b 0 20000 && inB c 0 20000) := by
    simp [impl_all.f, inB, List.any_cons, Bool.and_assoc]
  simp only [laws_FnExactDraftSurvey.f, spec_DraftSurvey.f, impl_DraftSurvey.f, h, l1In_eq, in_eq, Option.bind_some]
  cases inB a 0 20000 <;> cases inB b 0 20000 <;> cases inB c 0 20000 <;> cases inB d 1 1000 <;> simp

theorem FnExactDraftSurvey : laws_FnExactDraftSurvey.Pure := fun _ _ _ _ _ _ _ _ => Pure_DraftSurvey _ _ _ _

end Go.Proofs.Ytjebipmpcabfbaa.Pure
