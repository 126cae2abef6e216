/- The pure statement of FnExactDuty6, proved: for every input that the opening lets in, the printed law comes to true. -/
import Derived.Test.YtjebipmpcabfbaaPu0
import Derived.Test.YtjebipmpcabfbaaPAx2
import Derived.Test.YtjebipmpcabfbaaQBase
import Derived.Test.YtjebipmpcabfbaaStFnExactDuty6
namespace Go.Proofs.Ytjebipmpcabfbaa.Pure
open Go.RowKit Go.Proofs.Ytjebipmpcabfbaa Go.Proofs.Ytjebipmpcabfbaa.PA Go.Proofs.Ytjebipmpcabfbaa.Pu Go.Proofs.YtjebipmpcabfbaaW.PrintWords Go.Proofs.YtjebipmpcabfbaaW.PrintLast Go.Proofs.YtjebipmpcabfbaaW.PrintMore
set_option linter.unusedVariables false
set_option linter.unusedSimpArgs false
theorem Pure_Duty6 (a b c : Int) : laws_FnExactDuty6.f a b c = some true := by
  simp only [laws_FnExactDuty6.f, spec_Duty6.f, impl_Duty6.f, impl_lotRight.f, l1In_eq, in_eq, Option.bind_some]
  cases inB a 1 1000000 <;> cases inB b 0 1000000 <;> cases inB c 0 5000 <;> simp

theorem FnExactDuty6 : laws_FnExactDuty6.Pure := fun _ _ _ _ _ _ => Pure_Duty6 _ _ _

end Go.Proofs.Ytjebipmpcabfbaa.Pure
