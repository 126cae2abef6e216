/- The pure statement of FnExactSwayOk, proved: for every input that the opening lets in, the printed law comes to true. -/
import Derived.Test.YtjebipmpcabfbaaPu0
import Derived.Test.YtjebipmpcabfbaaPAx1
import Derived.Test.YtjebipmpcabfbaaQSway
import Derived.Test.YtjebipmpcabfbaaStFnExactSwayOk
namespace Go.Proofs.Ytjebipmpcabfbaa.Pure
open Go.RowKit Go.Proofs.Ytjebipmpcabfbaa Go.Proofs.Ytjebipmpcabfbaa.PA Go.Proofs.Ytjebipmpcabfbaa.Pu Go.Proofs.YtjebipmpcabfbaaW.PrintWords Go.Proofs.YtjebipmpcabfbaaW.PrintLast Go.Proofs.YtjebipmpcabfbaaW.PrintMore
set_option linter.unusedVariables false
set_option linter.unusedSimpArgs false
theorem Pure_SwayOk (a b c : Int) : laws_FnExactSwayOk.f a b c = some true := by
  simp [laws_FnExactSwayOk.f, laws_toSway.f, SwayOk1, SwayOk2]

theorem FnExactSwayOk : laws_FnExactSwayOk.Pure := fun _ _ => Pure_SwayOk _ _ _

end Go.Proofs.Ytjebipmpcabfbaa.Pure
