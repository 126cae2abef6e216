/- The pure statement of FnExactCharterOk, proved: for every input that the opening lets in, the printed law comes to true. -/
import Derived.Test.YtjebipmpcabfbaaPu0
import Derived.Test.YtjebipmpcabfbaaPAx1
import Derived.Test.YtjebipmpcabfbaaPAx2
import Derived.Test.YtjebipmpcabfbaaQCharter
import Derived.Test.YtjebipmpcabfbaaStFnExactCharterOk
namespace Go.Proofs.Ytjebipmpcabfbaa.Pure
open Go.RowKit Go.Proofs.Ytjebipmpcabfbaa Go.Proofs.Ytjebipmpcabfbaa.PA Go.Proofs.Ytjebipmpcabfbaa.Pu Go.Proofs.YtjebipmpcabfbaaW.PrintWords Go.Proofs.YtjebipmpcabfbaaW.PrintLast Go.Proofs.YtjebipmpcabfbaaW.PrintMore
set_option linter.unusedVariables false
set_option linter.unusedSimpArgs false
theorem Pure_CharterOk (a b c d : Int) : laws_FnExactCharterOk.f a b c d = some true := by
  simp [laws_FnExactCharterOk.f, laws_toCharter.f, CharterOk1, CharterOk2]

theorem FnExactCharterOk : laws_FnExactCharterOk.Pure := fun _ _ => Pure_CharterOk _ _ _ _

end Go.Proofs.Ytjebipmpcabfbaa.Pure
