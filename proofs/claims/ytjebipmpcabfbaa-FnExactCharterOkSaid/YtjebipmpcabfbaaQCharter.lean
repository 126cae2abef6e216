/- Plain lemmas on the printed functions (Charter). -/
import Derived.Test.YtjebipmpcabfbaaPu0
import Derived.Test.YtjebipmpcabfbaaPAx1
import Derived.Test.YtjebipmpcabfbaaPAx2
import Derived.Test.YtjebipmpcabfbaaQBase
namespace Go.Proofs.Ytjebipmpcabfbaa.Pu
open Go.RowKit Go.Proofs.Ytjebipmpcabfbaa Go.Proofs.Ytjebipmpcabfbaa.PA Go.Proofs.Ytjebipmpcabfbaa.Pu Go.Proofs.YtjebipmpcabfbaaW.PrintWords Go.Proofs.YtjebipmpcabfbaaW.PrintLast Go.Proofs.YtjebipmpcabfbaaW.PrintMore
set_option linter.unusedVariables false
set_option linter.unusedSimpArgs false
theorem CharterOk1 (a b c d : Int) : spec_CharterOk.f a b c d = some (inB a 0 100000 && inB b 0 100000 && inB c 0 1000000000 && inB d 0 1000000000) := by
  simp only [spec_CharterOk.f, l1In_eq, Option.bind_some]
  cases inB a 0 100000 <;> cases inB b 0 100000 <;> cases inB c 0 1000000000 <;> simp
theorem CharterOk2 (a b c d : Int) : impl_CharterOk.f a b c d = some (inB a 0 100000 && inB b 0 100000 && inB c 0 1000000000 && inB d 0 1000000000) := by
  simp only [impl_CharterOk.f, in_eq, Option.bind_some]
  cases inB a 0 100000 <;> cases inB b 0 100000 <;> cases inB c 0 1000000000 <;> simp

end Go.Proofs.Ytjebipmpcabfbaa.Pu
