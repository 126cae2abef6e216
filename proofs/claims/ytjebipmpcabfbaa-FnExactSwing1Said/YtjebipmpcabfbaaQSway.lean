/- Plain lemmas on the printed functions (Sway). -/
import Derived.Test.YtjebipmpcabfbaaPu0
import Derived.Test.YtjebipmpcabfbaaPAx1
import Derived.Test.YtjebipmpcabfbaaQBase
namespace Go.Proofs.Ytjebipmpcabfbaa.Pu
open Go.RowKit Go.Proofs.Ytjebipmpcabfbaa Go.Proofs.Ytjebipmpcabfbaa.PA Go.Proofs.Ytjebipmpcabfbaa.Pu Go.Proofs.YtjebipmpcabfbaaW.PrintWords Go.Proofs.YtjebipmpcabfbaaW.PrintLast Go.Proofs.YtjebipmpcabfbaaW.PrintMore
set_option linter.unusedVariables false
set_option linter.unusedSimpArgs false
theorem SwayOk1 (a b c : Int) : spec_SwayOk.f a b c = some (inB a (-1000000) 1000000 && inB b (-1000000) 1000000 && inB c (-1000000) 1000000) := by
  simp only [spec_SwayOk.f, spec_l20Number.f, l1In_eq, Option.bind_some]
  cases inB a (-1000000) 1000000 <;> cases inB b (-1000000) 1000000 <;> simp
theorem SwayOk2 (a b c : Int) : impl_SwayOk.f a b c = some (inB a (-1000000) 1000000 && inB b (-1000000) 1000000 && inB c (-1000000) 1000000) := by
  simp only [impl_SwayOk.f, in_eq, Option.bind_some]
  cases inB a (-1000000) 1000000 <;> cases inB b (-1000000) 1000000 <;> simp

end Go.Proofs.Ytjebipmpcabfbaa.Pu
