/- Plain lemmas on the printed functions (Charter). -/
import Derived.Test.YtlmohamgfindmabPu0
import Derived.Test.YtlmohamgfindmabPAx11
import Derived.Test.YtlmohamgfindmabPAx14
import Derived.Test.YtlmohamgfindmabQBase
namespace Go.Proofs.Ytlmohamgfindmab.Pu
open Go.RowKit Go.Proofs.Ytlmohamgfindmab Go.Proofs.Ytlmohamgfindmab.PA Go.Proofs.Ytlmohamgfindmab.Pu Go.Proofs.YtlmohamgfindmabW.PrintWords Go.Proofs.YtlmohamgfindmabW.PrintLast Go.Proofs.YtlmohamgfindmabW.PrintMore
set_option linter.unusedVariables false
set_option linter.unusedSimpArgs false
theorem CharterOk1 (a b c d : Int) : spec_CharterOk.f a b c d = some (inB a 0 100000 && inB b 0 100000 && inB c 0 1000000000 && inB d 0 1000000000) := by
  simp only [spec_CharterOk.f, l1In_eq, Option.bind_some]
  cases inB a 0 100000 <;> cases inB b 0 100000 <;> cases inB c 0 1000000000 <;> simp
theorem CharterOk2 (a b c d : Int) : impl_CharterOk.f a b c d = some (inB a 0 100000 && inB b 0 100000 && inB c 0 1000000000 && inB d 0 1000000000) := by
  simp only [impl_CharterOk.f, in_eq, Option.bind_some]
  cases inB a 0 100000 <;> cases inB b 0 100000 <;> cases inB c 0 1000000000 <;> simp

end Go.Proofs.Ytlmohamgfindmab.Pu
