/- Plain lemmas on the printed functions (Boxes). -/
import Derived.Test.YtlmohamgfindmacPu0
import Derived.Test.YtlmohamgfindmacPBx0
import Derived.Test.YtlmohamgfindmacPBx3
import Derived.Test.YtlmohamgfindmacPBx7
import Derived.Test.YtlmohamgfindmacBQBase
import Derived.Test.YtlmohamgfindmacBQBox9
import Derived.Test.YtlmohamgfindmacBQBox
namespace Go.Proofs.Ytlmohamgfindmac.Pu
open Go.RowKit Go.Proofs.Ytlmohamgfindmac Go.Proofs.Ytlmohamgfindmac.PB Go.Proofs.Ytlmohamgfindmac.Pu Go.Proofs.YtlmohamgfindmacW.PrintWords Go.Proofs.YtlmohamgfindmacW.PrintLast Go.Proofs.YtlmohamgfindmacW.PrintMore
set_option linter.unusedVariables false
set_option linter.unusedSimpArgs false
noncomputable def boxV (x : S61) : Bool := Classical.choose (boxOk_same x.f0 x.f1 x.f2 x.f3 x.f4 x.f5)
theorem boxV1 (x : S61) : Ev (fun k => spec_BoxOk.f k x.f0 x.f1 x.f2 x.f3 x.f4 x.f5) (boxV x) := (Classical.choose_spec (boxOk_same x.f0 x.f1 x.f2 x.f3 x.f4 x.f5)).1
theorem boxV2 (x : S61) : Ev (fun k => impl_BoxOk.f k x.f0 x.f1 x.f2 x.f3 x.f4 x.f5) (boxV x) := (Classical.choose_spec (boxOk_same x.f0 x.f1 x.f2 x.f3 x.f4 x.f5)).2

end Go.Proofs.Ytlmohamgfindmac.Pu
