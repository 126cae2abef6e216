/- The pure statement of FnExactFloorOk. -/
import Derived.Test.YtlmohamgfindmaaPAx43
import Derived.Test.YtlmohamgfindmaaPAxo
namespace Go.Proofs.Ytlmohamgfindmaa.PA
open Go.RowKit Go.Proofs.Ytlmohamgfindmaa Go.Proofs.YtlmohamgfindmaaW.PrintWords Go.Proofs.YtlmohamgfindmaaW.PrintLast
def laws_FnExactFloorOk.Pure : Prop := ∀ (x0 : S83), gS83 x0 → ∃ k, laws_FnExactFloorOk.f k x0.f0 x0.f1 x0.f2 = some true
end Go.Proofs.Ytlmohamgfindmaa.PA
