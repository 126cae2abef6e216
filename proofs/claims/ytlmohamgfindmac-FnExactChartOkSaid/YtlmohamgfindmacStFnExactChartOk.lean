/- The pure statement of FnExactChartOk. -/
import Derived.Test.YtlmohamgfindmacPAx11
import Derived.Test.YtlmohamgfindmacPAxo
namespace Go.Proofs.Ytlmohamgfindmac.PA
open Go.RowKit Go.Proofs.Ytlmohamgfindmac Go.Proofs.YtlmohamgfindmacW.PrintWords Go.Proofs.YtlmohamgfindmacW.PrintLast
def laws_FnExactChartOk.Pure : Prop := ∀ (x0 : S44), gS44 x0 → ∃ k, laws_FnExactChartOk.f k x0.f0 x0.f1 x0.f2 x0.f3 x0.f4 = some true
end Go.Proofs.Ytlmohamgfindmac.PA
