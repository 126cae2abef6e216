/- The pure statement of FnExactKeepsApart. -/
import Derived.Test.YtlmohamgfindmacPAx26
import Derived.Test.YtlmohamgfindmacPAxo
namespace Go.Proofs.Ytlmohamgfindmac.PA
open Go.RowKit Go.Proofs.Ytlmohamgfindmac Go.Proofs.YtlmohamgfindmacW.PrintWords Go.Proofs.YtlmohamgfindmacW.PrintLast
def laws_FnExactKeepsApart.Pure : Prop := ∀ (x0 : S56) (x1 : S58) (x2 : S56) (x3 : S58), gS56 x0 → gS58 x1 → gS56 x2 → gS58 x3 → ∃ k, laws_FnExactKeepsApart.f k x0.f0 x0.f1 x0.f2 x0.f3 x0.f4 x0.f5 x1.f0 x1.f1 x1.f2 x2.f0 x2.f1 x2.f2 x2.f3 x2.f4 x2.f5 x3.f0 x3.f1 x3.f2 = some true
end Go.Proofs.Ytlmohamgfindmac.PA
