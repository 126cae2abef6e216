/- The pure statement of FnExactBoxOk. -/
import Derived.Test.YtlmohamgfindmabPAx11
import Derived.Test.YtlmohamgfindmabPAxo
namespace Go.Proofs.Ytlmohamgfindmab.PA
open Go.RowKit Go.Proofs.Ytlmohamgfindmab Go.Proofs.YtlmohamgfindmabW.PrintWords Go.Proofs.YtlmohamgfindmabW.PrintLast
def laws_FnExactBoxOk.Pure : Prop := ∀ (x0 : S31), gS31 x0 → ∃ k, laws_FnExactBoxOk.f k x0.f0 x0.f1 x0.f2 x0.f3 x0.f4 x0.f5 = some true
end Go.Proofs.Ytlmohamgfindmab.PA
