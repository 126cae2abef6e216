/- The pure statement of FnExactDepthAt. -/
import Derived.Test.YtlmohamgfindmacPAx28
import Derived.Test.YtlmohamgfindmacPAxo
namespace Go.Proofs.Ytlmohamgfindmac.PA
open Go.RowKit Go.Proofs.Ytlmohamgfindmac Go.Proofs.YtlmohamgfindmacW.PrintWords Go.Proofs.YtlmohamgfindmacW.PrintLast
def laws_FnExactDepthAt.Pure : Prop := ∀ (x0 : S44) (a1 : Int) (a2 : Int), gS44 x0 → (Lit.int .i64 a1).wf = true → (Lit.int .i64 a2).wf = true → ∃ k, laws_FnExactDepthAt.f k x0.f0 x0.f1 x0.f2 x0.f3 x0.f4 a1 a2 = some true
end Go.Proofs.Ytlmohamgfindmac.PA
