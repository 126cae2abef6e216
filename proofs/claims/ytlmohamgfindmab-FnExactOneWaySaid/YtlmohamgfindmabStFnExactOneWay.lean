/- The pure statement of FnExactOneWay. -/
import Derived.Test.YtlmohamgfindmabPAx7
import Derived.Test.YtlmohamgfindmabPAxo
namespace Go.Proofs.Ytlmohamgfindmab.PA
open Go.RowKit Go.Proofs.Ytlmohamgfindmab Go.Proofs.YtlmohamgfindmabW.PrintWords Go.Proofs.YtlmohamgfindmabW.PrintLast
def laws_FnExactOneWay.Pure : Prop := ∀ (a0 : Int) (a1 : Int), (Lit.int .i64 a0).wf = true → (Lit.int .i64 a1).wf = true → ∃ k, laws_FnExactOneWay.f k a0 a1 = some true
end Go.Proofs.Ytlmohamgfindmab.PA
