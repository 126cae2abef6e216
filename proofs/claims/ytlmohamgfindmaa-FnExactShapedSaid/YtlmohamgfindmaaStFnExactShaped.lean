/- The pure statement of FnExactShaped. -/
import Derived.Test.YtlmohamgfindmaaPAx41
import Derived.Test.YtlmohamgfindmaaPAxo
namespace Go.Proofs.Ytlmohamgfindmaa.PA
open Go.RowKit Go.Proofs.Ytlmohamgfindmaa Go.Proofs.YtlmohamgfindmaaW.PrintWords Go.Proofs.YtlmohamgfindmaaW.PrintLast
def laws_FnExactShaped.Pure : Prop := ∀ (l0 : List Int), (l0.length ≤ maxLen ∧ ∀ x1_ ∈ l0, (Lit.int .i64 x1_).wf = true) → ∃ k, laws_FnExactShaped.f k l0 = some true
end Go.Proofs.Ytlmohamgfindmaa.PA
