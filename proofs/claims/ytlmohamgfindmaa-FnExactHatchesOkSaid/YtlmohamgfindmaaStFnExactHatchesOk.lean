/- The pure statement of FnExactHatchesOk. -/
import Derived.Test.YtlmohamgfindmaaPAx33
import Derived.Test.YtlmohamgfindmaaPAxo
namespace Go.Proofs.Ytlmohamgfindmaa.PA
open Go.RowKit Go.Proofs.Ytlmohamgfindmaa Go.Proofs.YtlmohamgfindmaaW.PrintWords Go.Proofs.YtlmohamgfindmaaW.PrintLast
def laws_FnExactHatchesOk.Pure : Prop := ∀ (l0 : List (S137)), (l0.length ≤ maxLen ∧ ∀ x1_ ∈ l0, gS137 x1_) → ∃ k, laws_FnExactHatchesOk.f k l0 = some true
end Go.Proofs.Ytlmohamgfindmaa.PA
