/- The pure statement of FnExactUllage. -/
import Derived.Test.YtlmohamgfindmaaPAx21
import Derived.Test.YtlmohamgfindmaaPAxo
namespace Go.Proofs.Ytlmohamgfindmaa.PA
open Go.RowKit Go.Proofs.Ytlmohamgfindmaa Go.Proofs.YtlmohamgfindmaaW.PrintWords Go.Proofs.YtlmohamgfindmaaW.PrintLast
def laws_FnExactUllage.Pure : Prop := ∀ (l0 : List Int) (a1 : Int), (l0.length ≤ maxLen ∧ ∀ x1_ ∈ l0, (Lit.int .i64 x1_).wf = true) → (Lit.int .i64 a1).wf = true → ∃ k, laws_FnExactUllage.f k l0 a1 = some true
end Go.Proofs.Ytlmohamgfindmaa.PA
