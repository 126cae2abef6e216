/- The pure statement of FnExactBeats. -/
import Derived.Test.YtlmohamgfindmaaPAx52
import Derived.Test.YtlmohamgfindmaaPAxo
namespace Go.Proofs.Ytlmohamgfindmaa.PA
open Go.RowKit Go.Proofs.Ytlmohamgfindmaa Go.Proofs.YtlmohamgfindmaaW.PrintWords Go.Proofs.YtlmohamgfindmaaW.PrintLast
def laws_FnExactBeats.Pure : Prop := ∀ (x0 : S98) (l1 : List Int), gS98 x0 → (l1.length ≤ maxLen ∧ ∀ x1_ ∈ l1, (Lit.int .i64 x1_).wf = true) → ∃ k, laws_FnExactBeats.f k x0.f0 x0.f1 x0.f2 l1 = some true
end Go.Proofs.Ytlmohamgfindmaa.PA
