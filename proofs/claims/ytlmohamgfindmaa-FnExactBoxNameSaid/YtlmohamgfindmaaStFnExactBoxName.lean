/- The pure statement of FnExactBoxName. -/
import Derived.Test.YtlmohamgfindmaaPAx24
import Derived.Test.YtlmohamgfindmaaPAxo
namespace Go.Proofs.Ytlmohamgfindmaa.PA
open Go.RowKit Go.Proofs.Ytlmohamgfindmaa Go.Proofs.YtlmohamgfindmaaW.PrintWords Go.Proofs.YtlmohamgfindmaaW.PrintLast
def laws_FnExactBoxName.Pure : Prop := ∀ (a0 : ByteArray), a0.size ≤ maxLen → ∃ k, laws_FnExactBoxName.f k a0 = some true
end Go.Proofs.Ytlmohamgfindmaa.PA
