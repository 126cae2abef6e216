/- The pure statement of FnExactTanksOk. -/
import Derived.Test.YtlmohamgfindmaaPAx38
import Derived.Test.YtlmohamgfindmaaPAxo
namespace Go.Proofs.Ytlmohamgfindmaa.PA
open Go.RowKit Go.Proofs.Ytlmohamgfindmaa Go.Proofs.YtlmohamgfindmaaW.PrintWords Go.Proofs.YtlmohamgfindmaaW.PrintLast
def laws_FnExactTanksOk.Pure : Prop := ∀ (l0 : List (S168)), (l0.length ≤ maxLen ∧ ∀ x1_ ∈ l0, gS168 x1_) → ∃ k, laws_FnExactTanksOk.f k l0 = some true
end Go.Proofs.Ytlmohamgfindmaa.PA
