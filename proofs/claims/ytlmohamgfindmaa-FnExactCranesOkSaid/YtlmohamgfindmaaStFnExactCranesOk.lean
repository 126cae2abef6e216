/- The pure statement of FnExactCranesOk. -/
import Derived.Test.YtlmohamgfindmaaPAx18
import Derived.Test.YtlmohamgfindmaaPAxo
namespace Go.Proofs.Ytlmohamgfindmaa.PA
open Go.RowKit Go.Proofs.Ytlmohamgfindmaa Go.Proofs.YtlmohamgfindmaaW.PrintWords Go.Proofs.YtlmohamgfindmaaW.PrintLast
def laws_FnExactCranesOk.Pure : Prop := ∀ (l0 : List (S125)) (a1 : Int), (l0.length ≤ maxLen ∧ ∀ x1_ ∈ l0, gS125 x1_) → (Lit.int .i64 a1).wf = true → ∃ k, laws_FnExactCranesOk.f k l0 a1 = some true
end Go.Proofs.Ytlmohamgfindmaa.PA
