/- The pure statement of FnExactCallsOk. -/
import Derived.Test.YtlmohamgfindmaaPBx7
import Derived.Test.YtlmohamgfindmaaPBxo
namespace Go.Proofs.Ytlmohamgfindmaa.PB
open Go.RowKit Go.Proofs.Ytlmohamgfindmaa Go.Proofs.YtlmohamgfindmaaW.PrintWords Go.Proofs.YtlmohamgfindmaaW.PrintLast
def laws_FnExactCallsOk.Pure : Prop := ∀ (a0 : Int) (l1 : List (S176)), (Lit.int .i64 a0).wf = true → (l1.length ≤ maxLen ∧ ∀ x1_ ∈ l1, gS176 x1_) → ∃ k, laws_FnExactCallsOk.f k a0 l1 = some true
end Go.Proofs.Ytlmohamgfindmaa.PB
