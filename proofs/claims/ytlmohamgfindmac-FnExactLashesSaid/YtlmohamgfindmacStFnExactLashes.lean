/- The pure statement of FnExactLashes. -/
import Derived.Test.YtlmohamgfindmacPAx21
import Derived.Test.YtlmohamgfindmacPAxo
namespace Go.Proofs.Ytlmohamgfindmac.PA
open Go.RowKit Go.Proofs.Ytlmohamgfindmac Go.Proofs.YtlmohamgfindmacW.PrintWords Go.Proofs.YtlmohamgfindmacW.PrintLast
def laws_FnExactLashes.Pure : Prop := ∀ (l0 : List (S56)) (a1 : Int), (l0.length ≤ maxLen ∧ ∀ x1_ ∈ l0, gS56 x1_) → (Lit.int .i64 a1).wf = true → ∃ k, laws_FnExactLashes.f k l0 a1 = some true
end Go.Proofs.Ytlmohamgfindmac.PA
