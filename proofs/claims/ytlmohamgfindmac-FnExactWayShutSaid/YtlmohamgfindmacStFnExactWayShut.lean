/- The pure statement of FnExactWayShut. -/
import Derived.Test.YtlmohamgfindmacPAx48
import Derived.Test.YtlmohamgfindmacPAxo
namespace Go.Proofs.Ytlmohamgfindmac.PA
open Go.RowKit Go.Proofs.Ytlmohamgfindmac Go.Proofs.YtlmohamgfindmacW.PrintWords Go.Proofs.YtlmohamgfindmacW.PrintLast
def laws_FnExactWayShut.Pure : Prop := ∀ (x0 : S93) (l1 : List Int), gS93 x0 → (l1.length ≤ maxLen ∧ ∀ x1_ ∈ l1, (Lit.int .i64 x1_).wf = true) → ∃ k, laws_FnExactWayShut.f k x0.f0 x0.f1 x0.f2 x0.f3 l1 = some true
end Go.Proofs.Ytlmohamgfindmac.PA
