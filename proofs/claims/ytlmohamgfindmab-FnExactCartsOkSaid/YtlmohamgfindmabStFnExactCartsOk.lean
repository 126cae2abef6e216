/- The pure statement of FnExactCartsOk. -/
import Derived.Test.YtlmohamgfindmabPBx15
import Derived.Test.YtlmohamgfindmabPBxo
namespace Go.Proofs.Ytlmohamgfindmab.PB
open Go.RowKit Go.Proofs.Ytlmohamgfindmab Go.Proofs.YtlmohamgfindmabW.PrintWords Go.Proofs.YtlmohamgfindmabW.PrintLast
def laws_FnExactCartsOk.Pure : Prop := ∀ (x0 : S83) (l1 : List (S146)), gS83 x0 → (l1.length ≤ maxLen ∧ ∀ x1_ ∈ l1, gS146 x1_) → ∃ k, laws_FnExactCartsOk.f k x0.f0 x0.f1 x0.f2 l1 = some true
end Go.Proofs.Ytlmohamgfindmab.PB
