/- The pure statement of FnExactWorkIn. -/
import Derived.Test.YtlmohamgfindmaaPAx59
import Derived.Test.YtlmohamgfindmaaPAxo
namespace Go.Proofs.Ytlmohamgfindmaa.PA
open Go.RowKit Go.Proofs.Ytlmohamgfindmaa Go.Proofs.YtlmohamgfindmaaW.PrintWords Go.Proofs.YtlmohamgfindmaaW.PrintLast
def laws_FnExactWorkIn.Pure : Prop := ∀ (l0 : List (S185)) (a1 : Int) (a2 : Int), (l0.length ≤ maxLen ∧ ∀ x1_ ∈ l0, gS185 x1_) → (Lit.int .i64 a1).wf = true → (Lit.int .i64 a2).wf = true → ∃ k, laws_FnExactWorkIn.f k l0 a1 a2 = some true
end Go.Proofs.Ytlmohamgfindmaa.PA
