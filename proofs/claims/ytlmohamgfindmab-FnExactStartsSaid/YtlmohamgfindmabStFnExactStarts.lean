/- The pure statement of FnExactStarts. -/
import Derived.Test.YtlmohamgfindmabPAx19
import Derived.Test.YtlmohamgfindmabPAxo
namespace Go.Proofs.Ytlmohamgfindmab.PA
open Go.RowKit Go.Proofs.Ytlmohamgfindmab Go.Proofs.YtlmohamgfindmabW.PrintWords Go.Proofs.YtlmohamgfindmabW.PrintLast
def laws_FnExactStarts.Pure : Prop := ∀ (x0 : S38) (a1 : Int) (l2 : List (S121)), gS38 x0 → (Lit.int .i64 a1).wf = true → (l2.length ≤ maxLen ∧ ∀ x1_ ∈ l2, gS121 x1_) → ∃ k, laws_FnExactStarts.f k x0.f0 x0.f1 x0.f2 x0.f3 a1 l2 = some true
end Go.Proofs.Ytlmohamgfindmab.PA
