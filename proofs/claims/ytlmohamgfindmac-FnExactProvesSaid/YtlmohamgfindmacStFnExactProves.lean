/- The pure statement of FnExactProves. -/
import Derived.Test.YtlmohamgfindmacPAx43
import Derived.Test.YtlmohamgfindmacPAxo
namespace Go.Proofs.Ytlmohamgfindmac.PA
open Go.RowKit Go.Proofs.Ytlmohamgfindmac Go.Proofs.YtlmohamgfindmacW.PrintWords Go.Proofs.YtlmohamgfindmacW.PrintLast
def laws_FnExactProves.Pure : Prop := ∀ (x0 : S93) (a1 : Int) (l2 : List Int), gS93 x0 → (Lit.int .i64 a1).wf = true → (l2.length ≤ maxLen ∧ ∀ x1_ ∈ l2, (Lit.int .i64 x1_).wf = true) → ∃ k, laws_FnExactProves.f k x0.f0 x0.f1 x0.f2 x0.f3 a1 l2 = some true
end Go.Proofs.Ytlmohamgfindmac.PA
