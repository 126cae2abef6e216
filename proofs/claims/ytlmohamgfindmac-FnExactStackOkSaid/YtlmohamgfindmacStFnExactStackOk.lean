/- The pure statement of FnExactStackOk. -/
import Derived.Test.YtlmohamgfindmacPBx11
import Derived.Test.YtlmohamgfindmacPBxo
namespace Go.Proofs.Ytlmohamgfindmac.PB
open Go.RowKit Go.Proofs.Ytlmohamgfindmac Go.Proofs.YtlmohamgfindmacW.PrintWords Go.Proofs.YtlmohamgfindmacW.PrintLast
def laws_FnExactStackOk.Pure : Prop := ∀ (l0 : List (S56)) (a1 : Int), (l0.length ≤ maxLen ∧ ∀ x1_ ∈ l0, gS56 x1_) → (Lit.int .i64 a1).wf = true → ∃ k, laws_FnExactStackOk.f k l0 a1 = some true
end Go.Proofs.Ytlmohamgfindmac.PB
