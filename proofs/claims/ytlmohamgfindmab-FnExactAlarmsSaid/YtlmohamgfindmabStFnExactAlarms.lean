/- The pure statement of FnExactAlarms. -/
import Derived.Test.YtlmohamgfindmabPBx7
import Derived.Test.YtlmohamgfindmabPBxo
namespace Go.Proofs.Ytlmohamgfindmab.PB
open Go.RowKit Go.Proofs.Ytlmohamgfindmab Go.Proofs.YtlmohamgfindmabW.PrintWords Go.Proofs.YtlmohamgfindmabW.PrintLast
def laws_FnExactAlarms.Pure : Prop := ∀ (x0 : S57) (l1 : List Int), gS57 x0 → (l1.length ≤ maxLen ∧ ∀ x1_ ∈ l1, (Lit.int .i64 x1_).wf = true) → ∃ k, laws_FnExactAlarms.f k x0.f0 x0.f1 x0.f2 l1 = some true
end Go.Proofs.Ytlmohamgfindmab.PB
