/- The pure statement of FnAlarms. -/
import Derived.Test.YtlmohamgfindmabPDx8
import Derived.Test.YtlmohamgfindmabPDxo
namespace Go.Proofs.Ytlmohamgfindmab.PD
open Go.RowKit Go.Proofs.Ytlmohamgfindmab Go.Proofs.YtlmohamgfindmabW.PrintWords Go.Proofs.YtlmohamgfindmabW.PrintLast
def laws_FnAlarms.Pure : Prop := ∀ (l0 : List Int), (l0.length ≤ maxLen ∧ ∀ x1_ ∈ l0, (Lit.int .u8 x1_).wf = true) → ∃ k, laws_FnAlarms.f k l0 = some true
end Go.Proofs.Ytlmohamgfindmab.PD
