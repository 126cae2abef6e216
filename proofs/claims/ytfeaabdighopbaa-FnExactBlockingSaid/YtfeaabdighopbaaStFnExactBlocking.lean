/- The pure statement of FnExactBlocking. -/
import Derived.Test.YtfeaabdighopbaaPBx10
import Derived.Test.YtfeaabdighopbaaPBxo
namespace Go.Proofs.Ytfeaabdighopbaa.PB
open Go.RowKit Go.Proofs.Ytfeaabdighopbaa Go.Proofs.YtfeaabdighopbaaW.PrintWords Go.Proofs.YtfeaabdighopbaaW.PrintLast
def laws_FnExactBlocking.Pure : Prop := ∀ (x0 : S81) (l1 : List Int), gS81 x0 → (l1.length ≤ maxLen ∧ ∀ x1_ ∈ l1, (Lit.int .i64 x1_).wf = true) → ∃ k, laws_FnExactBlocking.f k x0.f0 x0.f1 l1 = some true
end Go.Proofs.Ytfeaabdighopbaa.PB
