/- The pure statement of FnExactBound17. -/
import Derived.Test.YtfeaabdighopbaaPGx13
import Derived.Test.YtfeaabdighopbaaPGxo
namespace Go.Proofs.Ytfeaabdighopbaa.PG
open Go.RowKit Go.Proofs.Ytfeaabdighopbaa Go.Proofs.YtfeaabdighopbaaW.PrintWords Go.Proofs.YtfeaabdighopbaaW.PrintLast
def laws_FnExactBound17.Pure : Prop := ∀ (a0 : Int) (l1 : List (S93)), (Lit.int .i64 a0).wf = true → (l1.length ≤ maxLen ∧ ∀ x1_ ∈ l1, gS93 x1_) → ∃ k, laws_FnExactBound17.f k a0 l1 = some true
end Go.Proofs.Ytfeaabdighopbaa.PG
