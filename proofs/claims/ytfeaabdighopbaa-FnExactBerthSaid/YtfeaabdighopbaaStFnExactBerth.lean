/- The pure statement of FnExactBerth. -/
import Derived.Test.YtfeaabdighopbaaPGx15
import Derived.Test.YtfeaabdighopbaaPGxo
namespace Go.Proofs.Ytfeaabdighopbaa.PG
open Go.RowKit Go.Proofs.Ytfeaabdighopbaa Go.Proofs.YtfeaabdighopbaaW.PrintWords Go.Proofs.YtfeaabdighopbaaW.PrintLast
def laws_FnExactBerth.Pure : Prop := ∀ (a0 : Int) (l1 : List (S93)) (a2 : Int), (Lit.int .i64 a0).wf = true → (l1.length ≤ maxLen ∧ ∀ x1_ ∈ l1, gS93 x1_) → (Lit.int .i64 a2).wf = true → ∃ k, laws_FnExactBerth.f k a0 l1 a2 = some true
end Go.Proofs.Ytfeaabdighopbaa.PG
