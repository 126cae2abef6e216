/- The pure statement of FnExactRestCode. -/
import Derived.Test.YthbmpegaogfibacPAx12
import Derived.Test.YthbmpegaogfibacPAxo
namespace Go.Proofs.Ythbmpegaogfibac.PA
open Go.RowKit Go.Proofs.Ythbmpegaogfibac Go.Proofs.YthbmpegaogfibacW.PrintWords Go.Proofs.YthbmpegaogfibacW.PrintLast
def laws_FnExactRestCode.Pure : Prop := ∀ (l0 : List (S37)) (a1 : Int), (l0.length ≤ maxLen ∧ ∀ x1_ ∈ l0, gS37 x1_) → (Lit.int .i64 a1).wf = true → ∃ k, laws_FnExactRestCode.f k l0 a1 = some true
end Go.Proofs.Ythbmpegaogfibac.PA
