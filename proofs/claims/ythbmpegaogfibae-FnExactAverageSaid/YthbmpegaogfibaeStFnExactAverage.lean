/- The pure statement of FnExactAverage. -/
import Derived.Test.YthbmpegaogfibaePAx6
import Derived.Test.YthbmpegaogfibaePAxo
namespace Go.Proofs.Ythbmpegaogfibae.PA
open Go.RowKit Go.Proofs.Ythbmpegaogfibae Go.Proofs.YthbmpegaogfibaeW.PrintWords Go.Proofs.YthbmpegaogfibaeW.PrintLast
def laws_FnExactAverage.Pure : Prop := ∀ (l0 : List Int) (a1 : Int), (l0.length ≤ maxLen ∧ ∀ x1_ ∈ l0, (Lit.int .i64 x1_).wf = true) → (Lit.int .i64 a1).wf = true → ∃ k, laws_FnExactAverage.f k l0 a1 = some true
end Go.Proofs.Ythbmpegaogfibae.PA
