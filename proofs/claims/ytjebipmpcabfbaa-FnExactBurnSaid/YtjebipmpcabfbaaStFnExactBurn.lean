/- The pure statement of FnExactBurn. -/
import Derived.Test.YtjebipmpcabfbaaPAx17
import Derived.Test.YtjebipmpcabfbaaPAxo
namespace Go.Proofs.Ytjebipmpcabfbaa.PA
open Go.RowKit Go.Proofs.Ytjebipmpcabfbaa Go.Proofs.YtjebipmpcabfbaaW.PrintWords Go.Proofs.YtjebipmpcabfbaaW.PrintLast
def laws_FnExactBurn.Pure : Prop := ∀ (l0 : List Int) (a1 : Int) (a2 : Int), (l0.length ≤ maxLen ∧ ∀ x1_ ∈ l0, (Lit.int .i64 x1_).wf = true) → (Lit.int .i64 a1).wf = true → (Lit.int .i64 a2).wf = true → ∃ k, laws_FnExactBurn.f k l0 a1 a2 = some true
end Go.Proofs.Ytjebipmpcabfbaa.PA
