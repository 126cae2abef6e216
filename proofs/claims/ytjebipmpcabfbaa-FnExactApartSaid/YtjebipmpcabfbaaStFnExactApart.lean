/- The pure statement of FnExactApart. -/
import Derived.Test.YtjebipmpcabfbaaPAx9
import Derived.Test.YtjebipmpcabfbaaPAxo
namespace Go.Proofs.Ytjebipmpcabfbaa.PA
open Go.RowKit Go.Proofs.Ytjebipmpcabfbaa Go.Proofs.YtjebipmpcabfbaaW.PrintWords Go.Proofs.YtjebipmpcabfbaaW.PrintLast
def laws_FnExactApart.Pure : Prop := ∀ (a0 : Int) (a1 : Int), (Lit.int .i64 a0).wf = true → (Lit.int .i64 a1).wf = true → ∃ k, laws_FnExactApart.f k a0 a1 = some true
end Go.Proofs.Ytjebipmpcabfbaa.PA
