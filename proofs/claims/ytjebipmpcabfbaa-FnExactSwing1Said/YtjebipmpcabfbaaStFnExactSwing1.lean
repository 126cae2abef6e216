/- The pure statement of FnExactSwing1. -/
import Derived.Test.YtjebipmpcabfbaaPAx11
import Derived.Test.YtjebipmpcabfbaaPAxo
namespace Go.Proofs.Ytjebipmpcabfbaa.PA
open Go.RowKit Go.Proofs.Ytjebipmpcabfbaa Go.Proofs.YtjebipmpcabfbaaW.PrintWords Go.Proofs.YtjebipmpcabfbaaW.PrintLast
def laws_FnExactSwing1.Pure : Prop := ∀ (x0 : S23) (a1 : Int), gS23 x0 → (Lit.int .i64 a1).wf = true → ∃ k, laws_FnExactSwing1.f k x0.f0 x0.f1 x0.f2 a1 = some true
end Go.Proofs.Ytjebipmpcabfbaa.PA
