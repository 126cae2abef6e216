/- The pure statement of FnExactOwed. -/
import Derived.Test.YtjebipmpcabfbaaPAx7
import Derived.Test.YtjebipmpcabfbaaPAxo
namespace Go.Proofs.Ytjebipmpcabfbaa.PA
open Go.RowKit Go.Proofs.Ytjebipmpcabfbaa Go.Proofs.YtjebipmpcabfbaaW.PrintWords Go.Proofs.YtjebipmpcabfbaaW.PrintLast
def laws_FnExactOwed.Pure : Prop := ∀ (x0 : S29) (x1 : S46), gS29 x0 → gS46 x1 → ∃ k, laws_FnExactOwed.f k x0.f0 x0.f1 x0.f2 x0.f3 x1.f0 x1.f1 x1.f2 = some true
end Go.Proofs.Ytjebipmpcabfbaa.PA
