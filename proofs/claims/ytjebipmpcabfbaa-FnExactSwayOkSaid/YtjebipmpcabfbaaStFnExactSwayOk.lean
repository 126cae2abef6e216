/- The pure statement of FnExactSwayOk. -/
import Derived.Test.YtjebipmpcabfbaaPAx1
import Derived.Test.YtjebipmpcabfbaaPAxo
namespace Go.Proofs.Ytjebipmpcabfbaa.PA
open Go.RowKit Go.Proofs.Ytjebipmpcabfbaa Go.Proofs.YtjebipmpcabfbaaW.PrintWords Go.Proofs.YtjebipmpcabfbaaW.PrintLast
def laws_FnExactSwayOk.Pure : Prop := ∀ (x0 : S23), gS23 x0 → laws_FnExactSwayOk.f x0.f0 x0.f1 x0.f2 = some true
end Go.Proofs.Ytjebipmpcabfbaa.PA
