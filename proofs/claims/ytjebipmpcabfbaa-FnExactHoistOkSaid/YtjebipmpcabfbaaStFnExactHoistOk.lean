/- The pure statement of FnExactHoistOk. -/
import Derived.Test.YtjebipmpcabfbaaPAx3
import Derived.Test.YtjebipmpcabfbaaPAxo
namespace Go.Proofs.Ytjebipmpcabfbaa.PA
open Go.RowKit Go.Proofs.Ytjebipmpcabfbaa Go.Proofs.YtjebipmpcabfbaaW.PrintWords Go.Proofs.YtjebipmpcabfbaaW.PrintLast
def laws_FnExactHoistOk.Pure : Prop := ∀ (x0 : S38), gS38 x0 → laws_FnExactHoistOk.f x0.f0 x0.f1 x0.f2 x0.f3 x0.f4 x0.f5 x0.f6 = some true
end Go.Proofs.Ytjebipmpcabfbaa.PA
