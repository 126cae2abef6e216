/- The pure statement of FnExactCharterOk. -/
import Derived.Test.YtjebipmpcabfbaaPAx2
import Derived.Test.YtjebipmpcabfbaaPAxo
namespace Go.Proofs.Ytjebipmpcabfbaa.PA
open Go.RowKit Go.Proofs.Ytjebipmpcabfbaa Go.Proofs.YtjebipmpcabfbaaW.PrintWords Go.Proofs.YtjebipmpcabfbaaW.PrintLast
def laws_FnExactCharterOk.Pure : Prop := ∀ (x0 : S29), gS29 x0 → laws_FnExactCharterOk.f x0.f0 x0.f1 x0.f2 x0.f3 = some true
end Go.Proofs.Ytjebipmpcabfbaa.PA
