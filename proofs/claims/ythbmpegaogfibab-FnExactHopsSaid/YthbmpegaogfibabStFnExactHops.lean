/- The pure statement of FnExactHops. -/
import Derived.Test.YthbmpegaogfibabPAx9
import Derived.Test.YthbmpegaogfibabPAxo
namespace Go.Proofs.Ythbmpegaogfibab.PA
open Go.RowKit Go.Proofs.Ythbmpegaogfibab Go.Proofs.YthbmpegaogfibabW.PrintWords Go.Proofs.YthbmpegaogfibabW.PrintLast
def laws_FnExactHops.Pure : Prop := ∀ (x0 : S24) (a1 : Int), gS24 x0 → (Lit.int .i64 a1).wf = true → ∃ k, laws_FnExactHops.f k x0.f0 x0.f1 x0.f2 a1 = some true
end Go.Proofs.Ythbmpegaogfibab.PA
