/- The pure statement of FnExactQuickest. -/
import Derived.Test.YthbmpegaogfibaaPEx14
import Derived.Test.YthbmpegaogfibaaPExo
namespace Go.Proofs.Ythbmpegaogfibaa.PE
open Go.RowKit Go.Proofs.Ythbmpegaogfibaa Go.Proofs.YthbmpegaogfibaaW.PrintWords Go.Proofs.YthbmpegaogfibaaW.PrintLast
def laws_FnExactQuickest.Pure : Prop := ∀ (x0 : S25) (a1 : Int) (a2 : Int) (a3 : Int), gS25 x0 → (Lit.int .i64 a1).wf = true → (Lit.int .i64 a2).wf = true → (Lit.int .i64 a3).wf = true → ∃ k, laws_FnExactQuickest.f k x0.f0 x0.f1 x0.f2 x0.f3 a1 a2 a3 = some true
end Go.Proofs.Ythbmpegaogfibaa.PE
