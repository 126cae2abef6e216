/- The pure statement of FnExactBookOk. -/
import Derived.Test.YthbmpegaogfibadPBx13
import Derived.Test.YthbmpegaogfibadPBxo
namespace Go.Proofs.Ythbmpegaogfibad.PB
open Go.RowKit Go.Proofs.Ythbmpegaogfibad Go.Proofs.YthbmpegaogfibadW.PrintWords Go.Proofs.YthbmpegaogfibadW.PrintLast
def laws_FnExactBookOk.Pure : Prop := ∀ (x0 : S25), gS25 x0 → ∃ k, laws_FnExactBookOk.f k x0.f0 x0.f1 = some true
end Go.Proofs.Ythbmpegaogfibad.PB
