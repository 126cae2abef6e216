/- The openers of the laws' parameters: laid by a program of this session. -/
import Derived.Test.YthbmpegaogfibaePAx0
import Derived.Test.YthbmpegaogfibaeOpens
namespace Go.Proofs.Ythbmpegaogfibae.PA
open Go.RowKit Go.Proofs.Ythbmpegaogfibae Go.Proofs.YthbmpegaogfibaeW.PrintWords Go.Proofs.YthbmpegaogfibaeW.PrintLast
set_option linter.unusedVariables false

end Go.Proofs.Ythbmpegaogfibae.PA
