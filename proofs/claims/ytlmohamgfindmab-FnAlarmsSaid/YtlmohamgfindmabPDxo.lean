/- The openers of the laws' parameters: laid by a program of this session. -/
import Derived.Test.YtlmohamgfindmabPDx0
import Derived.Test.YtlmohamgfindmabOpens
namespace Go.Proofs.Ytlmohamgfindmab.PD
open Go.RowKit Go.Proofs.Ytlmohamgfindmab Go.Proofs.YtlmohamgfindmabW.PrintWords Go.Proofs.YtlmohamgfindmabW.PrintLast
set_option linter.unusedVariables false

end Go.Proofs.Ytlmohamgfindmab.PD
