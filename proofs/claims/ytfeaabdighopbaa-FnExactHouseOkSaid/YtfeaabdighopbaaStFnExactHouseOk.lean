/- The pure statement of FnExactHouseOk. -/
import Derived.Test.YtfeaabdighopbaaPDx11
import Derived.Test.YtfeaabdighopbaaPDxo
namespace Go.Proofs.Ytfeaabdighopbaa.PD
open Go.RowKit Go.Proofs.Ytfeaabdighopbaa Go.Proofs.YtfeaabdighopbaaW.PrintWords Go.Proofs.YtfeaabdighopbaaW.PrintLast
def laws_FnExactHouseOk.Pure : Prop := ∀ (x0 : S69), gS69 x0 → ∃ k, laws_FnExactHouseOk.f k x0.f0 x0.f1 x0.f2 = some true
end Go.Proofs.Ytfeaabdighopbaa.PD
