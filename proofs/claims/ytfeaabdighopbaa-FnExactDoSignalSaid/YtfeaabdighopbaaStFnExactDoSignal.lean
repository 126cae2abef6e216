/- The pure statement of FnExactDoSignal. -/
import Derived.Test.YtfeaabdighopbaaPHx6
import Derived.Test.YtfeaabdighopbaaPHxo
namespace Go.Proofs.Ytfeaabdighopbaa.PH
open Go.RowKit Go.Proofs.Ytfeaabdighopbaa Go.Proofs.YtfeaabdighopbaaW.PrintWords Go.Proofs.YtfeaabdighopbaaW.PrintLast
def laws_FnExactDoSignal.Pure : Prop := ∀ (x0 : S32) (x1 : S34), gS32 x0 → gS34 x1 → ∃ k, laws_FnExactDoSignal.f k x0.f0 x0.f1 x0.f2 x0.f3 x0.f4 x0.f5 x0.f6 x1.f0 x1.f1 = some true
end Go.Proofs.Ytfeaabdighopbaa.PH
