/- The pure statement of FnExactCheckDigit. -/
import Derived.Test.YtjebipmpcabfbaaPAx13
import Derived.Test.YtjebipmpcabfbaaPAxo
namespace Go.Proofs.Ytjebipmpcabfbaa.PA
open Go.RowKit Go.Proofs.Ytjebipmpcabfbaa Go.Proofs.YtjebipmpcabfbaaW.PrintWords Go.Proofs.YtjebipmpcabfbaaW.PrintLast
def laws_FnExactCheckDigit.Pure : Prop := ∀ (a0 : ByteArray), a0.size ≤ maxLen → ∃ k, laws_FnExactCheckDigit.f k a0 = some true
end Go.Proofs.Ytjebipmpcabfbaa.PA
