/- The pure statement of FnExactSpellsOk. -/
import Derived.Test.YtjebipmpcabfbaaPAx23
import Derived.Test.YtjebipmpcabfbaaPAxo
namespace Go.Proofs.Ytjebipmpcabfbaa.PA
open Go.RowKit Go.Proofs.Ytjebipmpcabfbaa Go.Proofs.YtjebipmpcabfbaaW.PrintWords Go.Proofs.YtjebipmpcabfbaaW.PrintLast
def laws_FnExactSpellsOk.Pure : Prop := ∀ (l0 : List (S83)), (l0.length ≤ maxLen ∧ ∀ x1_ ∈ l0, gS83 x1_) → ∃ k, laws_FnExactSpellsOk.f k l0 = some true
end Go.Proofs.Ytjebipmpcabfbaa.PA
