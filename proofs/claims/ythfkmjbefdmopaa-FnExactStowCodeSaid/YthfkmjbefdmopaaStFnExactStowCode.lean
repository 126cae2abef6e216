/- The pure statement of FnExactStowCode. -/
import Derived.Test.YthfkmjbefdmopaaPAx24
import Derived.Test.YthfkmjbefdmopaaPAxo
namespace Go.Proofs.Ythfkmjbefdmopaa.PA
open Go.RowKit Go.Proofs.Ythfkmjbefdmopaa Go.Proofs.YthfkmjbefdmopaaW.PrintWords Go.Proofs.YthfkmjbefdmopaaW.PrintLast
def laws_FnExactStowCode.Pure : Prop := ∀ (l0 : List (S47)) (l1 : List (S41)), (l0.length ≤ maxLen ∧ ∀ x1_ ∈ l0, gS47 x1_) → (l1.length ≤ maxLen ∧ ∀ x1_ ∈ l1, gS41 x1_) → ∃ k, laws_FnExactStowCode.f k l0 l1 = some true
end Go.Proofs.Ythfkmjbefdmopaa.PA
