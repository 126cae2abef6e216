/- The pure statement of FnExactOwed, proved: for every input that the opening lets in, the printed law comes to true. -/
import Derived.Test.YtjebipmpcabfbaaPu0
import Derived.Test.YtjebipmpcabfbaaPAx1
import Derived.Test.YtjebipmpcabfbaaPAx5
import Derived.Test.YtjebipmpcabfbaaPAx6
import Derived.Test.YtjebipmpcabfbaaPAx7
import Derived.Test.YtjebipmpcabfbaaQCharter
import Derived.Test.YtjebipmpcabfbaaStFnExactOwed
namespace Go.Proofs.Ytjebipmpcabfbaa.Pure
open Go.RowKit Go.Proofs.Ytjebipmpcabfbaa Go.Proofs.Ytjebipmpcabfbaa.PA Go.Proofs.Ytjebipmpcabfbaa.Pu Go.Proofs.YtjebipmpcabfbaaW.PrintWords Go.Proofs.YtjebipmpcabfbaaW.PrintLast Go.Proofs.YtjebipmpcabfbaaW.PrintMore
set_option linter.unusedVariables false
set_option linter.unusedSimpArgs false
theorem Pure_Owed (a b c d e f g : Int) : laws_FnExactOwed.f 1 a b c d e f g = some true := by
  simp only [laws_FnExactOwed.f, laws_toCharter.f, laws_toCount.f, spec_Owed.f, impl_Owed.f, CharterOk1, CharterOk2, l1In_eq, in_eq, Option.bind_some, spec_Owed.j0, impl_Owed.j0]
  generalize (inB a 0 100000 && inB b 0 100000 && inB c 0 1000000000 && inB d 0 1000000000) = u
  generalize inB e 0 b = v
  generalize inB f 0 100000000 = w
  by_cases hf : f > 0 <;> by_cases he : e < b <;> cases u <;> cases v <;> cases w <;> simp [hf, he]

theorem FnExactOwed : laws_FnExactOwed.Pure := fun _ _ _ _ => ⟨1, Pure_Owed _ _ _ _ _ _ _⟩

end Go.Proofs.Ytjebipmpcabfbaa.Pure
