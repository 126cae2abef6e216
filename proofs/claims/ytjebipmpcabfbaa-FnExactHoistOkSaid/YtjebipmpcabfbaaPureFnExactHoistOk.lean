/- The pure statement of FnExactHoistOk, proved: for every input that the opening lets in, the printed law comes to true. -/
import Derived.Test.YtjebipmpcabfbaaPu0
import Derived.Test.YtjebipmpcabfbaaPAx3
import Derived.Test.YtjebipmpcabfbaaQBase
import Derived.Test.YtjebipmpcabfbaaStFnExactHoistOk
namespace Go.Proofs.Ytjebipmpcabfbaa.Pure
open Go.RowKit Go.Proofs.Ytjebipmpcabfbaa Go.Proofs.Ytjebipmpcabfbaa.PA Go.Proofs.Ytjebipmpcabfbaa.Pu Go.Proofs.YtjebipmpcabfbaaW.PrintWords Go.Proofs.YtjebipmpcabfbaaW.PrintLast Go.Proofs.YtjebipmpcabfbaaW.PrintMore
set_option linter.unusedVariables false
set_option linter.unusedSimpArgs false
theorem HoistOk1 (a b c d e f g : Int) : spec_HoistOk.f a b c d e f g = some (inB a 0 3 && inB d 0 c && inB e c 10000 && inB b 0 1000000 && inB f 0 1000000 && inB g 0 1) := by
  simp only [spec_HoistOk.f, l1In_eq, Option.bind_some]
  cases inB a 0 3 <;> cases inB d 0 c <;> cases inB e c 10000 <;> cases inB b 0 1000000 <;> cases inB f 0 1000000 <;> cases inB g 0 1 <;> rfl
theorem HoistOk2 (a b c d e f g : Int) : impl_HoistOk.f a b c d e f g = some (inB a 0 3 && inB d 0 c && inB e c 10000 && inB b 0 1000000 && inB f 0 1000000 && inB g 0 1) := by
  simp only [impl_HoistOk.f, in_eq, Option.bind_some]
  cases inB a 0 3 with
  | false => rfl
  | true =>
  cases h1 : inB d 0 c with
  | false => rfl
  | true =>
  have k1 := inB_t.1 h1
  by_cases h2 : c ≤ e ∧ e ≤ 10000
  · rw [show inB c d e = true from inB_t.2 ⟨k1.2, h2.1⟩, show inB e c 10000 = true from inB_t.2 h2, if_pos rfl, if_pos h2.2]
    cases inB b 0 1000000 <;> cases inB f 0 1000000 <;> cases inB g 0 1 <;> rfl
  · rw [show inB e c 10000 = false from inB_f.2 h2]
    cases h3 : inB c d e with
    | false => rfl
    | true =>
      have k3 := inB_t.1 h3
      rw [if_neg (show ¬ e ≤ 10000 by omega)]
      rfl
theorem Pure_HoistOk (a b c d e f g : Int) : laws_FnExactHoistOk.f a b c d e f g = some true := by
  simp [laws_FnExactHoistOk.f, laws_toHoist.f, HoistOk1, HoistOk2]
theorem FnExactHoistOk : laws_FnExactHoistOk.Pure := fun _ _ => Pure_HoistOk _ _ _ _ _ _ _

end Go.Proofs.Ytjebipmpcabfbaa.Pure
