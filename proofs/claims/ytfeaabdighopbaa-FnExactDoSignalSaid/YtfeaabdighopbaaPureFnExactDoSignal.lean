/- The pure statement of FnExactDoSignal, proved: for every input that the opening lets in, the printed law comes to true. -/
import Derived.Test.YtfeaabdighopbaaPu0
import Derived.Test.YtfeaabdighopbaaPHx1
import Derived.Test.YtfeaabdighopbaaPHx2
import Derived.Test.YtfeaabdighopbaaPHx3
import Derived.Test.YtfeaabdighopbaaPHx4
import Derived.Test.YtfeaabdighopbaaPHx5
import Derived.Test.YtfeaabdighopbaaPHx6
import Derived.Test.YtfeaabdighopbaaHQBase
import Derived.Test.YtfeaabdighopbaaStFnExactDoSignal
namespace Go.Proofs.Ytfeaabdighopbaa.Pure
open Go.RowKit Go.Proofs.Ytfeaabdighopbaa Go.Proofs.Ytfeaabdighopbaa.PH Go.Proofs.Ytfeaabdighopbaa.Pu Go.Proofs.YtfeaabdighopbaaW.PrintWords Go.Proofs.YtfeaabdighopbaaW.PrintLast Go.Proofs.YtfeaabdighopbaaW.PrintMore
set_option linter.unusedVariables false
set_option linter.unusedSimpArgs false
def hoB (a b c d e f g : Int) : Bool := inB a 0 3 && (inB d 0 c && (inB e c 10000 && (inB b 0 1000000 && (inB f 0 1000000 && inB g 0 1))))
theorem ho1 (a b c d e f g : Int) : spec_HoistOk.f a b c d e f g = some (hoB a b c d e f g) := by
  simp only [spec_HoistOk.f, l1In_eq, Option.bind_some, hoB]
  cases inB a 0 3 <;> cases inB d 0 c <;> cases inB e c 10000 <;> cases inB b 0 1000000 <;> cases inB f 0 1000000 <;> simp
theorem ho2 (a b c d e f g : Int) : impl_HoistOk.f a b c d e f g = some (hoB a b c d e f g) := by
  simp only [impl_HoistOk.f, in_eq, Option.bind_some, hoB]
  cases h : inB d 0 c with
  | false => cases inB a 0 3 <;> simp
  | true =>
    rw [inB_t] at h
    have h1 : inB e c 10000 = (inB c d e && decide (e ≤ 10000)) := by
      rw [Bool.eq_iff_iff, Bool.and_eq_true, inB_t, inB_t, decide_eq_true_eq]; omega
    rw [h1]
    by_cases h2 : e ≤ 10000
    · cases inB a 0 3 <;> cases inB c d e <;> cases inB b 0 1000000 <;> cases inB f 0 1000000 <;> simp [h2]
    · cases inB a 0 3 <;> cases inB c d e <;> simp [h2]
theorem ds_same (a b c d m f g x y : Int) : spec_DoSignal.f a b c d m f g x y = impl_DoSignal.f a b c d m f g x y := by
  simp only [spec_DoSignal.f, impl_DoSignal.f, ho1, ho2, l1In_eq, in_eq, Option.bind_some]
theorem ds_some (a b c d m f g x y : Int) : (spec_DoSignal.f a b c d m f g x y).isSome = true := by
  simp only [spec_DoSignal.f, ho1, l1In_eq, Option.bind_some]
  simp only [apply_ite Option.isSome, Option.isSome_some, ite_self]
theorem P_DoSignal : ∀ a b c d m f g x y : Int, ∃ k, laws_FnExactDoSignal.f k a b c d m f g x y = some true := by
  intro a b c d m f g x y
  obtain ⟨r, hr⟩ := Option.isSome_iff_exists.1 (ds_some a b c d m f g x y)
  have h1 := ds_same a b c d m f g x y
  rw [hr] at h1
  refine ⟨10, ?_⟩
  simp only [laws_FnExactDoSignal.f, laws_toHoist.f, laws_toSignal.f, Option.bind_some, hr, ← h1, laws_eqHoist.f, if_true]
  simp [laws_FnExactDoSignal.j0]
theorem FnExactDoSignal : laws_FnExactDoSignal.Pure := fun _ _ _ _ => P_DoSignal _ _ _ _ _ _ _ _ _

end Go.Proofs.Ytfeaabdighopbaa.Pure
