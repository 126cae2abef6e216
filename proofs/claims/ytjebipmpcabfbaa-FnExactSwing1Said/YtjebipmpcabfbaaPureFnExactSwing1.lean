/- The pure statement of FnExactSwing1, proved: for every input that the opening lets in, the printed law comes to true. -/
import Derived.Test.YtjebipmpcabfbaaPu0
import Derived.Test.YtjebipmpcabfbaaPAx1
import Derived.Test.YtjebipmpcabfbaaPAx10
import Derived.Test.YtjebipmpcabfbaaPAx11
import Derived.Test.YtjebipmpcabfbaaQSway
import Derived.Test.YtjebipmpcabfbaaStFnExactSwing1
namespace Go.Proofs.Ytjebipmpcabfbaa.Pure
open Go.RowKit Go.Proofs.Ytjebipmpcabfbaa Go.Proofs.Ytjebipmpcabfbaa.PA Go.Proofs.Ytjebipmpcabfbaa.Pu Go.Proofs.YtjebipmpcabfbaaW.PrintWords Go.Proofs.YtjebipmpcabfbaaW.PrintLast Go.Proofs.YtjebipmpcabfbaaW.PrintMore
set_option linter.unusedVariables false
set_option linter.unusedSimpArgs false
theorem wf64 {n : Int} (h : (Lit.int .i64 n).wf = true) : -9223372036854775808 ≤ n ∧ n ≤ 9223372036854775807 := by
  simp [Lit.wf, IntKind.min, IntKind.max, IntKind.signed, IntKind.bits] at h
  omega
theorem swing_same (k : Nat) (a b c d : Int) (h : a ≤ 9223372036854775807 ∧ -9223372036854775808 ≤ a) : ∃ v : Int × Int × Int × Bool, spec_Swing1.f (k + 1) a b c d = some v ∧ impl_Swing1.f (k + 1) a b c d = some v := by
  simp only [spec_Swing1.f, impl_Swing1.f, SwayOk1, SwayOk2, l1In_eq, in_eq, Option.bind_some, spec_Swing1.j0, impl_Swing1.j0]
  by_cases g : (inB a (-1000000) 1000000 && inB b (-1000000) 1000000 && inB c (-1000000) 1000000) = true ∧ inB d (-1000) 1000 = true
  · have g2 := g
    simp only [Bool.and_eq_true, inB_t] at g2
    rw [g.1, g.2]
    simp only [if_true, Bool.not_true]
    rw [wr (x := d - b) (by omega), wr (x := b - d) (by omega), wr (x := -(b - d)) (by omega), show -(b - d) = d - b by omega]
    rw [if_neg (by simp)]
    generalize (inB (wrap64 (a + d)) (-1000000) 1000000 && inB c (-1000000) 1000000 && inB (d - b) (-1000000) 1000000) = u
    cases u <;> exact ⟨_, rfl, rfl⟩
  · revert g
    generalize (inB a (-1000000) 1000000 && inB b (-1000000) 1000000 && inB c (-1000000) 1000000) = u
    generalize inB d (-1000) 1000 = v
    intro g
    cases u <;> cases v <;> first | exact absurd ⟨rfl, rfl⟩ g | exact ⟨_, rfl, rfl⟩
theorem Pure_Swing1 (a b c d : Int) (h : a ≤ 9223372036854775807 ∧ -9223372036854775808 ≤ a) : laws_FnExactSwing1.f 1 a b c d = some true := by
  obtain ⟨v, h1, h2⟩ := swing_same 0 a b c d h
  simp [laws_FnExactSwing1.f, laws_toSway.f, h1, h2, laws_eqSway.f]

theorem FnExactSwing1 : laws_FnExactSwing1.Pure := fun x a g _ => ⟨1, Pure_Swing1 _ _ _ _ (by have := wf64 g.1; omega)⟩

end Go.Proofs.Ytjebipmpcabfbaa.Pure
