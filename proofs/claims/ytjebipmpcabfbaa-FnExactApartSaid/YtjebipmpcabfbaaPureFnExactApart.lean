/- The pure statement of FnExactApart, proved: for every input that the opening lets in, the printed law comes to true. -/
import Derived.Test.YtjebipmpcabfbaaPu0
import Derived.Test.YtjebipmpcabfbaaPAx8
import Derived.Test.YtjebipmpcabfbaaPAx9
import Derived.Test.YtjebipmpcabfbaaQBase
import Derived.Test.YtjebipmpcabfbaaStFnExactApart
namespace Go.Proofs.Ytjebipmpcabfbaa.Pure
open Go.RowKit Go.Proofs.Ytjebipmpcabfbaa Go.Proofs.Ytjebipmpcabfbaa.PA Go.Proofs.Ytjebipmpcabfbaa.Pu Go.Proofs.YtjebipmpcabfbaaW.PrintWords Go.Proofs.YtjebipmpcabfbaaW.PrintLast Go.Proofs.YtjebipmpcabfbaaW.PrintMore
set_option linter.unusedVariables false
set_option linter.unusedSimpArgs false
theorem Pure_Apart (a b : Int) : laws_FnExactApart.f 2 a b = some true := by
  simp only [laws_FnExactApart.f, spec_Apart.f, impl_Apart.f, l1In_eq, in_eq, Option.bind_some]
  by_cases h : inB a 0 9 = true ∧ inB b 0 9 = true
  · obtain ⟨h1, h2⟩ := h
    have k1 := inB_t.1 h1; have k2 := inB_t.1 h2
    obtain ⟨ka, ka'⟩ := k1; obtain ⟨kb, kb'⟩ := k2
    obtain ⟨m, rfl⟩ := Int.eq_ofNat_of_zero_le ka
    obtain ⟨n, rfl⟩ := Int.eq_ofNat_of_zero_le kb
    have hm : m < 10 := by omega
    have hn : n < 10 := by omega
    clear ka ka' kb kb'
    have key : ∀ m : Fin 10, ∀ n : Fin 10, (spec_Apart.j0 2 (m.1 : Int) (n.1 : Int) false).isSome ∧ impl_Apart.j0 2 (m.1 : Int) (n.1 : Int) false = spec_Apart.j0 2 (m.1 : Int) (n.1 : Int) false := by
      unfold spec_Apart.j0 spec_Apart.j1 impl_Apart.j0 impl_Apart.j1 spec_l1Least.f mx mn wrap64
      decide
    obtain ⟨k1, k2⟩ := key ⟨m, hm⟩ ⟨n, hn⟩
    obtain ⟨r, hr⟩ := Option.isSome_iff_exists.1 k1
    rw [h1, h2]
    simp only [if_true, Bool.not_true]
    simp only at hr k2
    rw [k2, hr]
    simp
  · have : inB a 0 9 = false ∨ inB b 0 9 = false := by
      cases h1 : inB a 0 9 <;> cases h2 : inB b 0 9 <;> simp_all
    rcases this with h1 | h1
    · rw [h1]; simp [spec_Apart.j0, impl_Apart.j0]
    · rw [h1]; cases inB a 0 9 <;> simp [spec_Apart.j0, impl_Apart.j0]
theorem FnExactApart : laws_FnExactApart.Pure := fun _ _ _ _ => ⟨2, Pure_Apart _ _⟩

end Go.Proofs.Ytjebipmpcabfbaa.Pure
