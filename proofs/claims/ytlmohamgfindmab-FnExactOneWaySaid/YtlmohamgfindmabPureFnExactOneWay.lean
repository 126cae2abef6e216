/- The pure statement of FnExactOneWay, proved: for every input that the opening lets in, the printed law comes to true. -/
import Derived.Test.YtlmohamgfindmabPu0
import Derived.Test.YtlmohamgfindmabPAx2
import Derived.Test.YtlmohamgfindmabPAx4
import Derived.Test.YtlmohamgfindmabPAx5
import Derived.Test.YtlmohamgfindmabPAx6
import Derived.Test.YtlmohamgfindmabPAx7
import Derived.Test.YtlmohamgfindmabQBase
import Derived.Test.YtlmohamgfindmabStFnExactOneWay
namespace Go.Proofs.Ytlmohamgfindmab.Pure
open Go.RowKit Go.Proofs.Ytlmohamgfindmab Go.Proofs.Ytlmohamgfindmab.PA Go.Proofs.Ytlmohamgfindmab.Pu Go.Proofs.YtlmohamgfindmabW.PrintWords Go.Proofs.YtlmohamgfindmabW.PrintLast Go.Proofs.YtlmohamgfindmabW.PrintMore
set_option linter.unusedVariables false
set_option linter.unusedSimpArgs false
theorem oneway_in : ∀ w h : Fin 9, laws_FnExactOneWay.f 1000 ((w.1 : Int) + 2) ((h.1 : Int) + 2) = some true := by
  decide +kernel
theorem P_OneWay : ∀ a b : Int, ∃ k, laws_FnExactOneWay.f k a b = some true := by
  intro a b
  by_cases h : inB a 2 10 = true ∧ inB b 2 10 = true
  · have h1 := inB_t.1 h.1; have h2 := inB_t.1 h.2
    refine ⟨1000, ?_⟩
    have := oneway_in ⟨(a - 2).toNat, by omega⟩ ⟨(b - 2).toNat, by omega⟩
    simp only at this
    rw [show (((a - 2).toNat : Nat) : Int) + 2 = a by omega, show (((b - 2).toNat : Nat) : Int) + 2 = b by omega] at this
    exact this
  · have s1 : ∀ k, spec_OneWay.f (k + 1) a b = some (0, 0, [], false) := by
      intro k
      simp only [spec_OneWay.f, l1In_eq, Option.bind_some, spec_OneWay.j0]
      cases h1 : inB a 2 10 <;> cases h2 : inB b 2 10 <;> simp_all
    have s2 : ∀ k, impl_OneWay.f (k + 1) a b = some (0, 0, [], false) := by
      intro k
      simp only [impl_OneWay.f, in_eq, Option.bind_some, impl_OneWay.j0]
      cases h1 : inB a 2 10 <;> cases h2 : inB b 2 10 <;> simp_all
    refine ⟨10, ?_⟩
    have e1 : laws_eqFloor.f 10 0 0 [] 0 0 [] = some true := by decide +kernel
    have e2 : laws_eqFloor.f 9 0 0 [] 0 0 [] = some true := by decide +kernel
    have m1 : laws_markFloor.f 9 0 0 [] 1 = some (1, []) := by decide +kernel
    have d1 : laws_heldFloor.f 9 0 0 [] 1 = some 1 := by decide +kernel
    have d2 : laws_heldFloor.f 8 0 0 [] 1 = some 1 := by decide +kernel
    simp only [laws_FnExactOneWay.f, s1 9, s2 9, Option.bind_some, e1, if_true, laws_FnExactOneWay.j0, m1, d1, s2 8, e2, laws_FnExactOneWay.j1, d2]
    decide
theorem FnExactOneWay : laws_FnExactOneWay.Pure := fun a b _ _ => P_OneWay a b

end Go.Proofs.Ytlmohamgfindmab.Pure
