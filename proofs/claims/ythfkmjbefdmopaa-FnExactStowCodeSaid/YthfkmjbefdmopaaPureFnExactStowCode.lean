/- The pure statement of FnExactStowCode, proved: for every input that the opening lets in, the printed law comes to true. -/
import Derived.Test.YthfkmjbefdmopaaPu0
import Derived.Test.YthfkmjbefdmopaaPAx0
import Derived.Test.YthfkmjbefdmopaaPAx2
import Derived.Test.YthfkmjbefdmopaaPAx24
import Derived.Test.YthfkmjbefdmopaaQAll
import Derived.Test.YthfkmjbefdmopaaStFnExactStowCode
namespace Go.Proofs.Ythfkmjbefdmopaa.Pure
open Go.RowKit Go.Proofs.Ythfkmjbefdmopaa Go.Proofs.Ythfkmjbefdmopaa.PA Go.Proofs.Ythfkmjbefdmopaa.Pu Go.Proofs.YthfkmjbefdmopaaW.PrintWords Go.Proofs.YthfkmjbefdmopaaW.PrintLast Go.Proofs.YthfkmjbefdmopaaW.PrintMore
set_option linter.unusedVariables false
set_option linter.unusedSimpArgs false
theorem P_StowCode : ∀ (l0 : List S47) (l1 : List S41), l0.length ≤ maxLen → l1.length ≤ maxLen → (∀ x ∈ l1, x.f0.f0.size ≤ 9223372036854775807) → ∃ k, laws_FnExactStowCode.f k l0 l1 = some true := by
  intro l0 l1 h0 h1 hg
  refine Ev.rounds ?_
  unfold maxLen at h0 h1
  simp only [laws_FnExactStowCode.f, laws_szHatchS.f]
  rw [wr (by omega)]
  by_cases c : (l0.length : Int) ≤ 1048576
  · rw [if_neg (by omega)]
    simp only [Option.bind_some]
    refine ev_f (by omega) ?_
    obtain ⟨s, hs, hs2⟩ := szStowS_ev l1 hg (by omega) (1048576 - (l0.length : Int)) (by omega) (by omega)
    refine Ev.bind hs ?_
    by_cases d : s < 0
    · exact ev_t d (Ev.now _)
    · have hl1 := hs2 (by omega)
      obtain ⟨v, v1, v2⟩ := stow_same (l0.map cHatch) (l1.map cStow) (by simp; omega) (by simp; omega)
      have t0 := toHatchS_ev l0 (by omega)
      have t1 := toStowS_ev l1 (by omega)
      refine ev_f d (Ev.bind t0 (Ev.bind t1 (Ev.bind v1 (Ev.bind t0 (Ev.bind t1 (Ev.bind v2 (ev_t rfl (Ev.step (fun _ => rfl) ?_))))))))
      simp only [laws_FnExactStowCode.j0, bne_self_eq_false]
      refine ev_f (by decide) (Ev.bind t0 (Ev.bind (eqHatchS_ev _ (by simp; omega)) (ev_t rfl (Ev.bind t1 (Ev.bind (eqStowS_ev _ (by simp; omega)) (ev_t rfl (Ev.now _)))))))
  · rw [if_pos (by omega)]
    simp only [Option.bind_some]
    exact ev_t (by omega) (Ev.now _)
theorem FnExactStowCode : laws_FnExactStowCode.Pure := fun l0 l1 h0 h1 => P_StowCode l0 l1 h0.1 h1.1 (fun x hx => by have := (h1.2 x hx).1.1; unfold maxLen at this; omega)

end Go.Proofs.Ythfkmjbefdmopaa.Pure
