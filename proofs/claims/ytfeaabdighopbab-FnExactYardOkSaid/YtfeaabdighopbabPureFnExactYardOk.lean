/- The pure statement of FnExactYardOk, proved: for every input that the opening lets in, the printed law comes to true. -/
import Derived.Test.YtfeaabdighopbabPu0
import Derived.Test.YtfeaabdighopbabPBx1
import Derived.Test.YtfeaabdighopbabPBx4
import Derived.Test.YtfeaabdighopbabPBx6
import Derived.Test.YtfeaabdighopbabPBx7
import Derived.Test.YtfeaabdighopbabBQBase
import Derived.Test.YtfeaabdighopbabBQConvIntS
import Derived.Test.YtfeaabdighopbabBQYards
import Derived.Test.YtfeaabdighopbabStFnExactYardOk
namespace Go.Proofs.Ytfeaabdighopbab.Pure
open Go.RowKit Go.Proofs.Ytfeaabdighopbab Go.Proofs.Ytfeaabdighopbab.PB Go.Proofs.Ytfeaabdighopbab.Pu Go.Proofs.YtfeaabdighopbabW.PrintWords Go.Proofs.YtfeaabdighopbabW.PrintLast Go.Proofs.YtfeaabdighopbabW.PrintMore
set_option linter.unusedVariables false
set_option linter.unusedSimpArgs false
theorem P_YardOk : ∀ (a : Int) (ls : List (List Int)), ls.length ≤ maxLen → (∀ s ∈ ls, s.length ≤ maxLen) → ∃ k, laws_FnExactYardOk.f k a ls = some true := by
  intro a ls hl hs
  refine Ev.rounds ?_
  unfold maxLen at hl hs
  simp only [laws_FnExactYardOk.f, laws_szYard.f]
  obtain ⟨s, h1, h2⟩ := szRows_ev ls (by omega) (fun s h => by have := hs s h; omega)
  by_cases h : s < 0
  · refine Ev.bind (Ev.bind h1 (ev_t h (Ev.now _))) (ev_t (by decide) (Ev.now _))
  · have h3 := h2 (by omega)
    have hto : Ev (fun k => laws_toYard.f k a ls) (a, ls) := by
      simp only [laws_toYard.f]
      exact Ev.bind (toRows_ev ls (by omega) (by omega)) (Ev.now _)
    have heq : Ev (fun k => laws_eqYard.f k a ls a ls) true := by
      simp only [laws_eqYard.f]
      exact ev_t (by first | rfl | trivial) (Ev.bind (eqRows_ev ls (by omega) (by omega)) (ev_t rfl (Ev.now _)))
    refine Ev.bind (Ev.bind h1 (ev_f h (Ev.now _))) (ev_f h (Ev.bind hto (Ev.bind (specYard_ev a ls (by omega) (by omega)) (Ev.bind hto ?_))))
    simp only [implYard, Option.bind_some]
    exact ev_f (by simp) (Ev.bind hto (Ev.bind heq (ev_t rfl (Ev.now _))))
theorem FnExactYardOk : laws_FnExactYardOk.Pure := fun x g => P_YardOk x.f0 x.f1 g.2.1 fun s hs => (g.2.2 s hs).1

end Go.Proofs.Ytfeaabdighopbab.Pure
