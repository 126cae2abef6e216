/- The pure statement of FnExactFindBox, proved: for every input that the opening lets in, the printed law comes to true. -/
import Derived.Test.YtfeaabdighopbabPu0
import Derived.Test.YtfeaabdighopbabPBx1
import Derived.Test.YtfeaabdighopbabPBx4
import Derived.Test.YtfeaabdighopbabPBx6
import Derived.Test.YtfeaabdighopbabPBx10
import Derived.Test.YtfeaabdighopbabBQBase
import Derived.Test.YtfeaabdighopbabBQConvIntS
import Derived.Test.YtfeaabdighopbabBQYards
import Derived.Test.YtfeaabdighopbabBQFinds
import Derived.Test.YtfeaabdighopbabStFnExactFindBox
namespace Go.Proofs.Ytfeaabdighopbab.Pure
open Go.RowKit Go.Proofs.Ytfeaabdighopbab Go.Proofs.Ytfeaabdighopbab.PB Go.Proofs.Ytfeaabdighopbab.Pu Go.Proofs.YtfeaabdighopbabW.PrintWords Go.Proofs.YtfeaabdighopbabW.PrintLast Go.Proofs.YtfeaabdighopbabW.PrintMore
set_option linter.unusedVariables false
set_option linter.unusedSimpArgs false
theorem P_FindBox : ∀ (a : Int) (ls : List (List Int)) (x : Int), ls.length ≤ maxLen → (∀ s ∈ ls, s.length ≤ maxLen) → ∃ k, laws_FnExactFindBox.f k a ls x = some true := by
  intro a ls x hl hs
  refine Ev.rounds ?_
  unfold maxLen at hl hs
  simp only [laws_FnExactFindBox.f, laws_szYard.f]
  obtain ⟨s, h1, h2⟩ := szRows_ev ls (by omega) (fun s h => by have := hs s h; omega)
  by_cases h : s < 0
  · refine Ev.bind (Ev.bind h1 (ev_t h (Ev.now _))) (ev_t (by decide) (Ev.now _))
  · have h3 := h2 (by omega)
    have hto : Ev (fun k => laws_toYard.f k a ls) (a, ls) := by
      simp only [laws_toYard.f]
      exact Ev.bind (toRows_ev ls (by omega) (by omega)) (Ev.now _)
    have heq : Ev (fun k => laws_eqYard.f k a ls a ls) true := by
      simp only [laws_eqYard.f]
      exact ev_t (by first | rfl | trivial) (Ev.bind (eqRows_ev ls (by omega) (by omega)) (ev_t rfl (Ev.now _)))
    obtain ⟨v, v1, v2⟩ := find_same a ls (by omega) (by omega) x
    have u : Ev (fun k => laws_FnExactFindBox.j0 k false a ls a ls) true := Ev.step (fun _ => rfl) (by
      simp only [laws_FnExactFindBox.j0]
      exact ev_f (by simp) (Ev.bind hto (Ev.bind heq (ev_t rfl (Ev.now _)))))
    exact Ev.bind (Ev.bind h1 (ev_f h (Ev.now _))) (ev_f h (Ev.bind hto (Ev.bind v1 (Ev.bind hto (Ev.bind v2 (ev_t rfl (ev_t rfl (by simpa using u))))))))
theorem FnExactFindBox : laws_FnExactFindBox.Pure := fun x b g _ => P_FindBox x.f0 x.f1 b g.2.1 fun s hs => (g.2.2 s hs).1

end Go.Proofs.Ytfeaabdighopbab.Pure
