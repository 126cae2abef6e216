/- The pure statement of FnExactClear17, proved: for every input that the opening lets in, the printed law comes to true. -/
import Derived.Test.YtfeaabdighopbaaPu0
import Derived.Test.YtfeaabdighopbaaPGx0
import Derived.Test.YtfeaabdighopbaaPGx10
import Derived.Test.YtfeaabdighopbaaGQBase
import Derived.Test.YtfeaabdighopbaaGQConvCallS
import Derived.Test.YtfeaabdighopbaaGQCalls
import Derived.Test.YtfeaabdighopbaaGQMeets
import Derived.Test.YtfeaabdighopbaaStFnExactClear17
namespace Go.Proofs.Ytfeaabdighopbaa.Pure
open Go.RowKit Go.Proofs.Ytfeaabdighopbaa Go.Proofs.Ytfeaabdighopbaa.PG Go.Proofs.Ytfeaabdighopbaa.Pu Go.Proofs.YtfeaabdighopbaaW.PrintWords Go.Proofs.YtfeaabdighopbaaW.PrintLast Go.Proofs.YtfeaabdighopbaaW.PrintMore
set_option linter.unusedVariables false
set_option linter.unusedSimpArgs false
theorem P_Clear17 : ∀ (g : Int) (l : List S93), l.length ≤ maxLen → ∃ k, laws_FnExactClear17.f k g l = some true := by
  intro g l hl
  refine Ev.rounds ?_
  unfold maxLen at hl
  simp only [laws_FnExactClear17.f]
  obtain ⟨s, hs, hs2⟩ := szCall_ev l (by omega)
  simp only [hs, Option.bind_some]
  by_cases h : s < 0
  · exact ev_t h (Ev.now _)
  · have h1 := hs2 (by omega)
    have ht := toCallS_ev l (by omega)
    have h3 : (l.map cCall).length ≤ 1048576 := by simp; omega
    obtain ⟨v, v1, v2⟩ := clear_same g (l.map cCall) h3
    exact ev_f h (Ev.bind ht (Ev.bind v1 (Ev.bind ht (Ev.bind v2 (ev_f (by simp) (Ev.bind ht (Ev.bind (eqCallS_ev _ (by omega)) (ev_t rfl (Ev.now _)))))))))
theorem FnExactClear17 : laws_FnExactClear17.Pure := fun g l _ h => P_Clear17 g l h.1

end Go.Proofs.Ytfeaabdighopbaa.Pure
