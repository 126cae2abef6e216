/- The pure statement of FnExactBerth, proved: for every input that the opening lets in, the printed law comes to true. -/
import Derived.Test.YtfeaabdighopbaaPu0
import Derived.Test.YtfeaabdighopbaaPGx0
import Derived.Test.YtfeaabdighopbaaPGx15
import Derived.Test.YtfeaabdighopbaaGQBase
import Derived.Test.YtfeaabdighopbaaGQConvCallS
import Derived.Test.YtfeaabdighopbaaGQCalls
import Derived.Test.YtfeaabdighopbaaGQMeets
import Derived.Test.YtfeaabdighopbaaGQCallsB
import Derived.Test.YtfeaabdighopbaaGQBerthQ
import Derived.Test.YtfeaabdighopbaaStFnExactBerth
namespace Go.Proofs.Ytfeaabdighopbaa.Pure
open Go.RowKit Go.Proofs.Ytfeaabdighopbaa Go.Proofs.Ytfeaabdighopbaa.PG Go.Proofs.Ytfeaabdighopbaa.Pu Go.Proofs.YtfeaabdighopbaaW.PrintWords Go.Proofs.YtfeaabdighopbaaW.PrintLast Go.Proofs.YtfeaabdighopbaaW.PrintMore
set_option linter.unusedVariables false
set_option linter.unusedSimpArgs false
theorem P_Berth : ∀ (g : Int) (l : List S93) (id : Int), l.length ≤ maxLen → ∃ k, laws_FnExactBerth.f k g l id = some true := by
  intro g l id hl
  refine Ev.rounds ?_
  unfold maxLen at hl
  simp only [laws_FnExactBerth.f]
  obtain ⟨s, hs, hs2⟩ := szCall_ev l (by omega)
  simp only [hs, Option.bind_some]
  by_cases h : s < 0
  · exact ev_t h (Ev.now _)
  · have h1 := hs2 (by omega)
    have ht := toCallS_ev l (by omega)
    have h3 : (l.map cCall).length ≤ 1048576 := by simp; omega
    obtain ⟨v, v1, v2⟩ := berth_same g (l.map cCall) id h3
    have u : Ev (fun k => laws_FnExactBerth.j0 k l (l.map cCall) false) true := Ev.step (fun _ => rfl) (by
      simp only [laws_FnExactBerth.j0]
      exact ev_f (by simp) (Ev.bind ht (Ev.bind (eqCallS_ev _ (by omega)) (ev_t rfl (Ev.now _)))))
    exact ev_f h (Ev.bind ht (Ev.bind v1 (Ev.bind ht (Ev.bind v2 (ev_t rfl (by simpa using u))))))
theorem FnExactBerth : laws_FnExactBerth.Pure := fun g l id _ h _ => P_Berth g l id h.1

end Go.Proofs.Ytfeaabdighopbaa.Pure
