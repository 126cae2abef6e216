/- The pure statement of FnExactBlocking, proved: for every input that the opening lets in, the printed law comes to true. -/
import Derived.Test.YtfeaabdighopbaaPu0
import Derived.Test.YtfeaabdighopbaaPBx1
import Derived.Test.YtfeaabdighopbaaPBx6
import Derived.Test.YtfeaabdighopbaaPBx8
import Derived.Test.YtfeaabdighopbaaPBx9
import Derived.Test.YtfeaabdighopbaaPBx10
import Derived.Test.YtfeaabdighopbaaBQBase
import Derived.Test.YtfeaabdighopbaaBQConvIntS
import Derived.Test.YtfeaabdighopbaaBQYards
import Derived.Test.YtfeaabdighopbaaBQBlocks
import Derived.Test.YtfeaabdighopbaaStFnExactBlocking
namespace Go.Proofs.Ytfeaabdighopbaa.Pure
open Go.RowKit Go.Proofs.Ytfeaabdighopbaa Go.Proofs.Ytfeaabdighopbaa.PB Go.Proofs.Ytfeaabdighopbaa.Pu Go.Proofs.YtfeaabdighopbaaW.PrintWords Go.Proofs.YtfeaabdighopbaaW.PrintLast Go.Proofs.YtfeaabdighopbaaW.PrintMore
set_option linter.unusedVariables false
set_option linter.unusedSimpArgs false
theorem P_Blocking : ∀ (a : Int) (ls : List (List Int)) (o : List Int), ls.length ≤ maxLen → (∀ s ∈ ls, s.length ≤ maxLen) → o.length ≤ maxLen → (o.all impl_turnsOf.wfB && ls.all (fun s => s.all impl_turnsOf.wfB)) = true → ∃ k, laws_FnExactBlocking.f k a ls o = some true := by
  intro a ls o hl hs ho hw
  refine Ev.rounds ?_
  unfold maxLen at hl hs ho
  simp only [laws_FnExactBlocking.f, laws_szYard.f]
  by_cases h0 : (o.length : Int) > 1048576
  · exact ev_t h0 (Ev.now _)
  refine ev_f h0 ?_
  obtain ⟨s, h1, h2⟩ := szRows_ev ls (by omega) (fun s h => by have := hs s h; omega)
  by_cases h : s < 0
  · refine Ev.bind (Ev.bind h1 (ev_t h (Ev.now _))) (ev_t (by decide) (Ev.now _))
  · have h3 := h2 (by omega)
    have hto : Ev (fun k => laws_toYard.f k a ls) (a, ls) := by
      simp only [laws_toYard.f]
      exact Ev.bind (toRows_ev ls (by omega) (by omega)) (Ev.now _)
    have heq : Ev (fun k => laws_eqYard.f k a ls a ls) true := by
      simp only [laws_eqYard.f]
      exact ev_t (by first | rfl | trivial) (Ev.bind (eqRows_ev ls (by omega) (by omega)) (ev_t rfl (Ev.now _)))
    have hti := toIntS_id o (by omega)
    have hei := eqIntS_ev o (by omega)
    obtain ⟨v, v1, v2⟩ := block_same a ls o (by omega) (by omega) (by omega) hw
    have u : Ev (fun k => laws_FnExactBlocking.j0 k o o false a ls a ls) true := Ev.step (fun _ => rfl) (by
      simp only [laws_FnExactBlocking.j0]
      exact ev_f (by simp) (Ev.bind hto (Ev.bind heq (ev_t rfl (Ev.bind hti (Ev.bind hei (ev_t rfl (Ev.now _))))))))
    refine Ev.bind (Ev.bind h1 (ev_f h (Ev.now _))) (ev_f h (Ev.bind hto (Ev.bind hti (Ev.bind v1 (Ev.bind hto (Ev.bind hti ?_))))))
    simp only [v2, Option.bind_some]
    exact ev_t (by first | rfl | trivial) (by simpa using u)
theorem wfB_of {x : Int} (h : (Lit.int .i64 x).wf = true) : impl_turnsOf.wfB x = true := by
  simp [Lit.wf, IntKind.min, IntKind.max, IntKind.signed, IntKind.bits] at h
  simp only [impl_turnsOf.wfB, Bool.and_eq_true, decide_eq_true_eq]
  omega
theorem FnExactBlocking : laws_FnExactBlocking.Pure := fun x o g h => P_Blocking x.f0 x.f1 o g.2.1 (fun s hs => (g.2.2 s hs).1) h.1 (Bool.and_eq_true_iff.2 ⟨List.all_eq_true.2 fun z hz => wfB_of (h.2 z hz), List.all_eq_true.2 fun s hs => List.all_eq_true.2 fun z hz => wfB_of ((g.2.2 s hs).2 z hz)⟩)

end Go.Proofs.Ytfeaabdighopbaa.Pure
