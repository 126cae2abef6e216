/- The pure statement of FnExactBoxOk, proved: for every input that the opening lets in, the printed law comes to true. -/
import Derived.Test.YtlmohamgfindmabPu0
import Derived.Test.YtlmohamgfindmabPAx8
import Derived.Test.YtlmohamgfindmabPAx9
import Derived.Test.YtlmohamgfindmabPAx11
import Derived.Test.YtlmohamgfindmabQBox
import Derived.Test.YtlmohamgfindmabStFnExactBoxOk
namespace Go.Proofs.Ytlmohamgfindmab.Pure
open Go.RowKit Go.Proofs.Ytlmohamgfindmab Go.Proofs.Ytlmohamgfindmab.PA Go.Proofs.Ytlmohamgfindmab.Pu Go.Proofs.YtlmohamgfindmabW.PrintWords Go.Proofs.YtlmohamgfindmabW.PrintLast Go.Proofs.YtlmohamgfindmabW.PrintMore
set_option linter.unusedVariables false
set_option linter.unusedSimpArgs false
theorem P_BoxOk : ∀ (n : ByteArray) (w c : Int) (d : Bool) (f t : Int), n.size ≤ maxLen → ∃ k, laws_FnExactBoxOk.f k n w c d f t = some true := by
  intro n w c d f t hn
  refine Ev.rounds ?_
  unfold maxLen at hn
  simp only [laws_FnExactBoxOk.f, laws_szBox.f, laws_toBox.f, Option.bind_some]
  rw [wr (by omega)]
  obtain ⟨v, h1, h2⟩ := boxOk_same n w c d f t
  by_cases h : (n.size : Int) ≤ 1048576
  · rw [if_neg (by omega)]
    simp only [Option.bind_some]
    exact ev_f (by omega) (Ev.bind h1 (Ev.bind h2 (ev_f (by simp) (Ev.now _))))
  · rw [if_pos (by omega)]
    simp only [Option.bind_some]
    exact ev_t (by omega) (Ev.now _)
theorem FnExactBoxOk : laws_FnExactBoxOk.Pure := fun x h => P_BoxOk _ _ _ _ _ _ h.1

end Go.Proofs.Ytlmohamgfindmab.Pure
