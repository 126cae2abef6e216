/- The pure statement of FnExactBoxName, proved: for every input that the opening lets in, the printed law comes to true. -/
import Derived.Test.YtlmohamgfindmaaPu0
import Derived.Test.YtlmohamgfindmaaPAx24
import Derived.Test.YtlmohamgfindmaaQBox9
import Derived.Test.YtlmohamgfindmaaStFnExactBoxName
namespace Go.Proofs.Ytlmohamgfindmaa.Pure
open Go.RowKit Go.Proofs.Ytlmohamgfindmaa Go.Proofs.Ytlmohamgfindmaa.PA Go.Proofs.Ytlmohamgfindmaa.Pu Go.Proofs.YtlmohamgfindmaaW.PrintWords Go.Proofs.YtlmohamgfindmaaW.PrintLast Go.Proofs.YtlmohamgfindmaaW.PrintMore
set_option linter.unusedVariables false
set_option linter.unusedSimpArgs false
theorem P_BoxName : ∀ s : ByteArray, ∃ k, laws_FnExactBoxName.f k s = some true := by
  intro s
  refine Ev.rounds ?_
  simp only [laws_FnExactBoxName.f]
  by_cases h : (s.size : Int) > 1048576
  · exact ev_t h (Ev.now _)
  · obtain ⟨v, h1, h2⟩ := boxName_same s
    exact ev_f h (Ev.bind h1 (Ev.bind h2 (ev_f (by simp) (Ev.now _))))
theorem FnExactBoxName : laws_FnExactBoxName.Pure := fun s _ => P_BoxName s

end Go.Proofs.Ytlmohamgfindmaa.Pure
