/- The pure statement of FnExactChartOk, proved: for every input that the opening lets in, the printed law comes to true. -/
import Derived.Test.YtlmohamgfindmacPu0
import Derived.Test.YtlmohamgfindmacPAx0
import Derived.Test.YtlmohamgfindmacPAx11
import Derived.Test.YtlmohamgfindmacQCharts
import Derived.Test.YtlmohamgfindmacStFnExactChartOk
namespace Go.Proofs.Ytlmohamgfindmac.Pure
open Go.RowKit Go.Proofs.Ytlmohamgfindmac Go.Proofs.Ytlmohamgfindmac.PA Go.Proofs.Ytlmohamgfindmac.Pu Go.Proofs.YtlmohamgfindmacW.PrintWords Go.Proofs.YtlmohamgfindmacW.PrintLast Go.Proofs.YtlmohamgfindmacW.PrintMore
set_option linter.unusedVariables false
set_option linter.unusedSimpArgs false
theorem P_ChartOk : ∀ (x : S44), (∀ y ∈ x.f3, y.f4.size ≤ 9223372036854775807) → x.f2.length ≤ maxLen → x.f3.length ≤ maxLen → ∃ k, laws_FnExactChartOk.f k x.f0 x.f1 x.f2 x.f3 x.f4 = some true := by
  intro x hg hl hf
  refine Ev.rounds ?_
  unfold maxLen at hl hf
  obtain ⟨s, hs, hs2⟩ := szChart_ev x.f0 x.f1 x.f2 x.f3 x.f4 hg (by omega) (by omega)
  simp only [laws_FnExactChartOk.f]
  refine Ev.bind hs ?_
  by_cases h : s < 0
  · exact ev_t h (Ev.now _)
  · obtain ⟨h1, h2⟩ := hs2 (by omega)
    have ht := toChart_ev x.f0 x.f1 x.f2 x.f3 x.f4 h1 h2
    have h3 : (x.f3.map cFeature).length ≤ 1048576 := by simp; omega
    exact ev_f h (Ev.bind ht (Ev.bind (chart1 _ _ _ _ _ h1 h3) (Ev.bind ht (Ev.bind (chart2 _ _ _ _ _ h1 h3) (ev_f (by simp) (Ev.bind ht (Ev.bind (eqChart_ev _ _ _ _ _ h1 h3) (ev_t rfl (Ev.now _)))))))))
theorem FnExactChartOk : laws_FnExactChartOk.Pure := fun x h => P_ChartOk x (fun y hy => by have := ((h.2.2.2.1).2 y hy).2.2.2.2; unfold maxLen at this; omega) h.2.2.1.1 h.2.2.2.1.1

end Go.Proofs.Ytlmohamgfindmac.Pure
