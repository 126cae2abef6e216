/- The pure statement of FnExactWayCost, proved: for every input that the opening lets in, the printed law comes to true. -/
import Derived.Test.YtlmohamgfindmacPu0
import Derived.Test.YtlmohamgfindmacPAx0
import Derived.Test.YtlmohamgfindmacPAx40
import Derived.Test.YtlmohamgfindmacQWays
import Derived.Test.YtlmohamgfindmacQSeas
import Derived.Test.YtlmohamgfindmacStFnExactWayCost
namespace Go.Proofs.Ytlmohamgfindmac.Pure
open Go.RowKit Go.Proofs.Ytlmohamgfindmac Go.Proofs.Ytlmohamgfindmac.PA Go.Proofs.Ytlmohamgfindmac.Pu Go.Proofs.YtlmohamgfindmacW.PrintWords Go.Proofs.YtlmohamgfindmacW.PrintLast Go.Proofs.YtlmohamgfindmacW.PrintMore
set_option linter.unusedVariables false
set_option linter.unusedSimpArgs false
theorem P_WayCost : ∀ (x : S93) (w : List Int), x.f2.length ≤ maxLen → x.f3.length ≤ maxLen → ∃ k, laws_FnExactWayCost.f k x.f0 x.f1 x.f2 x.f3 w = some true := by
  intro x w hl hf
  refine Ev.rounds ?_
  unfold maxLen at hl hf
  simp only [laws_FnExactWayCost.f]
  by_cases hw : (w.length : Int) > 1048576
  · exact ev_t hw (Ev.now _)
  refine ev_f hw ?_
  obtain ⟨s, hs, hs2⟩ := szSea_ev x.f0 x.f1 x.f2 x.f3 (by omega) (by omega)
  simp only [hs, Option.bind_some]
  by_cases h : s < 0
  · exact ev_t h (Ev.now _)
  · obtain ⟨h1, h2⟩ := hs2 (by omega)
    have ht := toSea_ev x.f0 x.f1 x.f2 x.f3 h1 h2
    have h3 : (x.f3.map cClosed).length ≤ 1048576 := by simp; omega
    have hti := toIntS_id w (by omega)
    obtain ⟨v, v1, v2, _⟩ := way_same x.f0 x.f1 x.f2 (x.f3.map cClosed) w h1 h3 (by omega)
    have fin : Ev (fun k => laws_FnExactWayCost.j0 k w w false x.f0 x.f1 x.f2 x.f3 x.f0 x.f1 x.f2 (x.f3.map cClosed)) true := by
      refine Ev.step (fun _ => rfl) ?_
      simp only [laws_FnExactWayCost.j0]
      exact ev_f (by simp) (Ev.bind ht (Ev.bind (eqSea_ev _ _ _ _ h1 h3) (ev_t rfl (Ev.bind hti (Ev.bind (eqIntS_ev w (by omega)) (ev_t rfl (Ev.now _)))))))
    exact ev_f h (Ev.bind ht (Ev.bind hti (Ev.bind v1 (Ev.bind ht (Ev.bind hti (Ev.bind v2 (ev_t rfl (by simpa using fin))))))))
theorem FnExactWayCost : laws_FnExactWayCost.Pure := fun x l h h2 => P_WayCost x l h.2.2.1.1 h.2.2.2.1

end Go.Proofs.Ytlmohamgfindmac.Pure
