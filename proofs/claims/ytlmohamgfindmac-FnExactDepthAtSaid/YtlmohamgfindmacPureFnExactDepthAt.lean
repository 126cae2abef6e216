/- The pure statement of FnExactDepthAt, proved: for every input that the opening lets in, the printed law comes to true. -/
import Derived.Test.YtlmohamgfindmacPu0
import Derived.Test.YtlmohamgfindmacPAx0
import Derived.Test.YtlmohamgfindmacPAx27
import Derived.Test.YtlmohamgfindmacPAx28
import Derived.Test.YtlmohamgfindmacQCharts
import Derived.Test.YtlmohamgfindmacQBase
import Derived.Test.YtlmohamgfindmacStFnExactDepthAt
namespace Go.Proofs.Ytlmohamgfindmac.Pure
open Go.RowKit Go.Proofs.Ytlmohamgfindmac Go.Proofs.Ytlmohamgfindmac.PA Go.Proofs.Ytlmohamgfindmac.Pu Go.Proofs.YtlmohamgfindmacW.PrintWords Go.Proofs.YtlmohamgfindmacW.PrintLast Go.Proofs.YtlmohamgfindmacW.PrintMore
set_option linter.unusedVariables false
set_option linter.unusedSimpArgs false
theorem depth_same (a b : Int) (l : List Int) (f : List S128) (e p q : Int) (hl : l.length ≤ 1048576) (hf : f.length ≤ 1048576) : ∃ v, Ev (fun k => spec_DepthAt.f k a b l f e p q) v ∧ Ev (fun k => impl_DepthAt.f k a b l f e p q) v := by
  have c1 := chart1 a b l f e hl hf
  have c2 := chart2 a b l f e hl hf
  simp only [spec_DepthAt.f, impl_DepthAt.f, place1, place2, Option.bind_some]
  cases h : chartB a b l f e with
  | false =>
    rw [h] at c1 c2
    exact ⟨(0, false), Ev.bind c1 (ev_f (by simp) (Ev.now _)), Ev.bind c2 (ev_f (by simp) (Ev.now _))⟩
  | true =>
    rw [h] at c1 c2
    cases hp : (inB p 0 (wrap64 (a - 1)) && inB q 0 (wrap64 (b - 1))) with
    | false => exact ⟨(0, false), Ev.bind c1 (ev_t rfl (ev_f (by simp) (Ev.now _))), Ev.bind c2 (ev_t rfl (ev_f (by simp) (Ev.now _)))⟩
    | true =>
      simp only [chartB, Bool.and_eq_true, inB_t, decide_eq_true_eq] at h
      obtain ⟨ha, hb, hw, _⟩ := h
      have hab : 0 ≤ a * b ∧ a * b ≤ 144 := ⟨Int.mul_nonneg (by omega) (by omega), Int.le_trans (Int.mul_le_mul ha.2 hb.2 (by omega) (by omega)) (by omega)⟩
      rw [wr (by omega)] at hw
      rw [wr (x := a - 1) (by omega), wr (x := b - 1) (by omega)] at hp
      simp only [Bool.and_eq_true, inB_t] at hp
      obtain ⟨hp1, hq1⟩ := hp
      have hqa : 0 ≤ q * a := Int.mul_nonneg (by omega) (by omega)
      have hqb : (q + 1) * a ≤ b * a := Int.mul_le_mul_of_nonneg_right (by omega) (by omega)
      rw [Int.add_mul, Int.one_mul, Int.mul_comm b a] at hqb
      rw [wr (x := q * a) (by omega), wr (x := q * a + p) (by omega)]
      exact ⟨_, Ev.bind c1 (ev_t rfl (ev_t rfl (ev_t (by omega) (ev_t (by omega) (Ev.now _))))), Ev.bind c2 (ev_t rfl (ev_t rfl (ev_t (by omega) (ev_t (by omega) (Ev.now _)))))⟩
theorem P_DepthAt : ∀ (x : S44) (p q : Int), (∀ y ∈ x.f3, y.f4.size ≤ 9223372036854775807) → x.f2.length ≤ maxLen → x.f3.length ≤ maxLen → ∃ k, laws_FnExactDepthAt.f k x.f0 x.f1 x.f2 x.f3 x.f4 p q = some true := by
  intro x p q hg hl hf
  refine Ev.rounds ?_
  unfold maxLen at hl hf
  obtain ⟨s, hs, hs2⟩ := szChart_ev x.f0 x.f1 x.f2 x.f3 x.f4 hg (by omega) (by omega)
  simp only [laws_FnExactDepthAt.f]
  refine Ev.bind hs ?_
  by_cases h : s < 0
  · exact ev_t h (Ev.now _)
  · obtain ⟨h1, h2⟩ := hs2 (by omega)
    have ht := toChart_ev x.f0 x.f1 x.f2 x.f3 x.f4 h1 h2
    have h3 : (x.f3.map cFeature).length ≤ 1048576 := by simp; omega
    obtain ⟨v, v1, v2⟩ := depth_same x.f0 x.f1 x.f2 (x.f3.map cFeature) x.f4 p q h1 h3
    have fin : Ev (fun k => laws_FnExactDepthAt.j0 k false x.f0 x.f1 x.f2 x.f3 x.f4 x.f0 x.f1 x.f2 (x.f3.map cFeature) x.f4) true := by
      refine Ev.step (fun _ => rfl) ?_
      simp only [laws_FnExactDepthAt.j0]
      exact ev_f (by simp) (Ev.bind ht (Ev.bind (eqChart_ev _ _ _ _ _ h1 h3) (ev_t rfl (Ev.now _))))
    exact ev_f h (Ev.bind ht (Ev.bind v1 (Ev.bind ht (Ev.bind v2 (ev_t rfl (by simpa using fin))))))
theorem FnExactDepthAt : laws_FnExactDepthAt.Pure := fun x a b h _ _ => P_DepthAt x a b (fun y hy => by have := ((h.2.2.2.1).2 y hy).2.2.2.2; unfold maxLen at this; omega) h.2.2.1.1 h.2.2.2.1.1

end Go.Proofs.Ytlmohamgfindmac.Pure
