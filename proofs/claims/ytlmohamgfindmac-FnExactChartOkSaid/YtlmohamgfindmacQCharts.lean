/- Plain lemmas on the printed functions (Charts). -/
import Derived.Test.YtlmohamgfindmacPu0
import Derived.Test.YtlmohamgfindmacPAx0
import Derived.Test.YtlmohamgfindmacPAx2
import Derived.Test.YtlmohamgfindmacPAx3
import Derived.Test.YtlmohamgfindmacPAx4
import Derived.Test.YtlmohamgfindmacPAx5
import Derived.Test.YtlmohamgfindmacPAx6
import Derived.Test.YtlmohamgfindmacPAx7
import Derived.Test.YtlmohamgfindmacPAx10
import Derived.Test.YtlmohamgfindmacQBase
import Derived.Test.YtlmohamgfindmacQL3
import Derived.Test.YtlmohamgfindmacQConvIntS
import Derived.Test.YtlmohamgfindmacQConvFeatureS
namespace Go.Proofs.Ytlmohamgfindmac.Pu
open Go.RowKit Go.Proofs.Ytlmohamgfindmac Go.Proofs.Ytlmohamgfindmac.PA Go.Proofs.Ytlmohamgfindmac.Pu Go.Proofs.YtlmohamgfindmacW.PrintWords Go.Proofs.YtlmohamgfindmacW.PrintLast Go.Proofs.YtlmohamgfindmacW.PrintMore
set_option linter.unusedVariables false
set_option linter.unusedSimpArgs false
theorem szFeatureS_ev (l : List S180) (hg : ∀ x ∈ l, x.f4.size ≤ 9223372036854775807) (hl : l.length ≤ 9223372036854775807) (a : Int) (ha : 0 ≤ a) (ha2 : a ≤ 1048576) : ∃ v, Ev (fun k => laws_szFeatureS.f k l a) v ∧ (0 ≤ v → l.length ≤ 1048576) := by
  simp only [laws_szFeatureS.f]
  rw [wr (by omega)]
  by_cases h : (l.length : Int) ≤ a
  · have key : ∀ i, i ≤ l.length → ∀ a : Int, 0 ≤ a → a ≤ 1048576 → ∃ v, Ev (fun k => laws_szFeatureS.l0 k l a (i : Int)) v := by
      refine down ?_ ?_
      · intro a _ _
        refine ⟨a, Ev.step (fun _ => rfl) ?_⟩
        simp only [laws_szFeatureS.l0]
        exact ev_f (by omega) (Ev.now _)
      · intro i hi ih a h0 h1
        have hs : (rd_T180 l i).f4.size ≤ 9223372036854775807 := by
          simp only [rd_T180, Int.toNat_natCast, getD_at l z180 hi]
          exact hg _ (List.getElem_mem _)
        by_cases c : a - ((rd_T180 l i).f4.size : Int) < 0
        · refine ⟨-1, Ev.step (fun _ => rfl) ?_⟩
          simp only [laws_szFeatureS.l0, laws_szFeature.f]
          rw [wr (x := a - ((rd_T180 l i).f4.size : Int)) (by omega), if_pos c]
          exact ev_t (by omega) (ev_t (by omega) (Ev.bind (Ev.now _) (ev_t (by omega) (Ev.now _))))
        · obtain ⟨v, hv⟩ := ih (a - ((rd_T180 l i).f4.size : Int)) (by omega) (by omega)
          refine ⟨v, Ev.step (fun _ => rfl) ?_⟩
          simp only [laws_szFeatureS.l0, laws_szFeature.f]
          rw [wr (x := a - ((rd_T180 l i).f4.size : Int)) (by omega), if_neg c, wr (x := (i : Int) + 1) (by omega)]
          exact ev_t (by omega) (ev_t (by omega) (Ev.bind (Ev.now _) (ev_f (by omega) hv)))
    obtain ⟨v, hv⟩ := key 0 (Nat.zero_le _) (a - (l.length : Int)) (by omega) (by omega)
    exact ⟨v, ev_f (by omega) hv, fun _ => by omega⟩
  · exact ⟨-1, ev_t (by omega) (Ev.now _), fun h => by omega⟩
theorem szChart_ev (a b : Int) (l : List Int) (f : List S180) (e : Int) (hg : ∀ x ∈ f, x.f4.size ≤ 9223372036854775807) (hl : l.length ≤ 9223372036854775807) (hf : f.length ≤ 9223372036854775807) : ∃ v, Ev (fun k => laws_szChart.f k a b l f e 1048576) v ∧ (0 ≤ v → l.length ≤ 1048576 ∧ f.length ≤ 1048576) := by
  simp only [laws_szChart.f, laws_szIntS.f]
  rw [wr (by omega)]
  by_cases h : 1048576 - (l.length : Int) < 0
  · rw [if_pos h]
    exact ⟨-1, by simp only [Option.bind_some]; exact ev_t (by omega) (Ev.now _), fun h => by omega⟩
  · rw [if_neg h]
    obtain ⟨v, hv, h2⟩ := szFeatureS_ev f hg hf (1048576 - (l.length : Int)) (by omega) (by omega)
    simp only [Option.bind_some]
    by_cases c : v < 0
    · exact ⟨-1, ev_f h (Ev.bind hv (ev_t c (Ev.now _))), fun h => by omega⟩
    · exact ⟨v, ev_f h (Ev.bind hv (ev_f c (Ev.now _))), fun h3 => ⟨by omega, h2 h3⟩⟩
theorem toChart_ev (a b : Int) (l : List Int) (f : List S180) (e : Int) (hl : l.length ≤ 1048576) (hf : f.length ≤ 1048576) : Ev (fun k => laws_toChart.f k a b l f e) (a, b, l, f.map cFeature, e) := by
  simp only [laws_toChart.f]
  exact Ev.bind (toIntS_id l (by omega)) (Ev.bind (toFeatureS_ev f (by omega)) (Ev.now _))
theorem eqChart_ev (a b : Int) (l : List Int) (f : List S128) (e : Int) (hl : l.length ≤ 1048576) (hf : f.length ≤ 1048576) : Ev (fun k => laws_eqChart.f k a b l f e a b l f e) true := by
  simp only [laws_eqChart.f]
  exact ev_t (by first | rfl | trivial) (ev_t (by first | rfl | trivial) (Ev.bind (eqIntS_ev l (by omega)) (ev_t rfl (Ev.bind (eqFeatureS_ev f (by omega)) (ev_t rfl (ev_t (by first | rfl | trivial) (Ev.now _)))))))
def featB (a b : Int) (x : S128) : Bool := inB x.f0 1 1000000 && (inB x.f1 1 9 && ((inB x.f2 0 (wrap64 (a - 1)) && inB x.f3 0 (wrap64 (b - 1))) && decide ((x.f4.size : Int) ≤ 40)))
theorem place1 (a b : Int) (l : List Int) (f : List S128) (e p q : Int) : spec_l6Place.f a b l f e p q = some (inB p 0 (wrap64 (a - 1)) && inB q 0 (wrap64 (b - 1))) := by
  simp only [spec_l6Place.f, l1In_eq, Option.bind_some]
  cases inB p 0 (wrap64 (a - 1)) <;> cases inB q 0 (wrap64 (b - 1)) <;> rfl
theorem place2 (a b : Int) (l : List Int) (f : List S128) (e p q : Int) : impl_Chart_place.f a b l f e p q = some (inB p 0 (wrap64 (a - 1)) && inB q 0 (wrap64 (b - 1))) := by
  simp only [impl_Chart_place.f, in_eq, Option.bind_some]
  cases inB p 0 (wrap64 (a - 1)) <;> cases inB q 0 (wrap64 (b - 1)) <;> rfl
theorem feat1 (a b : Int) (l : List Int) (f : List S128) (e : Int) (x : S128) : spec_l6Feature.f a b l f e x.f0 x.f1 x.f2 x.f3 x.f4 = some (featB a b x) := by
  simp only [spec_l6Feature.f, place1, l1In_eq, Option.bind_some, featB]
  cases inB x.f0 1 1000000 <;> cases inB x.f1 1 9 <;> cases (inB x.f2 0 (wrap64 (a - 1)) && inB x.f3 0 (wrap64 (b - 1))) <;> rfl
theorem feat2 (a b : Int) (l : List Int) (f : List S128) (e : Int) (x : S128) : impl_Chart_featureOk.f a b l f e x.f0 x.f1 x.f2 x.f3 x.f4 = some (featB a b x) := by
  simp only [impl_Chart_featureOk.f, place2, in_eq, Option.bind_some, featB]
  cases inB x.f0 1 1000000 <;> cases inB x.f1 1 9 <;> cases (inB x.f2 0 (wrap64 (a - 1)) && inB x.f3 0 (wrap64 (b - 1))) <;> rfl
def featP (a b : Int) (f : List S128) (i : Nat) : Bool := featB a b (rd_T128 f i) && !(decide (0 < i) && decide ((rd_T128 f ((i : Int) - 1)).f0 ≥ (rd_T128 f i).f0))
theorem charts_l1 (a b : Int) (l : List Int) (f : List S128) (e : Int) (hf : f.length ≤ 1048576) : Ev (fun k => spec_ChartOk.l1 k 0 a b l f e) (allFrom (featP a b f) 0 f.length && true) := by
  refine ev_all (g := fun k i => spec_ChartOk.l1 k i a b l f e) (featP a b f) _ ?_ ?_
  · refine Ev.step (fun _ => rfl) ?_
    simp only [spec_ChartOk.l1]
    exact ev_f (by omega) (Ev.now _)
  · intro i hi r ih
    have jf : ∀ c, Ev (fun k => spec_ChartOk.j3 k i c a b l f e) (!c && r) := by
      intro c
      refine Ev.step (fun _ => rfl) ?_
      simp only [spec_ChartOk.j3]
      rw [wr (by omega)]
      cases c with
      | true => exact Ev.now _
      | false => simpa using ih
    refine Ev.step (fun _ => rfl) ?_
    simp only [spec_ChartOk.l1, feat1, Option.bind_some]
    refine ev_t (by omega) (ev_t (by omega) ?_)
    unfold featP
    cases featB a b (rd_T128 f i) with
    | false => simpa using jf true
    | true =>
    refine ev_t rfl ?_
    by_cases h4 : 0 < i
    · refine ev_t (by omega) ?_
      rw [wr (x := (i : Int) - 1) (by omega)]
      refine ev_t (by omega) (ev_t (by omega) ?_)
      simpa [h4] using jf (decide ((rd_T128 f ((i : Int) - 1)).f0 ≥ (rd_T128 f i).f0))
    · refine ev_f (by omega) ?_
      simpa [h4] using jf false
theorem charts_l0 (a b : Int) (l : List Int) (f : List S128) (e : Int) (hl : l.length ≤ 1048576) (hf : f.length ≤ 1048576) : Ev (fun k => spec_ChartOk.l0 k 0 a b l f e) ((l.all fun x => inB x (-1000) 10000) && allFrom (featP a b f) 0 f.length) := by
  have key : ∀ i, i ≤ l.length → Ev (fun k => spec_ChartOk.l0 k (i : Int) a b l f e) (((l.drop i).all fun x => inB x (-1000) 10000) && allFrom (featP a b f) 0 f.length) := by
    refine down ?_ ?_
    · refine Ev.step (fun _ => rfl) ?_
      simp only [spec_ChartOk.l0]
      have := charts_l1 a b l f e hf
      exact ev_f (by omega) (by simpa using this)
    · intro i hi ih
      refine Ev.step (fun _ => rfl) ?_
      simp only [spec_ChartOk.l0, spec_l6Depth.f, l1In_eq, Option.bind_some]
      refine ev_t (by omega) (ev_t (by omega) ?_)
      rw [wr (by omega), List.drop_eq_getElem_cons hi, List.all_cons, show rd l (i : Int) = l[i] by simp [rd, hi]]
      cases inB l[i] (-1000) 10000 with
      | true => simpa using ih
      | false => simpa using Ev.now false
  simpa using key 0 (Nat.zero_le _)
theorem charts_i (a b : Int) (l : List Int) (f : List S128) (e : Int) (hf : f.length ≤ 1048576) : Ev (fun k => impl_ChartOk.l0 k f f.length 0 a b l f e) (allFrom (featP a b f) 0 f.length && true) := by
  refine ev_all (g := fun k i => impl_ChartOk.l0 k f f.length i a b l f e) (featP a b f) _ ?_ ?_
  · refine Ev.step (fun _ => rfl) ?_
    simp only [impl_ChartOk.l0]
    exact ev_f (by omega) (Ev.now _)
  · intro i hi r ih
    have jf : ∀ c, Ev (fun k => impl_ChartOk.j2 k f f.length i c a b l f e) (!c && r) := by
      intro c
      refine Ev.step (fun _ => rfl) ?_
      simp only [impl_ChartOk.j2]
      rw [wr (by omega)]
      cases c with
      | true => exact Ev.now _
      | false => simpa using ih
    refine Ev.step (fun _ => rfl) ?_
    simp only [impl_ChartOk.l0, feat2, Option.bind_some]
    refine ev_t (by omega) (ev_t (by omega) (ev_t (by omega) ?_))
    unfold featP
    cases featB a b (rd_T128 f i) with
    | false => simpa using jf true
    | true =>
    refine ev_t rfl ?_
    by_cases h4 : 0 < i
    · refine ev_t (by omega) ?_
      rw [wr (x := (i : Int) - 1) (by omega)]
      refine ev_t (by omega) (ev_t (by omega) ?_)
      simpa [h4] using jf (decide ((rd_T128 f ((i : Int) - 1)).f0 ≥ (rd_T128 f i).f0))
    · refine ev_f (by omega) ?_
      simpa [h4] using jf false
def chartB (a b : Int) (l : List Int) (f : List S128) (e : Int) : Bool :=
  inB a 1 12 && (inB b 1 12 && (decide ((l.length : Int) = wrap64 (a * b)) && (!decide ((f.length : Int) > 30) && (inB e 0 1000000 && ((l.all fun x => inB x (-1000) 10000) && allFrom (featP a b f) 0 f.length)))))
theorem chart1 (a b : Int) (l : List Int) (f : List S128) (e : Int) (hl : l.length ≤ 1048576) (hf : f.length ≤ 1048576) : Ev (fun k => spec_ChartOk.f k a b l f e) (chartB a b l f e) := by
  have jf : ∀ c, Ev (fun k => spec_ChartOk.j0 k c a b l f e) (!c && ((l.all fun x => inB x (-1000) 10000) && allFrom (featP a b f) 0 f.length)) := by
    intro c
    refine Ev.step (fun _ => rfl) ?_
    simp only [spec_ChartOk.j0]
    cases c with
    | true => exact Ev.now _
    | false => simpa using charts_l0 a b l f e hl hf
  simp only [spec_ChartOk.f, l1In_eq, Option.bind_some, chartB]
  cases inB a 1 12 with
  | false => simpa using jf true
  | true =>
  cases inB b 1 12 with
  | false => simpa using jf true
  | true =>
  refine ev_t rfl (ev_t rfl ?_)
  by_cases h : (l.length : Int) = wrap64 (a * b)
  · refine ev_t h ?_
    by_cases h2 : (f.length : Int) > 30
    · refine ev_t h2 ?_
      simpa [h, h2] using jf true
    · refine ev_f h2 ?_
      simpa [h, h2] using jf (!inB e 0 1000000)
  · refine ev_f h ?_
    simpa [h] using jf true
theorem chart2 (a b : Int) (l : List Int) (f : List S128) (e : Int) (hl : l.length ≤ 1048576) (hf : f.length ≤ 1048576) : Ev (fun k => impl_ChartOk.f k a b l f e) (chartB a b l f e) := by
  have jf : ∀ c, Ev (fun k => impl_ChartOk.j0 k c a b l f e) (!c && allFrom (featP a b f) 0 f.length) := by
    intro c
    refine Ev.step (fun _ => rfl) ?_
    simp only [impl_ChartOk.j0]
    cases c with
    | true => exact Ev.now _
    | false => simpa using charts_i a b l f e hf
  simp only [impl_ChartOk.f, in_eq, all_eq, Option.bind_some, chartB]
  cases inB a 1 12 with
  | false => simpa using jf true
  | true =>
  cases inB b 1 12 with
  | false => simpa using jf true
  | true =>
  refine ev_t rfl (ev_t rfl ?_)
  by_cases h : (l.length : Int) = wrap64 (a * b)
  · refine ev_t h ?_
    cases h1 : l.all fun x => inB x (-1000) 10000 with
    | false => simpa [h] using jf true
    | true =>
    refine ev_t rfl ?_
    by_cases h2 : (f.length : Int) > 30
    · refine ev_t h2 ?_
      simpa [h, h2] using jf true
    · refine ev_f h2 ?_
      simpa [h, h2] using jf (!inB e 0 1000000)
  · refine ev_f h ?_
    simpa [h] using jf true

end Go.Proofs.Ytlmohamgfindmac.Pu
