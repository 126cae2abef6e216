/- The pure statement of FnExactKeepsApart, proved: for every input that the opening lets in, the printed law comes to true. -/
import Derived.Test.YtlmohamgfindmacPu0
import Derived.Test.YtlmohamgfindmacPAx0
import Derived.Test.YtlmohamgfindmacPAx12
import Derived.Test.YtlmohamgfindmacPAx19
import Derived.Test.YtlmohamgfindmacPAx21
import Derived.Test.YtlmohamgfindmacPAx22
import Derived.Test.YtlmohamgfindmacPAx23
import Derived.Test.YtlmohamgfindmacPAx24
import Derived.Test.YtlmohamgfindmacPAx25
import Derived.Test.YtlmohamgfindmacPAx26
import Derived.Test.YtlmohamgfindmacQBase
import Derived.Test.YtlmohamgfindmacQBox9
import Derived.Test.YtlmohamgfindmacQBoxes
import Derived.Test.YtlmohamgfindmacStFnExactKeepsApart
namespace Go.Proofs.Ytlmohamgfindmac.Pure
open Go.RowKit Go.Proofs.Ytlmohamgfindmac Go.Proofs.Ytlmohamgfindmac.PA Go.Proofs.Ytlmohamgfindmac.Pu Go.Proofs.YtlmohamgfindmacW.PrintWords Go.Proofs.YtlmohamgfindmacW.PrintLast Go.Proofs.YtlmohamgfindmacW.PrintMore
set_option linter.unusedVariables false
set_option linter.unusedSimpArgs false
theorem apart_ev (a b : Int) (ha : inB a 0 9 = true) (hb : inB b 0 9 = true) : ∃ v, Ev (fun k => spec_Apart.f k a b) v ∧ Ev (fun k => impl_Apart.f k a b) v ∧ (v = 0 ∨ v = 1 ∨ v = 2 ∨ v = 3) := by
  have h1 := inB_t.1 ha; have h2 := inB_t.1 hb
  have key : ∀ m : Fin 10, ∀ n : Fin 10, (spec_Apart.f 5 (m.1 : Int) (n.1 : Int)).isSome = true ∧ impl_Apart.f 5 (m.1 : Int) (n.1 : Int) = spec_Apart.f 5 (m.1 : Int) (n.1 : Int) ∧ (spec_Apart.f 5 (m.1 : Int) (n.1 : Int) = some 0 ∨ spec_Apart.f 5 (m.1 : Int) (n.1 : Int) = some 1 ∨ spec_Apart.f 5 (m.1 : Int) (n.1 : Int) = some 2 ∨ spec_Apart.f 5 (m.1 : Int) (n.1 : Int) = some 3) := by
    decide +kernel
  obtain ⟨k1, k2, k3⟩ := key ⟨a.toNat, by omega⟩ ⟨b.toNat, by omega⟩
  simp only at k1 k2 k3
  rw [Int.toNat_of_nonneg h1.1, Int.toNat_of_nonneg h2.1] at k1 k2 k3
  obtain ⟨v, hv⟩ := Option.isSome_iff_exists.1 k1
  refine ⟨v, Ev.of (spec_Apart.mono _ _) hv, Ev.of (impl_Apart.mono _ _) (k := 5) (by rw [k2]; exact hv), ?_⟩
  rw [hv] at k3
  rcases k3 with h | h | h | h <;> (injection h with h; omega)
theorem boxV_c (x : S61) (h : boxV x = true) : inB x.f2 0 9 = true := by
  have b := boxV2 x
  obtain ⟨v, _, n2⟩ := boxName_same x.f0
  rw [h] at b
  have : Ev (fun k => impl_BoxOk.f k x.f0 x.f1 x.f2 x.f3 x.f4 x.f5) (v && (inB x.f1 1 40000 && (inB x.f2 0 9 && (inB x.f4 0 19 && (inB x.f5 0 19 && decide (x.f4 < x.f5)))))) := by
    simp only [impl_BoxOk.f, impl_portOk.f, in_eq, Option.bind_some]
    refine Ev.bind n2 ?_
    cases v <;> cases inB x.f1 1 40000 <;> cases inB x.f2 0 9 <;> cases inB x.f4 0 19 <;> cases inB x.f5 0 19 <;> exact Ev.now _
  have e := ev_uniq b this
  simp only [Bool.true_eq, Bool.and_eq_true] at e
  exact e.2.2.1
theorem keeps_same (x y : S61) (p0 p1 p2 q0 q1 q2 : Int) : ∃ v, Ev (fun k => spec_KeepsApart.f k x.f0 x.f1 x.f2 x.f3 x.f4 x.f5 p0 p1 p2 y.f0 y.f1 y.f2 y.f3 y.f4 y.f5 q0 q1 q2) v ∧ Ev (fun k => impl_KeepsApart.f k x.f0 x.f1 x.f2 x.f3 x.f4 x.f5 p0 p1 p2 y.f0 y.f1 y.f2 y.f3 y.f4 y.f5 q0 q1 q2) v := by
  have t1 : Ev (fun k => spec_KeepsApart.j0 k true x.f0 x.f1 x.f2 x.f3 x.f4 x.f5 p0 p1 p2 y.f0 y.f1 y.f2 y.f3 y.f4 y.f5 q0 q1 q2) false := Ev.step (fun _ => rfl) (by simp only [spec_KeepsApart.j0]; exact Ev.now _)
  have t2 : Ev (fun k => impl_KeepsApart.j0 k true x.f0 x.f1 x.f2 x.f3 x.f4 x.f5 p0 p1 p2 y.f0 y.f1 y.f2 y.f3 y.f4 y.f5 q0 q1 q2) false := Ev.step (fun _ => rfl) (by simp only [impl_KeepsApart.j0]; exact Ev.now _)
  have sp1 : ∀ a b c, spec_l11Spot.f a b c = some (inB a 0 19 && (inB b 0 19 && inB c 0 19)) := by
    intro a b c
    simp only [spec_l11Spot.f, l1In_eq, Option.bind_some]
    cases inB a 0 19 <;> cases inB b 0 19 <;> cases inB c 0 19 <;> rfl
  have sp2 : ∀ a b c, impl_spotOk.f a b c = some (inB a 0 19 && (inB b 0 19 && inB c 0 19)) := by
    intro a b c
    simp only [impl_spotOk.f, in_eq, Option.bind_some]
    cases inB a 0 19 <;> cases inB b 0 19 <;> cases inB c 0 19 <;> rfl
  have sz : ∀ a, spec_l3Size.f a = impl_size.f a := fun a => rfl
  have szs : ∀ a, ∃ v, impl_size.f a = some v := by
    intro a; simp only [impl_size.f]; split <;> exact ⟨_, rfl⟩
  simp only [spec_KeepsApart.f, impl_KeepsApart.f, sp1, sp2, Option.bind_some]
  have x1 := boxV1 x; have x2 := boxV2 x; have y1 := boxV1 y; have y2 := boxV2 y
  cases hx : boxV x with
  | false =>
    rw [hx] at x1 x2
    exact ⟨false, Ev.bind x1 (ev_f (by simp) t1), Ev.bind x2 (ev_f (by simp) t2)⟩
  | true =>
  rw [hx] at x1 x2
  cases hy : boxV y with
  | false =>
    rw [hy] at y1 y2
    exact ⟨false, Ev.bind x1 (ev_t rfl (Ev.bind y1 (ev_f (by simp) t1))), Ev.bind x2 (ev_t rfl (Ev.bind y2 (ev_f (by simp) t2)))⟩
  | true =>
  rw [hy] at y1 y2
  cases (inB p0 0 19 && (inB p1 0 19 && inB p2 0 19)) with
  | false => exact ⟨false, Ev.bind x1 (ev_t rfl (Ev.bind y1 (ev_t rfl (by simpa using t1)))), Ev.bind x2 (ev_t rfl (Ev.bind y2 (ev_t rfl (by simpa using t2))))⟩
  | true =>
  cases (inB q0 0 19 && (inB q1 0 19 && inB q2 0 19)) with
  | false => exact ⟨false, Ev.bind x1 (ev_t rfl (Ev.bind y1 (ev_t rfl (by simpa using t1)))), Ev.bind x2 (ev_t rfl (Ev.bind y2 (ev_t rfl (by simpa using t2))))⟩
  | true =>
  obtain ⟨v, v1, v2, v3⟩ := apart_ev x.f2 y.f2 (boxV_c x hx) (boxV_c y hy)
  obtain ⟨s0, e0⟩ := szs (wrap64 (p0 - q0))
  obtain ⟨s1, e1⟩ := szs (wrap64 (p1 - q1))
  obtain ⟨s2, e2⟩ := szs (wrap64 (p2 - q2))
  have main : ∀ b, ∃ w, Ev (fun k => spec_KeepsApart.j0 k b x.f0 x.f1 x.f2 x.f3 x.f4 x.f5 p0 p1 p2 y.f0 y.f1 y.f2 y.f3 y.f4 y.f5 q0 q1 q2) w ∧ Ev (fun k => impl_KeepsApart.j0 k b x.f0 x.f1 x.f2 x.f3 x.f4 x.f5 p0 p1 p2 y.f0 y.f1 y.f2 y.f3 y.f4 y.f5 q0 q1 q2) w := by
    intro b
    cases b with
    | true => exact ⟨false, t1, t2⟩
    | false =>
      rcases v3 with h | h | h | h <;> subst h
      · refine ⟨true, Ev.step (fun _ => rfl) ?_, Ev.step (fun _ => rfl) ?_⟩
        · simp only [spec_KeepsApart.j0, sz, e0, e1, e2, Option.bind_some]; exact ev_f (by simp) (Ev.bind v1 (ev_f (by omega) (ev_f (by omega) (ev_f (by omega) (Ev.now _)))))
        · simp only [impl_KeepsApart.j0, e0, e1, e2, Option.bind_some]; exact ev_f (by simp) (Ev.bind v2 (ev_t rfl (Ev.now _)))
      · refine ⟨(wrap64 (wrap64 (s0 + s1) + s2)) != 1, Ev.step (fun _ => rfl) ?_, Ev.step (fun _ => rfl) ?_⟩
        · simp only [spec_KeepsApart.j0, sz, e0, e1, e2, Option.bind_some]; exact ev_f (by simp) (Ev.bind v1 (ev_t rfl (Ev.now _)))
        · simp only [impl_KeepsApart.j0, e0, e1, e2, Option.bind_some]; exact ev_f (by simp) (Ev.bind v2 (ev_f (by omega) (ev_t rfl (Ev.now _))))
      · refine ⟨decide (s0 ≥ 2), Ev.step (fun _ => rfl) ?_, Ev.step (fun _ => rfl) ?_⟩
        · simp only [spec_KeepsApart.j0, sz, e0, e1, e2, Option.bind_some]; exact ev_f (by simp) (Ev.bind v1 (ev_f (by omega) (ev_t rfl (Ev.now _))))
        · simp only [impl_KeepsApart.j0, e0, e1, e2, Option.bind_some]; exact ev_f (by simp) (Ev.bind v2 (ev_f (by omega) (ev_f (by omega) (ev_t rfl (Ev.now _)))))
      · refine ⟨false, Ev.step (fun _ => rfl) ?_, Ev.step (fun _ => rfl) ?_⟩
        · simp only [spec_KeepsApart.j0, sz, e0, e1, e2, Option.bind_some]; exact ev_f (by simp) (Ev.bind v1 (ev_f (by omega) (ev_f (by omega) (ev_t rfl (Ev.now _)))))
        · simp only [impl_KeepsApart.j0, e0, e1, e2, Option.bind_some]; exact ev_f (by simp) (Ev.bind v2 (ev_f (by omega) (ev_f (by omega) (ev_f (by omega) (Ev.now _)))))
  obtain ⟨w, w1, w2⟩ := main (p0 == q0 && (p1 == q1 && (p2 == q2)))
  exact ⟨w, Ev.bind x1 (ev_t rfl (Ev.bind y1 (ev_t rfl (ev_t rfl (ev_t rfl w1))))), Ev.bind x2 (ev_t rfl (Ev.bind y2 (ev_t rfl (ev_t rfl (ev_t rfl w2)))))⟩
theorem P_KeepsApart : ∀ (x : S56) (p0 p1 p2 : Int) (y : S56) (q0 q1 q2 : Int), x.f0.size ≤ maxLen → y.f0.size ≤ maxLen → ∃ k, laws_FnExactKeepsApart.f k x.f0 x.f1 x.f2 x.f3 x.f4 x.f5 p0 p1 p2 y.f0 y.f1 y.f2 y.f3 y.f4 y.f5 q0 q1 q2 = some true := by
  intro x p0 p1 p2 y q0 q1 q2 hx hy
  unfold maxLen at hx hy
  refine Ev.rounds ?_
  obtain ⟨v, v1, v2⟩ := keeps_same ⟨x.f0, x.f1, x.f2, x.f3, x.f4, x.f5⟩ ⟨y.f0, y.f1, y.f2, y.f3, y.f4, y.f5⟩ p0 p1 p2 q0 q1 q2
  simp only at v1 v2
  simp only [laws_FnExactKeepsApart.f, laws_szBox.f, laws_toBox.f, laws_toSpot.f]
  rw [wr (x := 1048576 - (x.f0.size : Int)) (by omega)]
  by_cases c : 1048576 - (x.f0.size : Int) < 0
  · rw [if_pos c]
    simp only [Option.bind_some]
    exact ev_t (by omega) (Ev.now _)
  · rw [if_neg c]
    simp only [Option.bind_some]
    refine ev_f c ?_
    rw [wr (x := 1048576 - (x.f0.size : Int) - (y.f0.size : Int)) (by omega)]
    by_cases c2 : 1048576 - (x.f0.size : Int) - (y.f0.size : Int) < 0
    · rw [if_pos c2]
      simp only [Option.bind_some]
      exact ev_t (by omega) (Ev.now _)
    · rw [if_neg c2]
      simp only [Option.bind_some]
      exact ev_f c2 (Ev.bind v1 (Ev.bind v2 (ev_f (by simp) (Ev.now _))))
theorem FnExactKeepsApart : laws_FnExactKeepsApart.Pure := fun x p y q h _ h2 _ => P_KeepsApart x _ _ _ y _ _ _ h.1 h2.1

end Go.Proofs.Ytlmohamgfindmac.Pure
