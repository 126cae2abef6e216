/- The pure statement of FnExactLashes, proved: for every input that the opening lets in, the printed law comes to true. -/
import Derived.Test.YtlmohamgfindmacPu0
import Derived.Test.YtlmohamgfindmacPAx0
import Derived.Test.YtlmohamgfindmacPAx17
import Derived.Test.YtlmohamgfindmacPAx19
import Derived.Test.YtlmohamgfindmacPAx20
import Derived.Test.YtlmohamgfindmacPAx21
import Derived.Test.YtlmohamgfindmacQBase
import Derived.Test.YtlmohamgfindmacQBoxes
import Derived.Test.YtlmohamgfindmacQBoxSz
import Derived.Test.YtlmohamgfindmacQConvBoxS
import Derived.Test.YtlmohamgfindmacStFnExactLashes
namespace Go.Proofs.Ytlmohamgfindmac.Pure
open Go.RowKit Go.Proofs.Ytlmohamgfindmac Go.Proofs.Ytlmohamgfindmac.PA Go.Proofs.Ytlmohamgfindmac.Pu Go.Proofs.YtlmohamgfindmacW.PrintWords Go.Proofs.YtlmohamgfindmacW.PrintLast Go.Proofs.YtlmohamgfindmacW.PrintMore
set_option linter.unusedVariables false
set_option linter.unusedSimpArgs false
theorem lash_k (l : List S61) : ∃ K, ∀ k, K ≤ k → ∀ x ∈ l, impl_Lashes_1.f k x.f0 x.f1 x.f2 x.f3 x.f4 x.f5 = some (!boxV x) := by
  induction l with
  | nil => exact ⟨0, fun _ _ x hx => absurd hx List.not_mem_nil⟩
  | cons y l ih =>
    obtain ⟨K, hK⟩ := ih
    obtain ⟨K2, h2⟩ := boxV2 y
    refine ⟨max K K2, fun k hk x hx => ?_⟩
    rcases List.mem_cons.1 hx with rfl | hx
    · have h3 : impl_BoxOk.f k x.f0 x.f1 x.f2 x.f3 x.f4 x.f5 = some (boxV x) := h2 k (by omega)
      simp only [impl_Lashes_1.f]
      rw [h3]
      rfl
    · exact hK k (by omega) x hx
theorem any_eq {α : Type} {l : List α} {p q : α → Bool} (h : ∀ x ∈ l, p x = q x) : l.any p = l.any q := by
  induction l with
  | nil => rfl
  | cons x l ih => rw [List.any_cons, List.any_cons, h x List.mem_cons_self, ih fun y hy => h y (List.mem_cons_of_mem _ hy)]
theorem lash_cf (l : List S61) : Ev (fun k => cf_impl_Lashes_1.f k l) (l.any fun x => !boxV x) := by
  obtain ⟨K, hK⟩ := lash_k l
  refine ⟨K, fun k hk => ?_⟩
  simp only [cf_impl_Lashes_1.f]
  rw [if_pos (List.all_eq_true.2 fun x hx => by rw [hK k hk x hx]; rfl)]
  congr 1
  refine any_eq fun x hx => ?_
  rw [hK k hk x hx]
  cases boxV x <;> rfl
theorem lash_l0 (l : List S61) (u : Int) (hl : l.length ≤ 20) : ∀ i : Nat, i ≤ l.length → ∀ s b, ((l.drop i).all boxV = true → ∃ v, Ev (fun k => spec_Lashes.l0 k l u s b i) v ∧ Ev (fun k => impl_Lashes.l0 k l u s b l l.length i) v) ∧ ((l.drop i).all boxV = false → Ev (fun k => spec_Lashes.l0 k l u s b i) (0, false)) := by
  refine down ?_ ?_
  · intro s b
    refine ⟨fun _ => ⟨(s, true), Ev.step (fun _ => rfl) ?_, Ev.step (fun _ => rfl) ?_⟩, fun h => by simp at h⟩
    · simp only [spec_Lashes.l0]; exact ev_f (by omega) (Ev.now _)
    · simp only [impl_Lashes.l0]; exact ev_f (by omega) (Ev.now _)
  · intro i hi ih s b
    have hx : rd_T61 l i = l[i] := by simp [rd_T61, hi]
    have b1 := boxV1 (rd_T61 l i)
    rw [List.drop_eq_getElem_cons hi, List.all_cons, ← hx]
    cases hb : boxV (rd_T61 l i) with
    | false =>
      rw [hb] at b1
      refine ⟨fun h => by simp at h, fun _ => Ev.step (fun _ => rfl) ?_⟩
      simp only [spec_Lashes.l0]
      exact ev_t (by omega) (ev_t (by omega) (Ev.bind b1 (ev_f (by simp) (Ev.now _))))
    | true =>
      rw [hb] at b1
      simp only [Bool.true_and]
      by_cases c : wrap64 (wrap64 (wrap64 (100 * u) * wrap64 ((l.length : Int) - i)) - wrap64 (Int.tdiv (wrap64 (b + (rd_T61 l i).f1)) 10)) > 0
      · obtain ⟨p, q⟩ := ih (wrap64 (s + wrap64 (Int.tdiv (wrap64 (wrap64 (wrap64 (wrap64 (100 * u) * wrap64 ((l.length : Int) - i)) - wrap64 (Int.tdiv (wrap64 (b + (rd_T61 l i).f1)) 10)) + 499)) 500))) (wrap64 (b + (rd_T61 l i).f1))
        refine ⟨fun h => ?_, fun h => Ev.step (fun _ => rfl) ?_⟩
        · obtain ⟨v, v1, v2⟩ := p h
          refine ⟨v, Ev.step (fun _ => rfl) ?_, Ev.step (fun _ => rfl) ?_⟩
          · simp only [spec_Lashes.l0]
            rw [wr (x := (i : Int) + 1) (by omega)]
            exact ev_t (by omega) (ev_t (by omega) (Ev.bind b1 (ev_t rfl (ev_t c v1))))
          · simp only [impl_Lashes.l0]
            rw [wr (x := (i : Int) + 1) (by omega)]
            exact ev_t (by omega) (ev_t (by omega) (ev_t (by omega) (ev_t c v2)))
        · simp only [spec_Lashes.l0]
          rw [wr (x := (i : Int) + 1) (by omega)]
          exact ev_t (by omega) (ev_t (by omega) (Ev.bind b1 (ev_t rfl (ev_t c (q h)))))
      · obtain ⟨p, q⟩ := ih s (wrap64 (b + (rd_T61 l i).f1))
        refine ⟨fun h => ?_, fun h => Ev.step (fun _ => rfl) ?_⟩
        · obtain ⟨v, v1, v2⟩ := p h
          refine ⟨v, Ev.step (fun _ => rfl) ?_, Ev.step (fun _ => rfl) ?_⟩
          · simp only [spec_Lashes.l0]
            rw [wr (x := (i : Int) + 1) (by omega)]
            exact ev_t (by omega) (ev_t (by omega) (Ev.bind b1 (ev_t rfl (ev_f c v1))))
          · simp only [impl_Lashes.l0]
            rw [wr (x := (i : Int) + 1) (by omega)]
            exact ev_t (by omega) (ev_t (by omega) (ev_t (by omega) (ev_f c v2)))
        · simp only [spec_Lashes.l0]
          rw [wr (x := (i : Int) + 1) (by omega)]
          exact ev_t (by omega) (ev_t (by omega) (Ev.bind b1 (ev_t rfl (ev_f c (q h)))))
theorem all_any {α : Type} (l : List α) (p : α → Bool) : (l.any fun x => !p x) = !l.all p := by
  induction l with
  | nil => rfl
  | cons x l ih => simp only [List.any_cons, List.all_cons, Bool.not_and, ih]
theorem lash_same (l : List S61) (u : Int) : ∃ v, Ev (fun k => spec_Lashes.f k l u) v ∧ Ev (fun k => impl_Lashes.f k l u) v := by
  have t1 : Ev (fun k => spec_Lashes.j0 k l u true) (0, false) := Ev.step (fun _ => rfl) (by simp only [spec_Lashes.j0]; exact Ev.now _)
  have t2 : Ev (fun k => impl_Lashes.j0 k l u true) (0, false) := Ev.step (fun _ => rfl) (by simp only [impl_Lashes.j0]; exact Ev.now _)
  simp only [spec_Lashes.f, impl_Lashes.f, l1In_eq, in_eq, Option.bind_some]
  by_cases h : (l.length : Int) > 20
  · exact ⟨(0, false), ev_t h t1, ev_t h t2⟩
  cases hu : inB u 0 100 with
  | false => exact ⟨(0, false), ev_f h (by simpa using t1), ev_f h (by simpa using t2)⟩
  | true =>
    have cf := lash_cf l
    rw [all_any] at cf
    obtain ⟨p, q⟩ := lash_l0 l u (by omega) 0 (Nat.zero_le _) 0 0
    rw [List.drop_zero] at p q
    have s1 : ∀ v, Ev (fun k => spec_Lashes.l0 k l u 0 0 0) v → Ev (fun k => spec_Lashes.j0 k l u false) v := fun v hv => Ev.step (fun _ => rfl) (by simp only [spec_Lashes.j0]; exact ev_f (by simp) hv)
    cases ha : l.all boxV with
    | false =>
      rw [ha] at cf
      exact ⟨(0, false), ev_f h (by simpa using s1 _ (q ha)), ev_f h (ev_t rfl (Ev.bind cf (by simpa using t2)))⟩
    | true =>
      rw [ha] at cf
      obtain ⟨v, v1, v2⟩ := p ha
      refine ⟨v, ev_f h (by simpa using s1 _ v1), ev_f h (ev_t rfl (Ev.bind cf (Ev.step (fun _ => rfl) ?_)))⟩
      simp only [impl_Lashes.j0]
      exact ev_f (by simp) v2
theorem P_Lashes : ∀ (l : List S56) (m : Int), (∀ x ∈ l, x.f0.size ≤ 9223372036854775807) → l.length ≤ maxLen → ∃ k, laws_FnExactLashes.f k l m = some true := by
  intro l m hg hl
  refine Ev.rounds ?_
  unfold maxLen at hl
  obtain ⟨s, hs, hs2⟩ := szBoxS_ev l hg (by omega)
  simp only [laws_FnExactLashes.f]
  refine Ev.bind hs ?_
  by_cases h : s < 0
  · exact ev_t h (Ev.now _)
  · have hl2 := hs2 (by omega)
    obtain ⟨v, v1, v2⟩ := lash_same (l.map cBox) m
    have ht := toBoxS_ev l (by omega)
    have fin : Ev (fun k => laws_FnExactLashes.j0 k l (l.map cBox) false) true := by
      refine Ev.step (fun _ => rfl) ?_
      simp only [laws_FnExactLashes.j0]
      exact ev_f (by simp) (Ev.bind ht (Ev.bind (eqBoxS_ev _ (by simp; omega)) (ev_t rfl (Ev.now _))))
    exact ev_f h (Ev.bind ht (Ev.bind v1 (Ev.bind ht (Ev.bind v2 (ev_t rfl (by simpa using fin))))))
theorem FnExactLashes : laws_FnExactLashes.Pure := fun l m h _ => P_Lashes l m (fun x hx => by have := (h.2 x hx).1; unfold maxLen at this; omega) h.1

end Go.Proofs.Ytlmohamgfindmac.Pure
