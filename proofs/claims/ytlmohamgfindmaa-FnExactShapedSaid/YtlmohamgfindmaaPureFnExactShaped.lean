/- The pure statement of FnExactShaped, proved: for every input that the opening lets in, the printed law comes to true. -/
import Derived.Test.YtlmohamgfindmaaPu0
import Derived.Test.YtlmohamgfindmaaPAx39
import Derived.Test.YtlmohamgfindmaaPAx40
import Derived.Test.YtlmohamgfindmaaPAx41
import Derived.Test.YtlmohamgfindmaaQBase
import Derived.Test.YtlmohamgfindmaaQL3
import Derived.Test.YtlmohamgfindmaaQConvIntS
import Derived.Test.YtlmohamgfindmaaQMarks
import Derived.Test.YtlmohamgfindmaaStFnExactShaped
namespace Go.Proofs.Ytlmohamgfindmaa.Pure
open Go.RowKit Go.Proofs.Ytlmohamgfindmaa Go.Proofs.Ytlmohamgfindmaa.PA Go.Proofs.Ytlmohamgfindmaa.Pu Go.Proofs.YtlmohamgfindmaaW.PrintWords Go.Proofs.YtlmohamgfindmaaW.PrintLast Go.Proofs.YtlmohamgfindmaaW.PrintMore
set_option linter.unusedVariables false
set_option linter.unusedSimpArgs false
theorem shaped_lit (x : Int) : impl_Shaped_1.f x = some (!(decide (Int.tmod x 2 = 0) && inB x (-1000) 1000)) := by
  simp only [impl_Shaped_1.f, in_eq, Option.bind_some]
  by_cases h : Int.tmod x 2 = 0
  · rw [if_pos h]; simp [h]
  · rw [if_neg h]; simp [h]
theorem shaped_cf (l : List Int) : cf_impl_Shaped_1.f l = some (!(l.all fun x => decide (Int.tmod x 2 = 0) && inB x (-1000) 1000)) := by
  simp only [cf_impl_Shaped_1.f, shaped_lit]
  rw [if_pos (by simp)]
  congr 1
  induction l with
  | nil => rfl
  | cons x l ih =>
    simp only [List.any_cons, List.all_cons, ih]
    cases (decide (Int.tmod x 2 = 0) && inB x (-1000) 1000) <;> rfl
def shStep (l o : List Int) (i : Nat) : List Int := (o.set i (wrap64 (rd o i + wrap64 (Int.tdiv (rd l i) 2)))).set (i + 2) (wrap64 (rd (o.set i (wrap64 (rd o i + wrap64 (Int.tdiv (rd l i) 2)))) ((i : Int) + 2) + wrap64 (Int.tdiv (rd l i) 2)))
theorem shStep_length (l o : List Int) (i : Nat) : (shStep l o i).length = o.length := by simp [shStep]
theorem sh_spec (l o : List Int) (hl : l.length ≤ 38) (ho : o.length = l.length + 2) (i : Nat) (hi : i < l.length) (h2 : Int.tmod (rd l i) 2 = 0) (v : List Int × Bool)
    (hv : Ev (fun k => spec_Shaped.l0 k l (shStep l o i) ((i : Int) + 1)) v) : Ev (fun k => spec_Shaped.l0 k l o (i : Int)) v := by
  refine Ev.step (f := fun k => spec_Shaped.l0 k l (shStep l o i) ((i : Int) + 1)) (fun k => ?_) hv
  have w1 : wrap64 ((i : Int) + 1) = (i : Int) + 1 := wr (by omega)
  have w2 : wrap64 ((i : Int) + 2) = (i : Int) + 2 := wr (by omega)
  have w3 : ((i : Int) + 2).toNat = i + 2 := by omega
  rw [spec_Shaped.l0, if_pos (show (i : Int) < (l.length : Int) by omega), if_pos (show (0 : Int) ≤ (i : Int) by omega), if_pos h2, if_pos (show (i : Int) < (o.length : Int) by omega), Option.bind_some, w1, w2, w3, Int.toNat_natCast, if_pos (show (0 : Int) ≤ (i : Int) + 2 by omega), if_pos (show (i : Int) + 2 < (o.length : Int) by omega)]
  unfold shStep
  rfl
theorem sh_impl (l o : List Int) (hl : l.length ≤ 38) (ho : o.length = l.length + 2) (i : Nat) (hi : i < l.length) (v : List Int × Bool)
    (hv : Ev (fun k => impl_Shaped.l0 k (shStep l o i) l l.length ((i : Int) + 1)) v) : Ev (fun k => impl_Shaped.l0 k o l l.length (i : Int)) v := by
  refine Ev.step (f := fun k => impl_Shaped.l0 k (shStep l o i) l l.length ((i : Int) + 1)) (fun k => ?_) hv
  have w1 : wrap64 ((i : Int) + 1) = (i : Int) + 1 := wr (by omega)
  have w2 : wrap64 ((i : Int) + 2) = (i : Int) + 2 := wr (by omega)
  have w3 : ((i : Int) + 2).toNat = i + 2 := by omega
  rw [impl_Shaped.l0, if_pos (show (i : Int) < (l.length : Int) by omega), if_pos (show (0 : Int) ≤ (i : Int) by omega), if_pos (show (i : Int) < (l.length : Int) by omega), if_pos (show (i : Int) < (o.length : Int) by omega), Option.bind_some, w1, w2, w3, Int.toNat_natCast, if_pos (show (0 : Int) ≤ (i : Int) + 2 by omega), if_pos (show (i : Int) + 2 < (o.length : Int) by omega)]
  unfold shStep
  rfl
theorem sh_odd (l o : List Int) (hl : l.length ≤ 38) (i : Nat) (hi : i < l.length) (h2 : ¬ Int.tmod (rd l i) 2 = 0) : Ev (fun k => spec_Shaped.l0 k l o (i : Int)) ([], false) := by
  refine Ev.step (f := fun _ => some ([], false)) (fun k => ?_) (Ev.now _)
  rw [spec_Shaped.l0, if_pos (show (i : Int) < (l.length : Int) by omega), if_pos (show (0 : Int) ≤ (i : Int) by omega), if_neg h2]
theorem sh_end1 (l o : List Int) : Ev (fun k => spec_Shaped.l0 k l o (l.length : Int)) (o, true) := by
  refine Ev.step (f := fun _ => some (o, true)) (fun k => ?_) (Ev.now _)
  rw [spec_Shaped.l0, if_neg (show ¬ (l.length : Int) < (l.length : Int) by omega)]
theorem sh_end2 (l o : List Int) : Ev (fun k => impl_Shaped.l0 k o l l.length (l.length : Int)) (o, true) := by
  refine Ev.step (f := fun _ => some (o, true)) (fun k => ?_) (Ev.now _)
  rw [impl_Shaped.l0, if_neg (show ¬ (l.length : Int) < (l.length : Int) by omega)]
/-- The loops: both write the same, or an odd push ends the spec's. -/
def ShBoth (l : List Int) (i : Nat) (o : List Int) : Prop :=
  (∃ v : List Int, Ev (fun k => spec_Shaped.l0 k l o (i : Int)) (v, true) ∧ v.length = l.length + 2 ∧ Ev (fun k => impl_Shaped.l0 k o l l.length (i : Int)) (v, true) ∧ (l.drop i).all (fun x => decide (Int.tmod x 2 = 0)) = true) ∨ (Ev (fun k => spec_Shaped.l0 k l o (i : Int)) ([], false) ∧ (l.drop i).all (fun x => decide (Int.tmod x 2 = 0)) = false)
theorem shaped_l0 (l : List Int) (hl : l.length ≤ 38) : ∀ i : Nat, i ≤ l.length → ∀ o : List Int, o.length = l.length + 2 → ShBoth l i o := by
  refine down ?_ ?_
  · intro o ho
    exact .inl ⟨o, sh_end1 l o, ho, sh_end2 l o, by rw [List.drop_length]; rfl⟩
  · intro i hi ih o ho
    have hd : l.drop i = l[i] :: l.drop (i + 1) := List.drop_eq_getElem_cons hi
    have hr : rd l i = l[i] := by simp [rd, hi]
    have e1 : ((i + 1 : Nat) : Int) = (i : Int) + 1 := by omega
    by_cases h2 : Int.tmod (rd l i) 2 = 0
    · have h2' : Int.tmod l[i] 2 = 0 := by rw [← hr]; exact h2
      have step := ih (shStep l o i) (by rw [shStep_length]; exact ho)
      unfold ShBoth at step
      rw [e1] at step
      rcases step with ⟨v, v1, vl, v2, v3⟩ | ⟨v1, v3⟩
      · exact .inl ⟨v, sh_spec l o hl ho i hi h2 _ v1, vl, sh_impl l o hl ho i hi _ v2, by rw [hd, List.all_cons, v3, decide_eq_true h2']; rfl⟩
      · exact .inr ⟨sh_spec l o hl ho i hi h2 _ v1, by rw [hd, List.all_cons, v3, Bool.and_false]⟩
    · exact .inr ⟨sh_odd l o hl i hi h2, by rw [hd, List.all_cons, decide_eq_false (by rw [← hr]; exact h2)]; rfl⟩
theorem all_and {α : Type} (l : List α) (p q : α → Bool) : (l.all fun x => p x && q x) = (l.all p && l.all q) := by
  induction l with
  | nil => rfl
  | cons x l ih => simp only [List.all_cons, ih]; cases p x <;> cases q x <;> cases l.all p <;> cases l.all q <;> rfl
theorem shaped_same (l : List Int) (hl : l.length ≤ 1048576) : ∃ v : List Int × Bool, v.1.length ≤ 40 ∧ Ev (fun k => spec_Shaped.f k l) v ∧ Ev (fun k => impl_Shaped.f k l) v := by
  have j1 : Ev (fun k => spec_Shaped.j0 k l true) ([], false) := Ev.step (fun _ => rfl) (by simp only [spec_Shaped.j0]; exact Ev.now _)
  have j2 : Ev (fun k => impl_Shaped.j0 k l true) ([], false) := Ev.step (fun _ => rfl) (by simp only [impl_Shaped.j0]; exact Ev.now _)
  simp only [spec_Shaped.f, impl_Shaped.f, shaped_cf, all_and]
  by_cases h : (l.length : Int) > 38
  · exact ⟨([], false), by simp, ev_t h j1, ev_t h j2⟩
  have hA := l3All_ev l (-1000) 1000 (by omega)
  simp only [Option.bind_some]
  cases h1 : l.all fun x => inB x (-1000) 1000 with
  | false =>
    rw [h1] at hA
    exact ⟨([], false), by simp, ev_f h (Ev.bind hA j1), ev_f h (by simpa using j2)⟩
  | true =>
    rw [h1] at hA
    have w1 : wrap64 ((l.length : Int) + 2) = (l.length : Int) + 2 := wr (by omega)
    have w2 : ((l.length : Int) + 2).toNat = l.length + 2 := by omega
    have js : ∀ v, Ev (fun k => spec_Shaped.l0 k l (List.replicate (l.length + 2) 0) 0) v → Ev (fun k => spec_Shaped.j0 k l false) v := by
      intro v hv
      refine Ev.step (fun _ => rfl) ?_
      simp only [spec_Shaped.j0, w1, w2]
      exact ev_f (by simp) (ev_t (by omega) (ev_t (by omega) hv))
    rcases shaped_l0 l (by omega) 0 (Nat.zero_le _) (List.replicate (l.length + 2) 0) (by simp) with ⟨v, v1, vl, v2, v3⟩ | ⟨v1, v3⟩
    · rw [List.drop_zero] at v3
      refine ⟨(v, true), by simp only; omega, ev_f h (Ev.bind hA (js _ v1)), ev_f h ?_⟩
      rw [v3]
      refine Ev.step (fun _ => rfl) ?_
      simp only [impl_Shaped.j0, w1, w2]
      exact ev_f (by simp) (ev_t (by omega) (ev_t (by omega) v2))
    · rw [List.drop_zero] at v3
      refine ⟨([], false), by simp, ev_f h (Ev.bind hA (js _ v1)), ev_f h ?_⟩
      rw [v3]
      simpa using j2
theorem P_Shaped : ∀ (l : List Int), ∃ k, laws_FnExactShaped.f k l = some true := by
  intro l
  refine Ev.rounds ?_
  simp only [laws_FnExactShaped.f]
  by_cases hl : (l.length : Int) > 1048576
  · exact ev_t hl (Ev.now _)
  have ht := toIntS_id l (by omega)
  have he := eqIntS_ev l (by omega)
  obtain ⟨⟨r, t⟩, hr, h1, h2⟩ := shaped_same l (by omega)
  simp only at hr
  have hr' := eqIntS_ev r (by omega)
  have hm := markIntS_ev l (by omega)
  have hmr := markIntS_ev r (by omega)
  have hh := heldIntS_ev r.length (by omega)
  have f2 : Ev (fun k => laws_FnExactShaped.j2 k (ones r.length) ((r.length : Int) + 1) false) true := by
    refine Ev.step (fun _ => rfl) ?_
    simp only [laws_FnExactShaped.j2]
    exact ev_f (by simp) (Ev.bind hh (ev_f (by omega) (ev_t rfl (Ev.now _))))
  have f1 : Ev (fun k => laws_FnExactShaped.j1 k l r t r false) true := by
    refine Ev.step (fun _ => rfl) ?_
    simp only [laws_FnExactShaped.j1]
    exact ev_f (by simp) (Ev.bind hmr (Ev.bind hh (ev_f (by omega) (ev_t rfl (Ev.bind ht (Ev.bind h2 (Ev.bind hr' (ev_t rfl (by simpa using f2)))))))))
  have f0 : Ev (fun k => laws_FnExactShaped.j0 k l r t l r t false) true := by
    refine Ev.step (fun _ => rfl) ?_
    simp only [laws_FnExactShaped.j0]
    exact ev_f (by simp) (Ev.bind ht (Ev.bind he (ev_t rfl (Ev.bind hm (ev_f (by simp only; omega) (Ev.bind hr' (ev_t rfl (by simpa using f1))))))))
  exact ev_f hl (Ev.bind ht (Ev.bind h1 (Ev.bind ht (Ev.bind h2 (Ev.bind hr' (ev_t rfl (by simpa using f0)))))))
theorem FnExactShaped : laws_FnExactShaped.Pure := fun l _ => P_Shaped l

end Go.Proofs.Ytlmohamgfindmaa.Pure
