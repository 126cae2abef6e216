/- The pure statement of FnExactBound17, proved: for every input that the opening lets in, the printed law comes to true. -/
import Derived.Test.YtfeaabdighopbaaPu0
import Derived.Test.YtfeaabdighopbaaPGx0
import Derived.Test.YtfeaabdighopbaaPGx11
import Derived.Test.YtfeaabdighopbaaPGx12
import Derived.Test.YtfeaabdighopbaaPGx13
import Derived.Test.YtfeaabdighopbaaGQBase
import Derived.Test.YtfeaabdighopbaaGQConvCallS
import Derived.Test.YtfeaabdighopbaaGQCalls
import Derived.Test.YtfeaabdighopbaaStFnExactBound17
namespace Go.Proofs.Ytfeaabdighopbaa.Pure
open Go.RowKit Go.Proofs.Ytfeaabdighopbaa Go.Proofs.Ytfeaabdighopbaa.PG Go.Proofs.Ytfeaabdighopbaa.Pu Go.Proofs.YtfeaabdighopbaaW.PrintWords Go.Proofs.YtfeaabdighopbaaW.PrintLast Go.Proofs.YtfeaabdighopbaaW.PrintMore
set_option linter.unusedVariables false
set_option linter.unusedSimpArgs false
theorem bd_l0 (l : List S91) (hl : l.length ≤ 1048576) : ∀ i : Nat, i ≤ l.length → ∀ best : Int, ∃ v : Int × Bool, Ev (fun k => spec_Bound17.l0 k l best i) v ∧ Ev (fun k => impl_Bound17.l0 k l best l l.length i) v := by
  refine down ?_ ?_
  · intro best
    refine ⟨(best, true), Ev.step (fun _ => rfl) ?_, Ev.step (fun _ => rfl) ?_⟩
    · simp only [spec_Bound17.l0]; exact ev_f (by omega) (Ev.now _)
    · simp only [impl_Bound17.l0]; exact ev_f (by omega) (Ev.now _)
  · intro i hi ih best
    obtain ⟨x, hx⟩ : ∃ x, x = rd_T91 l i := ⟨_, rfl⟩
    have inner : ∀ j : Nat, j ≤ l.length → ∀ s : Int, ∃ v : Int × Bool, Ev (fun k => spec_Bound17.l1 k l best i s j) v ∧ Ev (fun k => impl_Bound17.l1 k l best s l l.length i l l.length j x.f0 x.f1 x.f2 x.f3 x.f4) v := by
      refine down ?_ ?_
      · intro s
        by_cases c : s > best
        · obtain ⟨v, v1, v2⟩ := ih s
          refine ⟨v, Ev.step (fun _ => rfl) ?_, Ev.step (fun _ => rfl) ?_⟩
          · simp only [spec_Bound17.l1]; rw [wr (x := (i : Int) + 1) (by omega)]; exact ev_f (by omega) (ev_t c v1)
          · simp only [impl_Bound17.l1]; rw [wr (x := (i : Int) + 1) (by omega), show mx best s = s from if_pos c]; exact ev_f (by omega) v2
        · obtain ⟨v, v1, v2⟩ := ih best
          refine ⟨v, Ev.step (fun _ => rfl) ?_, Ev.step (fun _ => rfl) ?_⟩
          · simp only [spec_Bound17.l1]; rw [wr (x := (i : Int) + 1) (by omega)]; exact ev_f (by omega) (ev_f c v1)
          · simp only [impl_Bound17.l1]; rw [wr (x := (i : Int) + 1) (by omega), show mx best s = best from if_neg c]; exact ev_f (by omega) v2
      · intro j hj jh s
        obtain ⟨v, v1, v2⟩ := jh s
        obtain ⟨u, u1, u2⟩ := jh (wrap64 (s + (rd_T91 l j).f1))
        cases hc : inB x.f2 (rd_T91 l j).f2 (wrap64 ((rd_T91 l j).f3 - 1)) with
        | true =>
          refine ⟨u, Ev.step (fun _ => rfl) ?_, Ev.step (fun _ => rfl) ?_⟩
          · simp only [spec_Bound17.l1, ← hx, l1In_eq, Option.bind_some, hc]; rw [wr (x := (j : Int) + 1) (by omega)]
            exact ev_t (by omega) (ev_t (by omega) (ev_t (by omega) (ev_t (by omega) (ev_t (by first | rfl | trivial) u1))))
          · simp only [impl_Bound17.l1, in_eq, Option.bind_some, hc]; rw [wr (x := (j : Int) + 1) (by omega)]
            exact ev_t (by omega) (ev_t (by omega) (ev_t (by omega) (ev_t (by first | rfl | trivial) u2)))
        | false =>
          refine ⟨v, Ev.step (fun _ => rfl) ?_, Ev.step (fun _ => rfl) ?_⟩
          · simp only [spec_Bound17.l1, ← hx, l1In_eq, Option.bind_some, hc]; rw [wr (x := (j : Int) + 1) (by omega)]
            exact ev_t (by omega) (ev_t (by omega) (ev_t (by omega) (ev_t (by omega) (ev_f (by simp) v1))))
          · simp only [impl_Bound17.l1, in_eq, Option.bind_some, hc]; rw [wr (x := (j : Int) + 1) (by omega)]
            exact ev_t (by omega) (ev_t (by omega) (ev_t (by omega) (ev_f (by simp) v2)))
    obtain ⟨v, v1, v2⟩ := inner 0 (Nat.zero_le _) 0
    refine ⟨v, Ev.step (fun _ => rfl) ?_, Ev.step (fun _ => rfl) ?_⟩
    · simp only [spec_Bound17.l0]; exact ev_t (by omega) v1
    · simp only [impl_Bound17.l0, ← hx]; exact ev_t (by omega) (ev_t (by omega) (ev_t (by omega) v2))
theorem bd_same (g : Int) (l : List S91) (hl : l.length ≤ 1048576) : ∃ v : Int × Bool, Ev (fun k => spec_Bound17.f k g l) v ∧ Ev (fun k => impl_Bound17.f k g l) v := by
  obtain ⟨c, c1, c2⟩ := calls_same g l hl
  simp only [spec_Bound17.f, impl_Bound17.f]
  cases c with
  | false => exact ⟨(0, false), Ev.bind c1 (ev_f (by simp) (Ev.now _)), Ev.bind c2 (ev_f (by simp) (Ev.now _))⟩
  | true =>
    obtain ⟨v, v1, v2⟩ := bd_l0 l hl 0 (Nat.zero_le _) 0
    exact ⟨v, Ev.bind c1 (ev_t rfl v1), Ev.bind c2 (ev_t rfl v2)⟩
theorem P_Bound17 : ∀ (g : Int) (l : List S93), l.length ≤ maxLen → ∃ k, laws_FnExactBound17.f k g l = some true := by
  intro g l hl
  refine Ev.rounds ?_
  unfold maxLen at hl
  simp only [laws_FnExactBound17.f]
  obtain ⟨s, hs, hs2⟩ := szCall_ev l (by omega)
  simp only [hs, Option.bind_some]
  by_cases h : s < 0
  · exact ev_t h (Ev.now _)
  · have h1 := hs2 (by omega)
    have ht := toCallS_ev l (by omega)
    have h3 : (l.map cCall).length ≤ 1048576 := by simp; omega
    obtain ⟨v, v1, v2⟩ := bd_same g (l.map cCall) h3
    have u : Ev (fun k => laws_FnExactBound17.j0 k l (l.map cCall) false) true := Ev.step (fun _ => rfl) (by
      simp only [laws_FnExactBound17.j0]
      exact ev_f (by simp) (Ev.bind ht (Ev.bind (eqCallS_ev _ (by omega)) (ev_t rfl (Ev.now _)))))
    exact ev_f h (Ev.bind ht (Ev.bind v1 (Ev.bind ht (Ev.bind v2 (ev_t rfl (by simpa using u))))))
theorem FnExactBound17 : laws_FnExactBound17.Pure := fun g l _ h => P_Bound17 g l h.1

end Go.Proofs.Ytfeaabdighopbaa.Pure
