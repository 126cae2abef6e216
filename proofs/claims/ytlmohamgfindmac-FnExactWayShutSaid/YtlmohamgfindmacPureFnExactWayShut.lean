/- The pure statement of FnExactWayShut, proved: for every input that the opening lets in, the printed law comes to true. -/
import Derived.Test.YtlmohamgfindmacPu0
import Derived.Test.YtlmohamgfindmacPAx0
import Derived.Test.YtlmohamgfindmacPAx44
import Derived.Test.YtlmohamgfindmacPAx45
import Derived.Test.YtlmohamgfindmacPAx46
import Derived.Test.YtlmohamgfindmacPAx47
import Derived.Test.YtlmohamgfindmacPAx48
import Derived.Test.YtlmohamgfindmacQWays
import Derived.Test.YtlmohamgfindmacQSeas
import Derived.Test.YtlmohamgfindmacQBase
import Derived.Test.YtlmohamgfindmacStFnExactWayShut
namespace Go.Proofs.Ytlmohamgfindmac.Pure
open Go.RowKit Go.Proofs.Ytlmohamgfindmac Go.Proofs.Ytlmohamgfindmac.PA Go.Proofs.Ytlmohamgfindmac.Pu Go.Proofs.YtlmohamgfindmacW.PrintWords Go.Proofs.YtlmohamgfindmacW.PrintLast Go.Proofs.YtlmohamgfindmacW.PrintMore
set_option linter.unusedVariables false
set_option linter.unusedSimpArgs false
theorem shut_same (a b : Int) (l : List Int) (f : List S192) (p st : Int) (ha : 1 ≤ a) (hf : f.length ≤ 1048576) : ∃ v, Ev (fun k => spec_l7Shut.f k a b l f p st) v ∧ Ev (fun k => impl_Sea_shut.f k a b l f p st) v := by
  have key : ∀ i, i ≤ f.length → ∃ v, Ev (fun k => spec_l7Shut.l0 k p st (i : Int) a b l f) v ∧ Ev (fun k => impl_Sea_shut.l0 k st (Int.tmod p a) (wrap64 (Int.tdiv p a)) f f.length (i : Int)) v := by
    refine down ?_ ?_
    · refine ⟨false, Ev.step (fun _ => rfl) ?_, Ev.step (fun _ => rfl) ?_⟩
      · simp only [spec_l7Shut.l0]; exact ev_f (by omega) (Ev.now _)
      · simp only [impl_Sea_shut.l0]; exact ev_f (by omega) (Ev.now _)
    · intro i hi ih
      obtain ⟨v, v1, v2⟩ := ih
      have e : ∀ r, (inB (Int.tmod p a) (rd_T192 f i).f0 (rd_T192 f i).f2 && (inB (wrap64 (Int.tdiv p a)) (rd_T192 f i).f1 (rd_T192 f i).f3 && inB st (rd_T192 f i).f4 (rd_T192 f i).f5)) = r → Ev (fun k => spec_l7Shut.l0 k p st (i : Int) a b l f) (r || v) ∧ Ev (fun k => impl_Sea_shut.l0 k st (Int.tmod p a) (wrap64 (Int.tdiv p a)) f f.length (i : Int)) (r || v) := by
        intro r hr
        refine ⟨Ev.step (fun _ => rfl) ?_, Ev.step (fun _ => rfl) ?_⟩
        · simp only [spec_l7Shut.l0, l1In_eq, Option.bind_some]
          rw [wr (x := (i : Int) + 1) (by omega)]
          refine ev_t (by omega) (ev_t (by omega) (ev_f (by omega) ?_))
          subst hr
          cases inB (Int.tmod p a) (rd_T192 f i).f0 (rd_T192 f i).f2 <;> cases inB (wrap64 (Int.tdiv p a)) (rd_T192 f i).f1 (rd_T192 f i).f3 <;> cases inB st (rd_T192 f i).f4 (rd_T192 f i).f5 <;> first | exact v1 | exact Ev.now _
        · simp only [impl_Sea_shut.l0, in_eq, Option.bind_some]
          rw [wr (x := (i : Int) + 1) (by omega)]
          refine ev_t (by omega) (ev_t (by omega) (ev_t (by omega) ?_))
          subst hr
          cases inB (Int.tmod p a) (rd_T192 f i).f0 (rd_T192 f i).f2 <;> cases inB (wrap64 (Int.tdiv p a)) (rd_T192 f i).f1 (rd_T192 f i).f3 <;> cases inB st (rd_T192 f i).f4 (rd_T192 f i).f5 <;> first | exact v2 | exact Ev.now _
      exact ⟨_, (e _ rfl).1, (e _ rfl).2⟩
  obtain ⟨v, v1, v2⟩ := key 0 (Nat.zero_le _)
  refine ⟨v, by simp only [spec_l7Shut.f]; exact v1, ?_⟩
  simp only [impl_Sea_shut.f]
  exact ev_f (by omega) v2
theorem wshut_l0 (a b : Int) (l : List Int) (f : List S192) (w : List Int) (ha : 1 ≤ a) (hf : f.length ≤ 1048576) (hw : w.length ≤ 1048576) : ∀ i : Nat, i ≤ w.length → ∃ v, Ev (fun k => spec_WayShut.l0 k w true i a b l f) v ∧ Ev (fun k => impl_WayShut.l0 k w w.length i a b l f) v := by
  refine down ?_ ?_
  · refine ⟨(-1, false), Ev.step (fun _ => rfl) ?_, Ev.step (fun _ => rfl) ?_⟩
    · simp only [spec_WayShut.l0]
      refine ev_f (by omega) (Ev.step (fun _ => rfl) ?_)
      simp only [spec_WayShut.j1]
      exact ev_f (by simp) (Ev.now _)
    · simp only [impl_WayShut.l0]; exact ev_f (by omega) (Ev.now _)
  · intro i hi ih
    obtain ⟨v, v1, v2⟩ := ih
    obtain ⟨t, t1, t2⟩ := shut_same a b l f (rd w i) i ha hf
    refine ⟨if t = true then ((i : Int), true) else v, Ev.step (fun _ => rfl) ?_, Ev.step (fun _ => rfl) ?_⟩
    · simp only [spec_WayShut.l0]
      refine ev_t (by omega) (Ev.step (fun _ => rfl) ?_)
      simp only [spec_WayShut.j1]
      rw [wr (x := (i : Int) + 1) (by omega)]
      refine ev_t (by first | rfl | trivial) (ev_t (by omega) (ev_t (by omega) (Ev.bind t1 ?_)))
      cases t with
      | true => exact ev_t rfl (Ev.now _)
      | false => exact ev_f (by simp) (by simpa using v1)
    · simp only [impl_WayShut.l0]
      rw [wr (x := (i : Int) + 1) (by omega)]
      refine ev_t (by omega) (ev_t (by omega) (ev_t (by omega) (Ev.bind t2 ?_)))
      cases t with
      | true => exact ev_t rfl (Ev.now _)
      | false => exact ev_f (by simp) (by simpa using v2)
theorem wshut_same (a b : Int) (l : List Int) (f : List S192) (w : List Int) (hl : l.length ≤ 1048576) (hf : f.length ≤ 1048576) (hw : w.length ≤ 1048576) : ∃ v, Ev (fun k => spec_WayShut.f k a b l f w) v ∧ Ev (fun k => impl_WayShut.f k a b l f w) v := by
  obtain ⟨⟨c, t⟩, v1, v2, v3⟩ := way_same a b l f w hl hf hw
  simp only [spec_WayShut.f, impl_WayShut.f]
  cases t with
  | false =>
    refine ⟨(-1, false), Ev.bind v1 (Ev.step (fun _ => rfl) ?_), Ev.bind v2 (ev_f (by simp) (Ev.now _))⟩
    simp only [spec_WayShut.l0]
    have e : Ev (fun k => spec_WayShut.j1 k w false 0 false a b l f) (-1, false) := by
      refine Ev.step (fun _ => rfl) ?_
      simp only [spec_WayShut.j1]
      exact ev_f (by simp) (Ev.now _)
    by_cases h : (0 : Int) < (w.length : Int)
    · exact ev_t h e
    · exact ev_f h e
  | true =>
    obtain ⟨ha, _⟩ := seaB_t (v3 rfl)
    obtain ⟨v, w1, w2⟩ := wshut_l0 a b l f w ha hf hw 0 (Nat.zero_le _)
    exact ⟨v, Ev.bind v1 w1, Ev.bind v2 (ev_t rfl w2)⟩
theorem P_WayShut : ∀ (x : S93) (w : List Int), x.f2.length ≤ maxLen → x.f3.length ≤ maxLen → ∃ k, laws_FnExactWayShut.f k x.f0 x.f1 x.f2 x.f3 w = some true := by
  intro x w hl hf
  refine Ev.rounds ?_
  unfold maxLen at hl hf
  simp only [laws_FnExactWayShut.f]
  by_cases hw : (w.length : Int) > 1048576
  · exact ev_t hw (Ev.now _)
  refine ev_f hw ?_
  obtain ⟨s, hs, hs2⟩ := szSea_ev x.f0 x.f1 x.f2 x.f3 (by omega) (by omega)
  simp only [hs, Option.bind_some]
  by_cases h : s < 0
  · exact ev_t h (Ev.now _)
  · obtain ⟨h1, h2⟩ := hs2 (by omega)
    have ht := toSea_ev x.f0 x.f1 x.f2 x.f3 h1 h2
    have h3 : (x.f3.map cClosed).length ≤ 1048576 := by simp; omega
    have hti := toIntS_id w (by omega)
    obtain ⟨v, v1, v2⟩ := wshut_same x.f0 x.f1 x.f2 (x.f3.map cClosed) w h1 h3 (by omega)
    have fin : Ev (fun k => laws_FnExactWayShut.j0 k w w false x.f0 x.f1 x.f2 x.f3 x.f0 x.f1 x.f2 (x.f3.map cClosed)) true := by
      refine Ev.step (fun _ => rfl) ?_
      simp only [laws_FnExactWayShut.j0]
      exact ev_f (by simp) (Ev.bind ht (Ev.bind (eqSea_ev _ _ _ _ h1 h3) (ev_t rfl (Ev.bind hti (Ev.bind (eqIntS_ev w (by omega)) (ev_t rfl (Ev.now _)))))))
    exact ev_f h (Ev.bind ht (Ev.bind hti (Ev.bind v1 (Ev.bind ht (Ev.bind hti (Ev.bind v2 (ev_t rfl (by simpa using fin))))))))
theorem FnExactWayShut : laws_FnExactWayShut.Pure := fun x l h h2 => P_WayShut x l h.2.2.1.1 h.2.2.2.1

end Go.Proofs.Ytlmohamgfindmac.Pure
