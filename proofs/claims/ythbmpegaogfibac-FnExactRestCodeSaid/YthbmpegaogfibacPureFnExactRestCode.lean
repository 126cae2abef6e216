/- The pure statement of FnExactRestCode, proved: for every input that the opening lets in, the printed law comes to true. -/
import Derived.Test.YthbmpegaogfibacPu0
import Derived.Test.YthbmpegaogfibacPAx0
import Derived.Test.YthbmpegaogfibacPAx1
import Derived.Test.YthbmpegaogfibacPAx2
import Derived.Test.YthbmpegaogfibacPAx5
import Derived.Test.YthbmpegaogfibacPAx7
import Derived.Test.YthbmpegaogfibacPAx9
import Derived.Test.YthbmpegaogfibacPAx12
import Derived.Test.YthbmpegaogfibacQBase
import Derived.Test.YthbmpegaogfibacQSpells
import Derived.Test.YthbmpegaogfibacQConvSpellS
import Derived.Test.YthbmpegaogfibacQWorks
import Derived.Test.YthbmpegaogfibacQSplits
import Derived.Test.YthbmpegaogfibacStFnExactRestCode
namespace Go.Proofs.Ythbmpegaogfibac.Pure
open Go.RowKit Go.Proofs.Ythbmpegaogfibac Go.Proofs.Ythbmpegaogfibac.PA Go.Proofs.Ythbmpegaogfibac.Pu Go.Proofs.YthbmpegaogfibacW.PrintWords Go.Proofs.YthbmpegaogfibacW.PrintLast Go.Proofs.YthbmpegaogfibacW.PrintMore
set_option linter.unusedVariables false
set_option linter.unusedSimpArgs false
theorem days_ev (l : List S33) (hs : Srt l) (hl : l.length ≤ 100) (hf : ∀ s ∈ l, s.f1 ≤ 30000) (u : Int) (hu : 0 ≤ u ∧ u ≤ 30000) : ∀ (d : Nat) (t : Int), 1440 ≤ t → d = (u + 1 - t).toNat → Ev (fun k => spec_RestCode.l1 k l u t) (impl_RestCode.days l d t)
  | 0, t, ht, hd => by
    refine Ev.step (fun _ => rfl) ?_
    simp only [spec_RestCode.l1, impl_RestCode.days]
    exact ev_f (by omega) (Ev.now _)
  | d + 1, t, ht, hd => by
    have ih := days_ev l hs hl hf u hu d (t + 1) (by omega) (by omega)
    have hw := fun m (hm : 0 ≤ m ∧ m ≤ 30000) => (W_eq l hs (m : Int).toNat (by omega))
    obtain ⟨w1, w2, w3⟩ := hw t (by omega)
    obtain ⟨w4, w5, w6⟩ := hw (t - 1440) (by omega)
    rw [show ((t.toNat : Nat) : Int) = t by omega] at w1 w3
    rw [show (((t - 1440).toNat : Nat) : Int) = t - 1440 by omega] at w4 w6
    have e1 := work_ev l hs hl (t - 1440) t (by omega) (by omega) (by omega) hf
    rw [← w1, ← w4] at e1
    have e3 := split_ev l hs hl (t - 1440) t (by omega) (by omega) hf
    rw [← rests_eq l hs t (by omega)] at e3
    refine Ev.step (fun _ => rfl) ?_
    simp only [spec_RestCode.l1, impl_RestCode.days]
    rw [wr (x := t - 1440) (by omega), wr (x := impl_RestCode.W l t.toNat - impl_RestCode.W l (t - 1440).toNat) (by omega)]
    refine ev_t (by omega) (Ev.bind e1 ?_)
    by_cases c1 : impl_RestCode.W l t.toNat - impl_RestCode.W l (t - 1440).toNat > 840
    · rw [if_pos c1]; exact ev_t c1 (Ev.now _)
    rw [if_neg c1]
    refine ev_f c1 ?_
    have j4 : ∀ v, (if impl_RestCode.rests l t = true then impl_RestCode.days l d (t + 1) else (4, t)) = v → Ev (fun k => spec_RestCode.j4 k l u t false) v := fun v hv => by
      refine Ev.step (fun _ => rfl) ?_
      simp only [spec_RestCode.j4]
      rw [wr (x := t - 1440) (by omega), wr (x := t + 1) (by omega)]
      refine ev_f (by simp) (Ev.bind e3 ?_)
      subst hv
      cases impl_RestCode.rests l t with
      | true => exact ev_t (by first | rfl | trivial) (by simpa using ih)
      | false => exact ev_f (by simp) (by simpa using Ev.now _)
    by_cases c2 : t ≥ 10080
    · obtain ⟨w7, w8, w9⟩ := hw (t - 10080) (by omega)
      rw [show (((t - 10080).toNat : Nat) : Int) = t - 10080 by omega] at w7 w9
      have e2 := work_ev l hs hl (t - 10080) t (by omega) (by omega) (by omega) hf
      rw [← w1, ← w7] at e2
      rw [wr (x := t - 10080) (by omega), wr (x := impl_RestCode.W l t.toNat - impl_RestCode.W l (t - 10080).toNat) (by omega)]
      refine ev_t c2 (Ev.bind e2 ?_)
      by_cases c3 : impl_RestCode.W l t.toNat - impl_RestCode.W l (t - 10080).toNat > 5460
      · rw [if_pos ⟨c2, c3⟩, decide_eq_true c3]
        refine Ev.step (fun _ => rfl) ?_
        simp only [spec_RestCode.j4]
        exact ev_t (by first | rfl | trivial) (Ev.now _)
      · rw [if_neg (fun h => c3 h.2), decide_eq_false c3]
        exact j4 _ rfl
    · rw [if_neg (fun h => c2 h.1)]
      exact ev_f c2 (j4 _ rfl)
theorem bad_ev (l : List S33) (hl : l.length ≤ 1048576) (u : Int) (v : Int × Int) (h : Ev (fun k => spec_RestCode.j2 k l u (l.any fun s => decide (s.f1 > 30000))) v) : Ev (fun k => spec_RestCode.l0 k l u false 0) v := by
  have key : ∀ i : Nat, i ≤ l.length → (l.take i).any (fun s => decide (s.f1 > 30000)) = false → Ev (fun k => spec_RestCode.l0 k l u false (i : Int)) v := by
    refine down ?_ ?_
    · intro hn
      rw [List.take_length] at hn
      rw [hn] at h
      refine Ev.step (fun _ => rfl) ?_
      simp only [spec_RestCode.l0]
      exact ev_f (by omega) h
    · intro i hi ih hn
      refine Ev.step (fun _ => rfl) ?_
      simp only [spec_RestCode.l0]
      rw [wr (x := (i : Int) + 1) (by omega), show rd_T33 l (i : Int) = l[i] by simp [rd_T33, hi]]
      refine ev_t (by omega) (ev_f (by simp) (ev_t (by omega) ?_))
      have ht : (l.take (i + 1)).any (fun s => decide (s.f1 > 30000)) = decide (l[i].f1 > 30000) := by
        rw [List.take_add_one, List.getElem?_eq_getElem hi, List.any_append, hn]; simp
      cases c : decide (l[i].f1 > 30000) with
      | false => exact ih (by rw [ht, c])
      | true =>
        have ha : (l.any fun s => decide (s.f1 > 30000)) = true := List.any_eq_true.2 ⟨l[i], List.getElem_mem _, c⟩
        rw [ha] at h
        refine Ev.step (fun _ => rfl) ?_
        simp only [spec_RestCode.l0]
        by_cases e : (i : Int) + 1 < (l.length : Int)
        · exact ev_t e (ev_t (by first | rfl | trivial) h)
        · exact ev_f e h
  exact key 0 (Nat.zero_le _) rfl
theorem bad_t (l : List S33) (u : Int) : Ev (fun k => spec_RestCode.j0 k l u true) (1, -1) := by
  have j2 : Ev (fun k => spec_RestCode.j2 k l u true) (1, -1) := Ev.step (fun _ => rfl) (by
    simp only [spec_RestCode.j2]
    exact ev_t (by first | rfl | trivial) (Ev.now _))
  refine Ev.step (fun _ => rfl) ?_
  simp only [spec_RestCode.j0]
  refine Ev.step (fun _ => rfl) ?_
  simp only [spec_RestCode.l0]
  by_cases e : (0 : Int) < (l.length : Int)
  · exact ev_t e (ev_t (by first | rfl | trivial) j2)
  · exact ev_f e j2
theorem rest_same (l : List S33) (u : Int) (hl : l.length ≤ 1048576) : ∃ v, Ev (fun k => spec_RestCode.f k l u) v ∧ Ev (fun k => impl_RestCode.f k l u) v := by
  have s1 := spellsok1 l hl
  have s2 := spellsok2 l hl
  change Ev (fun k => spec_SpellsOk.f k l) (spellsB l) at s1
  change Ev (fun k => impl_SpellsOk.f k l) (spellsB l) at s2
  simp only [spec_RestCode.f, impl_RestCode.f, l1In_eq, in_eq, Option.bind_some]
  cases hb : spellsB l with
  | false =>
    rw [hb] at s1 s2
    exact ⟨(1, -1), Ev.bind s1 (ev_f (by simp) (bad_t l u)), Ev.bind s2 (ev_f (by simp) (Ev.now _))⟩
  | true =>
  rw [hb] at s1 s2
  obtain ⟨hs, h100⟩ := srt_of hb
  cases hu : inB u 0 30000 with
  | false =>
    exact ⟨(1, -1), Ev.bind s1 (ev_t (by first | rfl | trivial) (bad_t l u)), Ev.bind s2 (ev_t (by first | rfl | trivial) (ev_f (by simp) (Ev.now _)))⟩
  | true =>
  have hu2 := inB_t.1 hu
  cases ha : l.any fun s => decide (s.f1 > 30000) with
  | true =>
    refine ⟨(1, -1), Ev.bind s1 (ev_t (by first | rfl | trivial) ?_), Ev.bind s2 (ev_t (by first | rfl | trivial) (ev_t (by first | rfl | trivial) (ev_t (by first | rfl | trivial) (Ev.now _))))⟩
    refine Ev.step (fun _ => rfl) ?_
    simp only [spec_RestCode.j0, Bool.not_true]
    refine bad_ev l hl u _ ?_
    rw [ha]
    refine Ev.step (fun _ => rfl) ?_
    simp only [spec_RestCode.j2]
    exact ev_t (by first | rfl | trivial) (Ev.now _)
  | false =>
    have hf : ∀ s ∈ l, s.f1 ≤ 30000 := fun s hs2 => by
      have := List.any_eq_false.1 ha s hs2
      simpa using this
    refine ⟨impl_RestCode.days l (u + 1 - 1440).toNat 1440, Ev.bind s1 (ev_t (by first | rfl | trivial) ?_), Ev.bind s2 (ev_t (by first | rfl | trivial) (ev_t (by first | rfl | trivial) (ev_f (by simp) (ev_t ⟨List.all_eq_true.2 fun s hs2 => by have := (hs.2 s hs2).1; simpa using this, hu2.1, hu2.2, by omega⟩ (Ev.now _)))))⟩
    refine Ev.step (fun _ => rfl) ?_
    simp only [spec_RestCode.j0, Bool.not_true]
    refine bad_ev l hl u _ ?_
    rw [ha]
    refine Ev.step (fun _ => rfl) ?_
    simp only [spec_RestCode.j2]
    exact ev_f (by simp) (days_ev l hs h100 hf u hu2 _ 1440 (Int.le_refl _) rfl)
theorem P_RestCode : ∀ (l : List S37) (u : Int), l.length ≤ maxLen → ∃ k, laws_FnExactRestCode.f k l u = some true := by
  intro l u hl
  refine Ev.rounds ?_
  unfold maxLen at hl
  simp only [laws_FnExactRestCode.f, laws_szSpellS.f]
  rw [wr (by omega)]
  by_cases h : (l.length : Int) ≤ 1048576
  · rw [if_neg (by omega)]
    simp only [Option.bind_some]
    have ht := toSpellS_ev l (by omega)
    have h' : (l.map cSpell).length ≤ 1048576 := by simp; omega
    obtain ⟨v, v1, v2⟩ := rest_same (l.map cSpell) u h'
    have j0 : Ev (fun k => laws_FnExactRestCode.j0 k l (l.map cSpell) false) true := Ev.step (fun _ => rfl) (by
      simp only [laws_FnExactRestCode.j0]
      exact ev_f (by simp) (Ev.bind ht (Ev.bind (eqSpellS_ev _ (by omega)) (ev_t rfl (Ev.now _)))))
    refine ev_f (by omega) (Ev.bind ht (Ev.bind v1 (Ev.bind ht (Ev.bind v2 (ev_t rfl ?_)))))
    simpa using j0
  · rw [if_pos (by omega)]
    simp only [Option.bind_some]
    exact ev_t (by omega) (Ev.now _)
theorem FnExactRestCode : laws_FnExactRestCode.Pure := fun l u h _ => P_RestCode l u h.1

end Go.Proofs.Ythbmpegaogfibac.Pure
