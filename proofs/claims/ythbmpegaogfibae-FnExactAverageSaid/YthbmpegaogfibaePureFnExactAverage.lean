/- The pure statement of FnExactAverage, proved: for every input that the opening lets in, the printed law comes to true. -/
import Derived.Test.YthbmpegaogfibaePu0
import Derived.Test.YthbmpegaogfibaePAx1
import Derived.Test.YthbmpegaogfibaePAx2
import Derived.Test.YthbmpegaogfibaePAx4
import Derived.Test.YthbmpegaogfibaePAx5
import Derived.Test.YthbmpegaogfibaePAx6
import Derived.Test.YthbmpegaogfibaeQBase
import Derived.Test.YthbmpegaogfibaeQSort
import Derived.Test.YthbmpegaogfibaeQSorted
import Derived.Test.YthbmpegaogfibaeQStable
import Derived.Test.YthbmpegaogfibaeQShares
import Derived.Test.YthbmpegaogfibaeQSelect
import Derived.Test.YthbmpegaogfibaeQL3
import Derived.Test.YthbmpegaogfibaeQConvIntS
import Derived.Test.YthbmpegaogfibaeQMarks
import Derived.Test.YthbmpegaogfibaeStFnExactAverage
namespace Go.Proofs.Ythbmpegaogfibae.Pure
open Go.RowKit Go.Proofs.Ythbmpegaogfibae Go.Proofs.Ythbmpegaogfibae.PA Go.Proofs.Ythbmpegaogfibae.Pu Go.Proofs.YthbmpegaogfibaeW.PrintWords Go.Proofs.YthbmpegaogfibaeW.PrintLast Go.Proofs.YthbmpegaogfibaeW.PrintMore
set_option linter.unusedVariables false
set_option linter.unusedSimpArgs false
open impl_Average (row row_len quo rem lefts incs plc good)
theorem j0_t (l : List Int) (a : Int) : Ev (fun k => spec_Average.j0 k l a true) ([], false) := Ev.step (fun _ => rfl) (by
  simp only [spec_Average.j0]
  exact ev_t (by first | rfl | trivial) (Ev.now _))
theorem j1_t (l : List Int) (a s : Int) : Ev (fun k => spec_Average.j1 k l a s true) ([], false) := Ev.step (fun _ => rfl) (by
  simp only [spec_Average.j1]
  exact ev_t (by first | rfl | trivial) (Ev.now _))
theorem avg_same (l : List Int) (a : Int) (hl : l.length ≤ 1048576) : ∃ v : List Int × Bool, Ev (fun k => spec_Average.f k l a) v ∧ Ev (fun k => impl_Average.f k l a) v ∧ v.1.length ≤ 1048576 := by
  simp only [spec_Average.f, impl_Average.f, l1In_eq, in_eq, all_eq, Option.bind_some]
  cases c1 : inB (l.length : Int) 1 40 with
  | false => exact ⟨([], false), ev_f (by simp) (j0_t l a), ev_f (by simp) (Ev.now _), by simp⟩
  | true =>
  have hn := inB_t.1 c1
  have h3 := l3All_ev l 0 1000000000 (by omega)
  cases c2 : l.all fun x => inB x 0 1000000000 with
  | false =>
    rw [c2] at h3
    exact ⟨([], false), ev_t rfl (Ev.bind h3 (j0_t l a)), ev_t rfl (ev_f (by simp) (Ev.now _)), by simp⟩
  | true =>
  rw [c2] at h3
  have h : ∀ x ∈ l, 0 ≤ x ∧ x ≤ 1000000000 := fun x hx => inB_t.1 (List.all_eq_true.1 c2 x hx)
  have hs1 := l1Sum_ev l h (by omega)
  have hs2 := sumOf_ev l h (by omega)
  have hpre := pre_in l h l.length
  obtain ⟨s, hs⟩ : ∃ s, s = pre l l.length := ⟨_, rfl⟩
  rw [← hs] at hs1 hs2 hpre
  have sp : ∀ v, Ev (fun k => if s = 0 then spec_Average.j1 k l a s true else ((spec_l1Least.f s 1000000000).bind fun t172 => ((spec_l1In.f a 0 t172).bind fun t173 => (spec_Average.j1 k l a s (!t173))))) v → Ev (fun k => (spec_l3All.f k l 0 1000000000).bind fun t167 => spec_Average.j0 k l a (!t167)) v := fun v hv =>
    Ev.bind h3 (Ev.step (fun _ => rfl) (by
      simp only [spec_Average.j0]
      exact ev_f (by simp) (Ev.bind hs1 hv)))
  by_cases c3 : s = 0
  · exact ⟨([], false), ev_t rfl (sp _ (ev_t c3 (j1_t l a s))), ev_t rfl (ev_t rfl (Ev.bind hs2 (ev_t c3 (Ev.now _)))), by simp⟩
  have hls : spec_l1Least.f s 1000000000 = some (if s < 1000000000 then s else 1000000000) := by
    unfold spec_l1Least.f
    by_cases c : s < 1000000000
    · rw [if_pos c, if_pos c]
    · rw [if_neg c, if_neg c]
  by_cases c4 : 0 ≤ a ∧ a ≤ 1000000000 ∧ a ≤ s
  · have b1 : inB a 0 (if s < 1000000000 then s else 1000000000) = true := inB_t.2 (by split <;> omega)
    have b2 : inB a 0 1000000000 = true := inB_t.2 ⟨c4.1, c4.2.1⟩
    have ha : 0 ≤ a ∧ a ≤ 1000000000 := ⟨c4.1, c4.2.1⟩
    have hsp : 0 < s := by omega
    have hri := rem_in l a s h ha hsp
    have hle := left_in l a s h ha hsp hs
    obtain ⟨p1, p2⟩ := places_ok l a s (by omega) (fun x => by have := hri x; omega)
    have hgood : good l a s = true := by
      unfold impl_Average.good
      simp only [Bool.and_eq_true, decide_eq_true_eq]
      exact ⟨⟨⟨by omega, c3⟩, hle.1⟩, hle.2⟩
    obtain ⟨M, hM⟩ : ∃ M : Nat, lefts l a s l.length = (M : Int) := ⟨(lefts l a s l.length).toNat, by omega⟩
    refine ⟨(row l.length (incs (plc l a s) (quo l a s) M), true), ev_t rfl (sp _ (ev_f c3 ?_)), ev_t rfl (ev_t rfl (Ev.bind hs2 (ev_f c3 ?_))), by rw [row_len]; omega⟩
    · rw [hls]
      simp only [Option.bind_some, l1In_eq, b1]
      refine Ev.step (fun _ => rfl) ?_
      simp only [spec_Average.j1]
      refine ev_f (by simp) ?_
      have e1 := l1_ev l.length M (rem l a s) (plc l a s) (quo l a s) p1 p2 (fun x => (hri x).1) (by omega) (by omega) M 0 (by omega)
      have e0 := l0_ev l a s (by omega) c3 _ (by rw [hM]; rw [show ((M : Int) - ((0 : Nat) : Int)) = M by omega] at e1; exact e1) 0 (Nat.zero_le _)
      exact e0
    · rw [b2]
      refine ev_t rfl (ev_f (by omega) ?_)
      simp only [impl_Average.fin]
      rw [if_pos hgood, hM]
      exact Ev.now _
  · have b1 : inB a 0 (if s < 1000000000 then s else 1000000000) = false := inB_f.2 (by split <;> omega)
    refine ⟨([], false), ev_t rfl (sp _ (ev_f c3 ?_)), ev_t rfl (ev_t rfl (Ev.bind hs2 (ev_f c3 ?_))), by simp⟩
    · rw [hls]
      simp only [Option.bind_some, l1In_eq, b1]
      exact j1_t l a s
    · cases b2 : inB a 0 1000000000 with
      | false => exact ev_f (by simp) (Ev.now _)
      | true => exact ev_t rfl (ev_t (by have := inB_t.1 b2; omega) (Ev.now _))
theorem P_Average : ∀ (l : List Int) (a : Int), l.length ≤ maxLen → ∃ k, laws_FnExactAverage.f k l a = some true := by
  intro l a hl
  refine Ev.rounds ?_
  unfold maxLen at hl
  simp only [laws_FnExactAverage.f]
  by_cases h : (l.length : Int) > 1048576
  · exact ev_t h (Ev.now _)
  · refine ev_f h ?_
    have hto := toIntS_id l (by omega)
    obtain ⟨v, v1, v2, v3⟩ := avg_same l a (by omega)
    have heq := eqIntS_ev l (by omega)
    have hev : Ev (fun k => laws_eqIntS.f k v.1 v.1) true := eqIntS_ev v.1 (by omega)
    have hms := markIntS_ev l (by omega)
    have hmv := markIntS_ev v.1 (by omega)
    have hh := heldIntS_ev v.1.length (by omega)
    have j2 : Ev (fun k => laws_FnExactAverage.j2 k (ones v.1.length) ((v.1.length : Int) + 1) false) true := Ev.step (fun _ => rfl) (by
      simp only [laws_FnExactAverage.j2]
      exact ev_f (by simp) (Ev.bind hh (ev_f (by omega) (ev_t rfl (Ev.now _)))))
    have j1 : Ev (fun k => laws_FnExactAverage.j1 k l a v.1 v.2 v.1 false) true := Ev.step (fun _ => rfl) (by
      simp only [laws_FnExactAverage.j1]
      refine ev_f (by simp) (Ev.bind hmv (Ev.bind hh (ev_f (by omega) (ev_t rfl (Ev.bind hto (Ev.bind v2 (Ev.bind hev (ev_t rfl ?_))))))))
      simpa using j2)
    have j0 : Ev (fun k => laws_FnExactAverage.j0 k l a v.1 v.2 l v.1 v.2 false) true := Ev.step (fun _ => rfl) (by
      simp only [laws_FnExactAverage.j0]
      refine ev_f (by simp) (Ev.bind hto (Ev.bind heq (ev_t rfl (Ev.bind hms (ev_f (by omega) (Ev.bind hev (ev_t rfl ?_)))))))
      simpa using j1)
    refine Ev.bind hto (Ev.bind v1 (Ev.bind hto (Ev.bind v2 (Ev.bind hev (ev_t rfl ?_)))))
    simpa using j0
theorem FnExactAverage : laws_FnExactAverage.Pure := fun l a g _ => P_Average l a g.1

end Go.Proofs.Ythbmpegaogfibae.Pure
