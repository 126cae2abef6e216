/- The pure statement of FnExactHops, proved: for every input that the opening lets in, the printed law comes to true. -/
import Derived.Test.YthbmpegaogfibabPu0
import Derived.Test.YthbmpegaogfibabPAx1
import Derived.Test.YthbmpegaogfibabPAx3
import Derived.Test.YthbmpegaogfibabPAx5
import Derived.Test.YthbmpegaogfibabPAx6
import Derived.Test.YthbmpegaogfibabPAx7
import Derived.Test.YthbmpegaogfibabPAx9
import Derived.Test.YthbmpegaogfibabQBase
import Derived.Test.YthbmpegaogfibabQL3
import Derived.Test.YthbmpegaogfibabQConvIntS
import Derived.Test.YthbmpegaogfibabQFloor
import Derived.Test.YthbmpegaogfibabQMarks
import Derived.Test.YthbmpegaogfibabQHopsR
import Derived.Test.YthbmpegaogfibabStFnExactHops
namespace Go.Proofs.Ythbmpegaogfibab.Pure
open Go.RowKit Go.Proofs.Ythbmpegaogfibab Go.Proofs.Ythbmpegaogfibab.PA Go.Proofs.Ythbmpegaogfibab.Pu Go.Proofs.YthbmpegaogfibabW.PrintWords Go.Proofs.YthbmpegaogfibabW.PrintLast Go.Proofs.YthbmpegaogfibabW.PrintMore
set_option linter.unusedVariables false
set_option linter.unusedSimpArgs false
def floorB (a b : Int) (l : List Int) : Bool := inB a 1 10 && (inB b 1 10 && (decide ((l.length : Int) = wrap64 (a * b)) && l.all fun x => inB x 0 15))
theorem floor_t {a b : Int} {l : List Int} (h : floorB a b l = true) : 1 ≤ a ∧ a ≤ 10 ∧ 1 ≤ b ∧ b ≤ 10 ∧ (l.length : Int) = a * b ∧ 1 ≤ a * b ∧ a * b ≤ 100 := by
  simp only [floorB, Bool.and_eq_true, inB_t, decide_eq_true_eq] at h
  obtain ⟨⟨h1, h2⟩, ⟨h3, h4⟩, h5, _⟩ := h
  have m1 : a * b ≤ 10 * b := Int.mul_le_mul_of_nonneg_right h2 (by omega)
  have m2 : 1 * b ≤ a * b := Int.mul_le_mul_of_nonneg_right h1 (by omega)
  rw [wr (by omega)] at h5
  exact ⟨h1, h2, h3, h4, h5, by omega, by omega⟩
theorem fill_ev (a b : Int) (l : List Int) (s : Int) (hl : l.length ≤ 100) (v : List Int × Bool) (hs : 0 ≤ s) (hs2 : s < (l.length : Int)) (h : Ev (fun k => spec_Hops.l1 k ((List.replicate l.length (-1)).set s.toNat 0) 0 a b l) v) :
    Ev (fun k => spec_Hops.l0 k s (List.replicate l.length 0) 0 a b l) v := by
  have key : ∀ i : Nat, i ≤ l.length → Ev (fun k => spec_Hops.l0 k s (List.replicate i (-1) ++ List.replicate (l.length - i) 0) i a b l) v := by
    refine down ?_ ?_
    · rw [Nat.sub_self, List.replicate_zero, List.append_nil]
      refine Ev.step (fun _ => rfl) ?_
      simp only [spec_Hops.l0]
      exact ev_f (by simp) (ev_t hs (ev_t (by simpa using hs2) h))
    · intro i hi ih
      refine Ev.step (fun _ => rfl) ?_
      simp only [spec_Hops.l0]
      rw [wr (x := (i : Int) + 1) (by omega), Int.toNat_natCast]
      refine ev_t (by simp; omega) (ev_t (by omega) ?_)
      have e : (List.replicate i (-1 : Int) ++ List.replicate (l.length - i) 0).set i (-1) = List.replicate (i + 1) (-1) ++ List.replicate (l.length - (i + 1)) 0 := by
        rw [List.set_append_right _ _ (by simp), List.length_replicate, Nat.sub_self, show l.length - i = (l.length - (i + 1)) + 1 by omega, List.replicate_succ, List.set_cons_zero, List.replicate_succ' (n := i), List.append_assoc]
        rfl
      rw [e]
      exact ih
  simpa using key 0 (Nat.zero_le _)
theorem iter_len (L : Int → (Int → Bool) → Bool) (N : Nat) : ∀ (j : Nat) (n : Int) (o : List Int), (iterP L N j n o).length = o.length
  | 0, _, _ => rfl
  | j + 1, n, o => by rw [iterP, iter_len L N j, row_len]
theorem negs_le : ∀ o : List Int, negs o ≤ o.length := fun o => List.length_filter_le _ _
theorem hops_same (a b : Int) (l : List Int) (s : Int) (hl : l.length ≤ 1048576) : ∃ v : List Int × Bool, Ev (fun k => spec_Hops.f k a b l s) v ∧ Ev (fun k => impl_Hops.f k a b l s) v ∧ v.1.length ≤ 1048576 := by
  have h1 := floor1 a b l (by omega)
  have h2 := floor2 a b l
  rw [show (inB a 1 10 && (inB b 1 10 && (decide ((l.length : Int) = wrap64 (a * b)) && l.all fun x => inB x 0 15))) = floorB a b l from rfl] at h1 h2
  have jf : Ev (fun k => spec_Hops.j0 k s true a b l) ([], false) := Ev.step (fun _ => rfl) (by simp only [spec_Hops.j0]; exact ev_t (by first | rfl | trivial) (Ev.now _))
  simp only [spec_Hops.f, impl_Hops.f, h2, Option.bind_some]
  cases hf : floorB a b l with
  | false =>
    rw [hf] at h1
    exact ⟨([], false), Ev.bind h1 (ev_f (by simp) jf), ev_f (by simp) (Ev.now _), by simp⟩
  | true =>
    rw [hf] at h1
    obtain ⟨ha1, ha2, hb1, hb2, hlab, hab1, hab⟩ := floor_t hf
    have pe : impl_Floor_place.f a b l s = some (inB s 0 (a * b - 1)) := by
      simp only [impl_Floor_place.f, in_eq, Option.bind_some]
      rw [wr (x := a * b) (by omega), wr (by omega)]
    have pl : spec_l1In.f s 0 (wrap64 ((l.length : Int) - 1)) = some (inB s 0 (a * b - 1)) := by
      rw [l1In_eq, hlab, wr (by omega)]
    simp only [pe, pl, Option.bind_some]
    cases hp : inB s 0 (a * b - 1) with
    | false =>
      refine ⟨([], false), Ev.bind h1 (ev_t (by first | rfl | trivial) jf), ev_t (by first | rfl | trivial) (ev_f (by simp) (Ev.now _)), by simp⟩
    | true =>
      have hs := inB_t.1 hp
      have hs2 : s < (l.length : Int) := by omega
      have hup : upTo 0 ((List.replicate l.length (-1)).set s.toNat 0) := fun x hx => by
        rcases List.mem_or_eq_of_mem_set hx with hx | rfl
        · rw [List.mem_replicate] at hx; omega
        · exact Int.le_refl _
      have hneg : negs ((List.replicate l.length (-1)).set s.toNat 0) < l.length := by
        have h3 := negs_set (List.replicate l.length (-1)) s.toNat 0 (by simp; omega) (by simp [List.getD, show s.toNat < l.length by omega]) (Int.le_refl _)
        have h4 := negs_le (List.replicate l.length (-1))
        rw [List.length_replicate] at h4
        omega
      refine ⟨(iterP (LW a b l) l.length l.length 0 ((List.replicate l.length (-1)).set s.toNat 0), true), Ev.bind h1 (ev_t (by first | rfl | trivial) ?_), ev_t (by first | rfl | trivial) (ev_t (by first | rfl | trivial) (ev_t ⟨by omega, hs.1, hs2⟩ ?_)), by rw [iter_len]; simp; omega⟩
      · refine Ev.step (fun _ => rfl) ?_
        simp only [spec_Hops.j0, Int.toNat_natCast]
        refine ev_f (by simp) (ev_t (by omega) (ev_t (by omega) ?_))
        refine fill_ev a b l s (by omega) _ hs.1 hs2 ?_
        exact l1_ok a b l ha1 ha2 hb1 hb2 hlab hab l.length 0 _ (Int.le_refl _) (by omega) (by simp)
      · refine ⟨l.length, fun k hk => ?_⟩
        dsimp only
        rw [loop_impl a b l ha1 ha2 hb1 hb2 hlab l.length 0 _ k (Int.le_refl _) (by omega) (by simp) hup hneg hk]
        rfl
theorem P_Hops : ∀ (a b : Int) (l : List Int) (s : Int), l.length ≤ maxLen → ∃ k, laws_FnExactHops.f k a b l s = some true := by
  intro a b l s hl
  refine Ev.rounds ?_
  unfold maxLen at hl
  simp only [laws_FnExactHops.f, laws_szFloor.f, laws_szIntS.f]
  rw [wr (x := 1048576 - (l.length : Int)) (by omega)]
  by_cases h : 1048576 - (l.length : Int) < 0
  · rw [if_pos h]
    simp only [Option.bind_some]
    rw [if_pos (by omega)]
    simp only [Option.bind_some]
    exact ev_t (by omega) (Ev.now _)
  · rw [if_neg h]
    simp only [Option.bind_some]
    rw [if_neg h]
    simp only [Option.bind_some]
    have hto := toFloor_ev a b l (by omega)
    obtain ⟨v, v1, v2, v3⟩ := hops_same a b l s (by omega)
    have heq := eqFloor_ev a b l (by omega)
    have hev : Ev (fun k => laws_eqIntS.f k v.1 v.1) true := eqIntS_ev v.1 (by omega)
    have hm1 := markIntS_ev l (by omega)
    have hms : Ev (fun k => laws_markFloor.f k a b l 1) ((l.length : Int) + 1, ones l.length) := by
      simp only [laws_markFloor.f]
      exact Ev.bind hm1 (Ev.now _)
    have hmv := markIntS_ev v.1 (by omega)
    have hh := heldIntS_ev v.1.length (by omega)
    have j2 : Ev (fun k => laws_FnExactHops.j2 k (ones v.1.length) ((v.1.length : Int) + 1) false) true := Ev.step (fun _ => rfl) (by
      simp only [laws_FnExactHops.j2]
      exact ev_f (by simp) (Ev.bind hh (ev_f (by omega) (ev_t rfl (Ev.now _)))))
    have j1 : Ev (fun k => laws_FnExactHops.j1 k s v.1 v.2 v.1 false a b l) true := Ev.step (fun _ => rfl) (by
      simp only [laws_FnExactHops.j1]
      refine ev_f (by simp) (Ev.bind hmv (Ev.bind hh (ev_f (by omega) (ev_t rfl (Ev.bind hto (Ev.bind v2 (Ev.bind hev (ev_t rfl ?_))))))))
      simpa using j2)
    have j0 : Ev (fun k => laws_FnExactHops.j0 k s v.1 v.2 v.1 v.2 false a b l a b l) true := Ev.step (fun _ => rfl) (by
      simp only [laws_FnExactHops.j0]
      refine ev_f (by simp) (Ev.bind hto (Ev.bind heq (ev_t rfl (Ev.bind hms (ev_f (by omega) (Ev.bind hev (ev_t rfl ?_)))))))
      simpa using j1)
    refine ev_f (by omega) (Ev.bind hto (Ev.bind v1 (Ev.bind hto (Ev.bind v2 (Ev.bind hev (ev_t rfl ?_))))))
    simpa using j0
theorem FnExactHops : laws_FnExactHops.Pure := fun x s g _ => P_Hops x.f0 x.f1 x.f2 s g.2.2.1

end Go.Proofs.Ythbmpegaogfibab.Pure
