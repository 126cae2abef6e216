/- Plain lemmas on the printed functions (BMarks). -/
import Derived.Test.YtlmohamgfindmabPu0
import Derived.Test.YtlmohamgfindmabPBx5
import Derived.Test.YtlmohamgfindmabPBx6
import Derived.Test.YtlmohamgfindmabBQBase
namespace Go.Proofs.Ytlmohamgfindmab.Pu
open Go.RowKit Go.Proofs.Ytlmohamgfindmab Go.Proofs.Ytlmohamgfindmab.PB Go.Proofs.Ytlmohamgfindmab.Pu Go.Proofs.YtlmohamgfindmabW.PrintWords Go.Proofs.YtlmohamgfindmabW.PrintLast Go.Proofs.YtlmohamgfindmabW.PrintMore
set_option linter.unusedVariables false
set_option linter.unusedSimpArgs false
def onesB (n : Nat) : List Int := (List.range n).map fun (i : Nat) => (i : Int) + 1
theorem onesB_length (n : Nat) : (onesB n).length = n := by simp [onesB]
theorem onesB_succ (n : Nat) : onesB (n + 1) = onesB n ++ [(n : Int) + 1] := by simp [onesB, List.range_succ]
theorem markIntS_ev (l : List Int) (hl : l.length ≤ 35184372088832) : Ev (fun k => laws_markIntS.f k l 1) ((l.length : Int) + 1, onesB l.length) := by
  have key : ∀ i, i ≤ l.length → Ev (fun k => laws_markIntS.l0 k (onesB i ++ l.drop i) ((i : Int) + 1) (i : Int)) ((l.length : Int) + 1, onesB l.length) := by
    refine down ?_ ?_
    · refine Ev.step (fun _ => rfl) ?_
      simp only [laws_markIntS.l0]
      have hln : (onesB l.length ++ l.drop l.length) = onesB l.length := by simp
      rw [hln]
      exact ev_f (by rw [onesB_length]; omega) (Ev.now _)
    · intro i hi ih
      refine Ev.step (fun _ => rfl) ?_
      simp only [laws_markIntS.l0]
      have hs : (onesB i ++ l.drop i).set i ((i : Int) + 1) = onesB (i + 1) ++ l.drop (i + 1) := by
        rw [List.set_append_right (h := by rw [onesB_length]; omega), onesB_length, Nat.sub_self, List.drop_eq_getElem_cons hi, List.set_cons_zero, onesB_succ, List.append_assoc]
        rfl
      refine ev_t (by simp [onesB_length]; omega) (ev_t (by omega) ?_)
      rw [Int.toNat_natCast, hs, wr (x := (i : Int) + 1 + 1) (by omega), wr (x := (i : Int) + 1) (by omega)]
      exact ih
  have := key 0 (Nat.zero_le _)
  simpa [laws_markIntS.f, onesB] using this
def mks (n : Nat) : List Bool := (List.range n).map fun (i : Nat) => (Int.tmod ((i : Int) + 1) 3 == 0)
theorem mks_length (n : Nat) : (mks n).length = n := by simp [mks]
theorem mks_succ (n : Nat) : mks (n + 1) = mks n ++ [(Int.tmod ((n : Int) + 1) 3 == 0)] := by simp [mks, List.range_succ]
theorem rd_mks (n i : Nat) (h : i < n) : rdOf false (mks n) (i : Int) = (Int.tmod ((i : Int) + 1) 3 == 0) := by
  simp [rdOf, mks, List.getElem?_map, List.getElem?_range h]
theorem markBoolS_ev (l : List Bool) (hl : l.length ≤ 35184372088832) : Ev (fun k => laws_markBoolS.f k l 1) ((l.length : Int) + 1, mks l.length) := by
  have key : ∀ i, i ≤ l.length → Ev (fun k => laws_markBoolS.l0 k (mks i ++ l.drop i) ((i : Int) + 1) (i : Int)) ((l.length : Int) + 1, mks l.length) := by
    refine down ?_ ?_
    · refine Ev.step (fun _ => rfl) ?_
      simp only [laws_markBoolS.l0]
      have hln : (mks l.length ++ l.drop l.length) = mks l.length := by simp
      rw [hln]
      exact ev_f (by rw [mks_length]; omega) (Ev.now _)
    · intro i hi ih
      refine Ev.step (fun _ => rfl) ?_
      simp only [laws_markBoolS.l0]
      have hs : (mks i ++ l.drop i).set i (Int.tmod ((i : Int) + 1) 3 == 0) = mks (i + 1) ++ l.drop (i + 1) := by
        rw [List.set_append_right (h := by rw [mks_length]; omega), mks_length, Nat.sub_self, List.drop_eq_getElem_cons hi, List.set_cons_zero, mks_succ, List.append_assoc]
        rfl
      refine ev_t (by simp [mks_length]; omega) (ev_t (by omega) ?_)
      rw [Int.toNat_natCast, hs, wr (x := (i : Int) + 1 + 1) (by omega), wr (x := (i : Int) + 1) (by omega)]
      exact ih
  have := key 0 (Nat.zero_le _)
  simpa [laws_markBoolS.f, mks] using this
theorem heldBoolS_ev (n : Nat) (hl : n ≤ 35184372088832) : Ev (fun k => laws_heldBoolS.f k (mks n) 1) ((n : Int) + 1) := by
  have key : ∀ i, i ≤ n → Ev (fun k => laws_heldBoolS.l0 k (mks n) ((i : Int) + 1) (i : Int)) ((n : Int) + 1) := by
    refine down ?_ ?_
    · refine Ev.step (fun _ => rfl) ?_
      simp only [laws_heldBoolS.l0]
      exact ev_f (by rw [mks_length]; omega) (Ev.now _)
    · intro i hi ih
      refine Ev.step (fun _ => rfl) ?_
      simp only [laws_heldBoolS.l0, rd_mks n i hi]
      refine ev_t (by rw [mks_length]; omega) (ev_t (by omega) (ev_f (by simp) ?_))
      rw [wr (x := (i : Int) + 1 + 1) (by omega), wr (x := (i : Int) + 1) (by omega)]
      exact ih
  simpa [laws_heldBoolS.f] using key 0 (Nat.zero_le _)
theorem eqBoolS_ev (l : List Bool) (hl : l.length ≤ 35184372088832) : Ev (fun k => laws_eqBoolS.f k l l) true := by
  have key : ∀ i, i ≤ l.length → Ev (fun k => laws_eqBoolS.l0 k l l (i : Int)) true := by
    refine down ?_ ?_
    · refine Ev.step (fun _ => rfl) ?_
      simp only [laws_eqBoolS.l0]
      exact ev_f (by omega) (Ev.now _)
    · intro i hi ih
      refine Ev.step (fun _ => rfl) ?_
      simp only [laws_eqBoolS.l0]
      refine ev_t (by omega) (ev_t (by omega) (ev_t (by omega) (ev_f (by simp) ?_)))
      rw [wr (by omega)]
      exact ih
  simp only [laws_eqBoolS.f]
  exact ev_t (by first | rfl | trivial) (key 0 (Nat.zero_le _))

end Go.Proofs.Ytlmohamgfindmab.Pu
