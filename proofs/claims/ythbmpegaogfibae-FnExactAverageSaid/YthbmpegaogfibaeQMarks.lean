/- Plain lemmas on the printed functions (Marks). -/
import Derived.Test.YthbmpegaogfibaePu0
import Derived.Test.YthbmpegaogfibaePAx5
import Derived.Test.YthbmpegaogfibaeQBase
namespace Go.Proofs.Ythbmpegaogfibae.Pu
open Go.RowKit Go.Proofs.Ythbmpegaogfibae Go.Proofs.Ythbmpegaogfibae.PA Go.Proofs.Ythbmpegaogfibae.Pu Go.Proofs.YthbmpegaogfibaeW.PrintWords Go.Proofs.YthbmpegaogfibaeW.PrintLast Go.Proofs.YthbmpegaogfibaeW.PrintMore
set_option linter.unusedVariables false
set_option linter.unusedSimpArgs false
def ones (n : Nat) : List Int := (List.range n).map fun (i : Nat) => (i : Int) + 1
theorem ones_length (n : Nat) : (ones n).length = n := by simp [ones]
theorem ones_succ (n : Nat) : ones (n + 1) = ones n ++ [(n : Int) + 1] := by simp [ones, List.range_succ]
theorem rd_ones (n i : Nat) (h : i < n) : rd (ones n) (i : Int) = (i : Int) + 1 := by
  simp [rd, ones, List.getElem?_map, List.getElem?_range h]
theorem markIntS_ev (l : List Int) (hl : l.length ≤ 35184372088832) : Ev (fun k => laws_markIntS.f k l 1) ((l.length : Int) + 1, ones l.length) := by
  have key : ∀ i, i ≤ l.length → Ev (fun k => laws_markIntS.l0 k (ones i ++ l.drop i) ((i : Int) + 1) (i : Int)) ((l.length : Int) + 1, ones l.length) := by
    refine down ?_ ?_
    · refine Ev.step (fun _ => rfl) ?_
      simp only [laws_markIntS.l0]
      have hln : (ones l.length ++ l.drop l.length) = ones l.length := by simp
      rw [hln]
      exact ev_f (by rw [ones_length]; omega) (Ev.now _)
    · intro i hi ih
      refine Ev.step (fun _ => rfl) ?_
      simp only [laws_markIntS.l0]
      have hs : (ones i ++ l.drop i).set i ((i : Int) + 1) = ones (i + 1) ++ l.drop (i + 1) := by
        rw [List.set_append_right (h := by rw [ones_length]; omega), ones_length, Nat.sub_self, List.drop_eq_getElem_cons hi, List.set_cons_zero, ones_succ, List.append_assoc]
        rfl
      refine ev_t (by simp [ones_length]; omega) (ev_t (by omega) ?_)
      rw [Int.toNat_natCast, hs, wr (x := (i : Int) + 1 + 1) (by omega), wr (x := (i : Int) + 1) (by omega)]
      exact ih
  have := key 0 (Nat.zero_le _)
  simpa [laws_markIntS.f, ones] using this
theorem heldIntS_ev (n : Nat) (hl : n ≤ 35184372088832) : Ev (fun k => laws_heldIntS.f k (ones n) 1) ((n : Int) + 1) := by
  have key : ∀ i, i ≤ n → Ev (fun k => laws_heldIntS.l0 k (ones n) ((i : Int) + 1) (i : Int)) ((n : Int) + 1) := by
    refine down ?_ ?_
    · refine Ev.step (fun _ => rfl) ?_
      simp only [laws_heldIntS.l0]
      exact ev_f (by rw [ones_length]; omega) (Ev.now _)
    · intro i hi ih
      refine Ev.step (fun _ => rfl) ?_
      simp only [laws_heldIntS.l0, rd_ones n i hi]
      refine ev_t (by rw [ones_length]; omega) (ev_t (by omega) (ev_t (by first | rfl | trivial) ?_))
      rw [wr (x := (i : Int) + 1 + 1) (by omega), wr (x := (i : Int) + 1) (by omega)]
      exact ih
  simpa [laws_heldIntS.f] using key 0 (Nat.zero_le _)

end Go.Proofs.Ythbmpegaogfibae.Pu
