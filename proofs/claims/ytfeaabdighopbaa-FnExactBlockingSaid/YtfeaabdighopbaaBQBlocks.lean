/- Plain lemmas on the printed functions (Blocks). -/
import Derived.Test.YtfeaabdighopbaaPu0
import Derived.Test.YtfeaabdighopbaaPBx0
import Derived.Test.YtfeaabdighopbaaPBx4
import Derived.Test.YtfeaabdighopbaaPBx5
import Derived.Test.YtfeaabdighopbaaPBx8
import Derived.Test.YtfeaabdighopbaaBQBase
import Derived.Test.YtfeaabdighopbaaBQConvIntS
import Derived.Test.YtfeaabdighopbaaBQYards
namespace Go.Proofs.Ytfeaabdighopbaa.Pu
open Go.RowKit Go.Proofs.Ytfeaabdighopbaa Go.Proofs.Ytfeaabdighopbaa.PB Go.Proofs.Ytfeaabdighopbaa.Pu Go.Proofs.YtfeaabdighopbaaW.PrintWords Go.Proofs.YtfeaabdighopbaaW.PrintLast Go.Proofs.YtfeaabdighopbaaW.PrintMore
set_option linter.unusedVariables false
set_option linter.unusedSimpArgs false
theorem turn_ev (o : List Int) (ho : o.length ≤ 1048576) (x : Int) : Ev (fun k => spec_l18Turn.f k o x) (impl_Blocking.turn o x) := by
  have key : ∀ j : Nat, j ≤ o.length → Ev (fun k => spec_l18Turn.l0 k o x j) ((j + (o.drop j).findIdx (· == x) : Nat) : Int) := by
    refine down ?_ ?_
    · rw [List.drop_of_length_le (Nat.le_refl _)]
      refine Ev.step (fun _ => rfl) ?_
      simp only [spec_l18Turn.l0]
      refine ev_f (by omega) ?_
      simpa using Ev.now (o.length : Int)
    · intro j hj ih
      refine Ev.step (fun _ => rfl) ?_
      simp only [spec_l18Turn.l0]
      rw [wr (x := (j : Int) + 1) (by omega), drop_el o j hj, List.findIdx_cons]
      refine ev_t (by omega) (ev_t (by omega) ?_)
      by_cases h : rd o j = x
      · refine ev_t h ?_
        rw [show (rd o j == x) = true by simpa using h]
        simpa using Ev.now (j : Int)
      · refine ev_f h ?_
        rw [show (rd o j == x) = false by simpa using h]
        have e : j + (bif false then 0 else List.findIdx (fun z => z == x) (o.drop (j + 1)) + 1) = j + 1 + List.findIdx (fun z => z == x) (o.drop (j + 1)) := by simp; omega
        rw [e]
        exact ih
  have h0 := key 0 (Nat.zero_le _)
  simp only [spec_l18Turn.f]
  simpa [impl_Blocking.turn] using h0
def ownB (o : List Int) (i : Nat) : Bool := decide (impl_Blocking.turn o (rd o i) = (i : Int))
theorem own_nodup (o : List Int) : allFrom (ownB o) 0 o.length = decide o.Nodup := by
  rw [Bool.eq_iff_iff, allFrom_iff, decide_eq_true_eq]
  have hrd : ∀ i (h : i < o.length), rd o (i : Nat) = o[i] := fun i h => by simp [rd, List.getD, h]
  have hown : ∀ i (h : i < o.length), ownB o i = true ↔ ∀ j (hj : j < i), o[j]'(by omega) ≠ o[i] := by
    intro i h
    unfold ownB impl_Blocking.turn
    rw [decide_eq_true_eq, hrd i h]
    have := List.findIdx_eq (p := fun z => z == o[i]) (xs := o) h
    constructor
    · intro e j hj hne
      have h2 := (this.1 (by omega)).2 j hj
      simp [hne] at h2
    · intro hall
      have h3 := this.2 ⟨by simp, fun j hj => by simpa using hall j hj⟩
      omega
  constructor
  · intro h
    rw [List.Nodup, List.pairwise_iff_getElem]
    intro i j hi hj hij
    exact (hown j hj).1 (h j (by omega) (by omega)) i hij
  · intro h j _ hj
    rw [List.Nodup, List.pairwise_iff_getElem] at h
    exact (hown j (by omega)).2 fun i hi => h i j (by omega) (by omega) hi
theorem order_ev (o : List Int) (ho : o.length ≤ 1048576) : Ev (fun k => spec_l18Order.f k o 72) (decide o.Nodup && decide ((o.length : Int) ≤ 72)) := by
  rw [← own_nodup]
  simp only [spec_l18Order.f]
  refine ev_all (n := o.length) (g := fun k i => spec_l18Order.l0 k o 72 i) (ownB o) _ ?_ ?_
  · refine Ev.step (fun _ => rfl) ?_
    simp only [spec_l18Order.l0]
    exact ev_f (by omega) (Ev.now _)
  · intro i hi r hr
    refine Ev.step (fun _ => rfl) ?_
    simp only [spec_l18Order.l0]
    rw [wr (x := (i : Int) + 1) (by omega)]
    refine ev_t (by omega) (ev_t (by omega) (Ev.bind (turn_ev o ho _) ?_))
    unfold ownB
    by_cases h : impl_Blocking.turn o (rd o i) = (i : Int)
    · refine ev_t h ?_
      rw [decide_eq_true h]; simpa using hr
    · refine ev_f h ?_
      rw [decide_eq_false h]; simpa using Ev.now false
theorem l2_ev (o : List Int) (ho : o.length ≤ 1048576) (a : Int) (ls : List (List Int)) (hl : ls.length ≤ 1048576) (n : Int) (i : Nat) (hi : i < ls.length) (j : Nat) (hj : j < (rd_L1 ls i).length) (hjb : j ≤ 1048576) (v : Int × Bool) : ∀ q : Nat, q ≤ j → ∀ ov : Bool,
    Ev (fun k => spec_Blocking.l1 k o (if (ov || (((rd_L1 ls i).take j).drop q).any fun x => decide (impl_Blocking.turn o x < impl_Blocking.turn o (rd (rd_L1 ls i) j))) = true then wrap64 (n + 1) else n) i ((j + 1 : Nat) : Int) a ls) v → Ev (fun k => spec_Blocking.l2 k o n i j ov q a ls) v := by
  refine down ?_ ?_
  · intro ov h
    rw [List.drop_of_length_le (by simp; omega)] at h
    refine Ev.step (fun _ => rfl) ?_
    simp only [spec_Blocking.l2]
    rw [wr (x := (j : Int) + 1) (by omega)]
    refine ev_f (by omega) ?_
    cases ov with
    | true => exact ev_t rfl (by simpa using h)
    | false => exact ev_f (by simp) (by simpa using h)
  · intro q hq ih ov h
    have hd : ((rd_L1 ls i).take j).drop q = rd (rd_L1 ls i) q :: ((rd_L1 ls i).take j).drop (q + 1) := by
      rw [List.drop_eq_getElem_cons (by simp; omega)]
      congr 1
      simp [rd, List.getD, show q < (rd_L1 ls i).length by omega]
    rw [hd, List.any_cons] at h
    refine Ev.step (fun _ => rfl) ?_
    simp only [spec_Blocking.l2]
    rw [wr (x := (q : Int) + 1) (by omega)]
    refine ev_t (by omega) ?_
    cases ov with
    | true => exact ev_t rfl (ih true (by simpa using h))
    | false =>
      refine ev_f (by simp) (ev_t (by omega) (ev_t (by omega) (ev_t (by omega) (ev_t (by omega) (Ev.bind (turn_ev o ho _) (ev_t (by omega) (ev_t (by omega) (Ev.bind (turn_ev o ho _) ?_))))))))
      exact ih _ (by simpa using h)
theorem l1_ev (o : List Int) (ho : o.length ≤ 1048576) (a : Int) (ls : List (List Int)) (hl : ls.length ≤ 1048576) (i : Nat) (hi : i < ls.length) (hrow : (rd_L1 ls i).length ≤ 1048576) (v : Int × Bool) : ∀ j : Nat, j ≤ (rd_L1 ls i).length → ∀ n : Int,
    Ev (fun k => spec_Blocking.l0 k o (impl_Blocking.row o (rd_L1 ls i) ((rd_L1 ls i).length - j) j n) ((i + 1 : Nat) : Int) a ls) v → Ev (fun k => spec_Blocking.l1 k o n i j a ls) v := by
  refine down ?_ ?_
  · intro n h
    rw [Nat.sub_self] at h
    refine Ev.step (fun _ => rfl) ?_
    simp only [spec_Blocking.l1]
    rw [wr (x := (i : Int) + 1) (by omega)]
    exact ev_t (by omega) (ev_t (by omega) (ev_f (by omega) h))
  · intro j hj ih n h
    rw [show (rd_L1 ls i).length - j = ((rd_L1 ls i).length - (j + 1)) + 1 by omega] at h
    simp only [impl_Blocking.row, Int.toNat_natCast] at h
    refine Ev.step (fun _ => rfl) ?_
    simp only [spec_Blocking.l1]
    refine ev_t (by omega) (ev_t (by omega) (ev_t (by omega) (l2_ev o ho a ls hl n i hi j hj (by omega) v 0 (Nat.zero_le _) false ?_)))
    rw [List.drop_zero, Bool.false_or]
    exact ih _ h
theorem l0_ev (o : List Int) (ho : o.length ≤ 1048576) (a : Int) (ls : List (List Int)) (hl : ls.length ≤ 1048576) (hs : ls.flatten.length ≤ 1048576) : ∀ i : Nat, i ≤ ls.length → ∀ n : Int, Ev (fun k => spec_Blocking.l0 k o n i a ls) (impl_Blocking.rows o ls (ls.length - i) i n, true) := by
  refine down ?_ ?_
  · intro n
    rw [Nat.sub_self]
    refine Ev.step (fun _ => rfl) ?_
    simp only [spec_Blocking.l0]
    exact ev_f (by omega) (Ev.now _)
  · intro i hi ih n
    have hrow : (rd_L1 ls i).length ≤ 1048576 := by
      have h1 : (rd_L1 ls i).length ≤ ls.flatten.length := by
        have h2 : rd_L1 ls i ∈ ls := by rw [show rd_L1 ls i = ls[i] by simp [rd_L1, List.getD, hi]]; exact List.getElem_mem hi
        exact (List.sublist_flatten_of_mem h2).length_le
      omega
    rw [show ls.length - i = (ls.length - (i + 1)) + 1 by omega]
    simp only [impl_Blocking.rows]
    refine Ev.step (fun _ => rfl) ?_
    simp only [spec_Blocking.l0]
    refine ev_t (by omega) (l1_ev o ho a ls hl i hi hrow _ 0 (Nat.zero_le _) n ?_)
    rw [Nat.sub_zero]
    exact ih _
theorem block_same (a : Int) (ls : List (List Int)) (o : List Int) (hl : ls.length ≤ 1048576) (hs : ls.flatten.length ≤ 1048576) (ho : o.length ≤ 1048576) (hw : (o.all impl_turnsOf.wfB && ls.all (fun s => s.all impl_turnsOf.wfB)) = true) : ∃ v, Ev (fun k => spec_Blocking.f k a ls o) v ∧ impl_Blocking.f a ls o = some v := by
  have hy := specYard_ev a ls hl hs
  have jt : Ev (fun k => spec_Blocking.j0 k o true a ls) (0, false) := Ev.step (fun _ => rfl) (by simp only [spec_Blocking.j0]; exact Ev.now _)
  unfold impl_Blocking.f
  rw [if_pos hw, implYard, Option.bind_some]
  simp only [spec_Blocking.f]
  cases hb : yardB a ls with
  | false =>
    rw [hb] at hy
    exact ⟨(0, false), Ev.bind hy (ev_f (by simp) jt), by simp⟩
  | true =>
    rw [hb] at hy
    have hord := order_ev o ho
    rw [if_pos rfl]
    by_cases h1 : (o.length : Int) > 72
    · rw [if_pos h1]
      rw [decide_eq_false (show ¬ (o.length : Int) ≤ 72 by omega), Bool.and_false] at hord
      exact ⟨(0, false), Ev.bind hy (ev_t rfl (Ev.bind hord jt)), rfl⟩
    · rw [if_neg h1]
      rw [decide_eq_true (show (o.length : Int) ≤ 72 by omega), Bool.and_true] at hord
      by_cases h2 : o.Nodup
      · rw [if_pos h2]
        rw [decide_eq_true h2] at hord
        refine ⟨_, Ev.bind hy (ev_t rfl (Ev.bind hord (Ev.step (fun _ => rfl) ?_))), rfl⟩
        simp only [spec_Blocking.j0]
        refine ev_f (by simp) ?_
        have h3 := l0_ev o ho a ls hl hs 0 (Nat.zero_le _) 0
        rw [Nat.sub_zero] at h3
        exact h3
      · rw [if_neg h2]
        rw [decide_eq_false h2] at hord
        exact ⟨(0, false), Ev.bind hy (ev_t rfl (Ev.bind hord jt)), rfl⟩

end Go.Proofs.Ytfeaabdighopbaa.Pu
