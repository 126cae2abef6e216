/- Plain lemmas on the printed functions (Shares). -/
import Derived.Test.YthbmpegaogfibaePu0
import Derived.Test.YthbmpegaogfibaePAx1
import Derived.Test.YthbmpegaogfibaePAx3
import Derived.Test.YthbmpegaogfibaePAx4
import Derived.Test.YthbmpegaogfibaeQBase
namespace Go.Proofs.Ythbmpegaogfibae.Pu
open Go.RowKit Go.Proofs.Ythbmpegaogfibae Go.Proofs.Ythbmpegaogfibae.PA Go.Proofs.Ythbmpegaogfibae.Pu Go.Proofs.YthbmpegaogfibaeW.PrintWords Go.Proofs.YthbmpegaogfibaeW.PrintLast Go.Proofs.YthbmpegaogfibaeW.PrintMore
set_option linter.unusedVariables false
set_option linter.unusedSimpArgs false
set_option linter.unusedSectionVars false
/-- The sum of the first m. -/
def pre (l : List Int) : Nat → Int
  | 0 => 0
  | m + 1 => pre l m + rd l (m : Int)
theorem rd_in (l : List Int) (h : ∀ x ∈ l, 0 ≤ x ∧ x ≤ 1000000000) (x : Int) : 0 ≤ rd l x ∧ rd l x ≤ 1000000000 := by
  unfold rd
  by_cases c : x.toNat < l.length
  · have h1 := h l[x.toNat] (List.getElem_mem _)
    simpa [List.getD, c] using h1
  · simp [List.getD, c]
theorem pre_in (l : List Int) (h : ∀ x ∈ l, 0 ≤ x ∧ x ≤ 1000000000) : ∀ m : Nat, 0 ≤ pre l m ∧ pre l m ≤ (m : Int) * 1000000000
  | 0 => by simp [pre]
  | m + 1 => by
    have h1 := pre_in l h m
    have h2 := rd_in l h (m : Int)
    rw [pre]
    omega
theorem pre_mono (l : List Int) (h : ∀ x ∈ l, 0 ≤ x ∧ x ≤ 1000000000) (m : Nat) : ∀ d : Nat, pre l m ≤ pre l (m + d)
  | 0 => Int.le_refl _
  | d + 1 => by
    have h1 := pre_mono l h m d
    have h2 := rd_in l h ((m + d : Nat) : Int)
    rw [show m + (d + 1) = m + d + 1 by omega, pre]
    omega
theorem l1Sum_ev (l : List Int) (h : ∀ x ∈ l, 0 ≤ x ∧ x ≤ 1000000000) (hl : l.length ≤ 40) : Ev (fun k => spec_l1Sum.f k l) (pre l l.length) := by
  have key : ∀ i, i ≤ l.length → Ev (fun k => spec_l1Sum.l0 k l (pre l i) (i : Int)) (pre l l.length) := by
    refine down ?_ ?_
    · refine Ev.step (fun _ => rfl) ?_
      simp only [spec_l1Sum.l0]
      exact ev_f (by omega) (Ev.now _)
    · intro i hi ih
      have h1 := pre_in l h i
      have h2 := rd_in l h (i : Int)
      refine Ev.step (fun _ => rfl) ?_
      simp only [spec_l1Sum.l0]
      rw [wr (x := (i : Int) + 1) (by omega), wr (x := pre l i + rd l (i : Int)) (by omega)]
      refine ev_t (by omega) (ev_t (by omega) ?_)
      exact ih
  simpa [spec_l1Sum.f, pre] using key 0 (Nat.zero_le _)
theorem sumOf_ev (l : List Int) (h : ∀ x ∈ l, 0 ≤ x ∧ x ≤ 1000000000) (hl : l.length ≤ 40) : Ev (fun k => impl_sumOf.f k l) (pre l l.length) := by
  have key : ∀ i, i ≤ l.length → Ev (fun k => impl_sumOf.l0 k (pre l i) l (l.length : Int) (i : Int)) (pre l l.length) := by
    refine down ?_ ?_
    · refine Ev.step (fun _ => rfl) ?_
      simp only [impl_sumOf.l0]
      exact ev_f (by omega) (Ev.now _)
    · intro i hi ih
      have h1 := pre_in l h i
      have h2 := rd_in l h (i : Int)
      refine Ev.step (fun _ => rfl) ?_
      simp only [impl_sumOf.l0]
      rw [wr (x := (i : Int) + 1) (by omega), wr (x := pre l i + rd l (i : Int)) (by omega)]
      refine ev_t (by omega) (ev_t (by omega) (ev_t (by omega) ?_))
      exact ih
  simpa [impl_sumOf.f, pre] using key 0 (Nat.zero_le _)
section
variable (l : List Int) (a s : Int) (h : ∀ x ∈ l, 0 ≤ x ∧ x ≤ 1000000000) (ha : 0 ≤ a ∧ a ≤ 1000000000) (hs : 0 < s)
include h ha
theorem prod_in (x : Int) : 0 ≤ a * rd l x ∧ a * rd l x ≤ 1000000000000000000 := by
  have h1 := rd_in l h x
  refine ⟨Int.mul_nonneg ha.1 h1.1, ?_⟩
  exact Int.le_trans (Int.mul_le_mul_of_nonneg_left h1.2 ha.1) (by omega)
include hs
theorem rem_eq (x : Int) : impl_Average.rem l a s x = a * rd l x % s := by
  have h1 := prod_in l a h ha x
  unfold impl_Average.rem
  rw [wr (by omega), Int.tmod_eq_emod_of_nonneg h1.1]
theorem rem_in (x : Int) : 0 ≤ impl_Average.rem l a s x ∧ impl_Average.rem l a s x < s := by
  rw [rem_eq l a s h ha hs]
  exact ⟨Int.emod_nonneg _ (by omega), Int.emod_lt_of_pos _ hs⟩
theorem quo_eq (t : Nat) : impl_Average.quo l a s t = a * rd l (t : Int) / s := by
  have h1 := prod_in l a h ha (t : Int)
  have h2 : 0 ≤ a * rd l (t : Int) / s := Int.ediv_nonneg h1.1 (by omega)
  have h3 : a * rd l (t : Int) / s ≤ a * rd l (t : Int) := Int.ediv_le_self _ h1.1
  unfold impl_Average.quo
  rw [wr (x := a * rd l (t : Int)) (by omega), Int.tdiv_eq_ediv_of_nonneg h1.1, wr (by omega)]
theorem lefts_in (hsum : s = pre l l.length) : ∀ m : Nat, m ≤ l.length → impl_Average.lefts l a s m ≤ a ∧ 0 ≤ impl_Average.lefts l a s m ∧ s * (a - impl_Average.lefts l a s m) ≤ a * pre l m ∧ a * pre l m ≤ s * (a - impl_Average.lefts l a s m) + m * (s - 1)
  | 0, _ => by
    simp only [impl_Average.lefts, pre]
    simp
    exact ha.1
  | m + 1, hm => by
    obtain ⟨i1, i2, i3, i4⟩ := lefts_in hsum m (by omega)
    have q := quo_eq l a s h ha hs m
    have p1 := prod_in l a h ha (m : Int)
    have q0 : 0 ≤ impl_Average.quo l a s m := by rw [q]; exact Int.ediv_nonneg p1.1 (by omega)
    have e := Int.mul_ediv_add_emod (a * rd l (m : Int)) s
    rw [← q] at e
    have r0 := Int.emod_nonneg (a * rd l (m : Int)) (show s ≠ 0 by omega)
    have r1 := Int.emod_lt_of_pos (a * rd l (m : Int)) hs
    have qb : impl_Average.quo l a s m ≤ 1000000000000000000 := by
      rw [q]; exact Int.le_trans (Int.ediv_le_self _ p1.1) p1.2
    have lf : impl_Average.lefts l a s (m + 1) = impl_Average.lefts l a s m - impl_Average.quo l a s m := by
      rw [impl_Average.lefts, wr (by omega)]
    have pm : pre l (m + 1) = pre l m + rd l (m : Int) := rfl
    have d1 : s * (a - impl_Average.lefts l a s (m + 1)) = s * (a - impl_Average.lefts l a s m) + s * impl_Average.quo l a s m := by
      rw [lf, ← Int.mul_add]; congr 1; omega
    have d2 : a * pre l (m + 1) = a * pre l m + a * rd l (m : Int) := by rw [pm, Int.mul_add]
    have d3 : ((m + 1 : Nat) : Int) * (s - 1) = (m : Int) * (s - 1) + (s - 1) := by
      rw [Int.natCast_add, Int.add_mul]; simp
    have u1 : s * (a - impl_Average.lefts l a s (m + 1)) ≤ a * pre l (m + 1) := by rw [d1, d2]; omega
    have u2 : a * pre l (m + 1) ≤ s * a := by
      rw [Int.mul_comm s a]
      refine Int.mul_le_mul_of_nonneg_left ?_ ha.1
      have := pre_mono l h (m + 1) (l.length - (m + 1))
      rw [show m + 1 + (l.length - (m + 1)) = l.length by omega, ← hsum] at this
      exact this
    have u3 : a - impl_Average.lefts l a s (m + 1) ≤ a := Int.le_of_mul_le_mul_left (Int.le_trans u1 u2) hs
    refine ⟨by omega, by omega, u1, ?_⟩
    rw [d1, d2, d3]
    omega
theorem left_in (hsum : s = pre l l.length) : 0 ≤ impl_Average.lefts l a s l.length ∧ impl_Average.lefts l a s l.length ≤ (l.length : Int) := by
  obtain ⟨i1, i2, i3, i4⟩ := lefts_in l a s h ha hs hsum l.length (Nat.le_refl _)
  refine ⟨i2, ?_⟩
  rw [← hsum] at i4
  refine Int.le_of_mul_le_mul_left (a := s) ?_ hs
  have d1 : s * (a - impl_Average.lefts l a s l.length) = a * s - s * impl_Average.lefts l a s l.length := by rw [Int.mul_sub, Int.mul_comm s a]
  have d2 : (l.length : Int) * (s - 1) = s * (l.length : Int) - l.length := by rw [Int.mul_sub, Int.mul_comm s]; simp
  omega
end

end Go.Proofs.Ythbmpegaogfibae.Pu
