/- Plain lemmas on the printed functions (Select). -/
import Derived.Test.YthbmpegaogfibaePu0
import Derived.Test.YthbmpegaogfibaePAx2
import Derived.Test.YthbmpegaogfibaeQBase
import Derived.Test.YthbmpegaogfibaeQSort
import Derived.Test.YthbmpegaogfibaeQSorted
import Derived.Test.YthbmpegaogfibaeQStable
import Derived.Test.YthbmpegaogfibaeQShares
namespace Go.Proofs.Ythbmpegaogfibae.Pu
open Go.RowKit Go.Proofs.Ythbmpegaogfibae Go.Proofs.Ythbmpegaogfibae.PA Go.Proofs.Ythbmpegaogfibae.Pu Go.Proofs.YthbmpegaogfibaeW.PrintWords Go.Proofs.YthbmpegaogfibaeW.PrintLast Go.Proofs.YthbmpegaogfibaeW.PrintMore
set_option linter.unusedVariables false
set_option linter.unusedSimpArgs false
set_option linter.unusedSectionVars false
open impl_Average (row row_len row_get row_set row_congr rd_row quo rem lefts incs plc)
/-- The rests after m picks. -/
def rsts (p r : Nat → Int) : Nat → Nat → Int
  | 0 => r
  | m + 1 => fun t => if t = (p m).toNat then -1 else rsts p r m t
theorem rsts_far (p r : Nat → Int) (t : Nat) : ∀ m, (∀ j, j < m → (p j).toNat ≠ t) → rsts p r m t = r t
  | 0, _ => rfl
  | m + 1, h => by
    show (if t = (p m).toNat then -1 else rsts p r m t) = r t
    rw [if_neg (fun e => h m (by omega) e.symm)]
    exact rsts_far p r t m fun j hj => h j (by omega)
theorem rsts_hit (p r : Nat → Int) (t : Nat) : ∀ m, (∃ j, j < m ∧ (p j).toNat = t) → rsts p r m t = -1
  | 0, h => by obtain ⟨j, hj, _⟩ := h; omega
  | m + 1, h => by
    show (if t = (p m).toNat then -1 else rsts p r m t) = -1
    by_cases c : t = (p m).toNat
    · rw [if_pos c]
    · rw [if_neg c]
      obtain ⟨j, h1, h2⟩ := h
      refine rsts_hit p r t m ⟨j, ?_, h2⟩
      by_cases d : j = m
      · subst d; exact absurd h2.symm c
      · omega
section
variable (n : Nat) (R : Int → Int) (p : Nat → Int) (hp : Srt (ahead R) 0 n p) (hs : Sh 0 n (fun t => (t : Int)) p) (h0 : ∀ x, 0 ≤ R x)
include hp hs h0
theorem p_in (t : Nat) (ht : t < n) : 0 ≤ p t ∧ p t < (n : Int) := by
  obtain ⟨u, u1, u2, u3⟩ := hs.sub t (by omega) ht
  have u3 : p t = (u : Int) := u3
  omega
theorem best (m : Nat) (hm : m < n) : (p m).toNat < n ∧ (∀ t, t < n → rsts p (fun t => R (t : Int)) m t ≤ rsts p (fun t => R (t : Int)) m (p m).toNat) ∧ (∀ t, t < (p m).toNat → rsts p (fun t => R (t : Int)) m t < rsts p (fun t => R (t : Int)) m (p m).toNat) := by
  have hpm := p_in n R p hp hs h0 m hm
  have e : rsts p (fun t => R (t : Int)) m (p m).toNat = R (p m) := by
    rw [rsts_far _ _ _ m fun j hj => ?_]
    · rw [Int.toNat_of_nonneg hpm.1]
    · intro heq
      have k1 := hp j m (by omega) hj hm
      have k2 := p_in n R p hp hs h0 j (by omega)
      rw [show p j = p m by omega] at k1
      unfold ahead at k1
      omega
  have all : ∀ t, t < n → t ≠ (p m).toNat → rsts p (fun t => R (t : Int)) m t < R (p m) ∨ (rsts p (fun t => R (t : Int)) m t = R (p m) ∧ (p m).toNat < t) := fun t ht hne => by
    obtain ⟨j, j1, j2, j3⟩ := hs.sur t (by omega) ht
    have j3 : p j = (t : Int) := j3
    by_cases c : j < m
    · left
      rw [rsts_hit p _ t m ⟨j, c, by omega⟩]
      have := h0 (p m)
      omega
    · have hjm : m < j := by
        by_cases d : j = m
        · subst d; omega
        · omega
      have far : rsts p (fun t => R (t : Int)) m t = R (t : Int) := rsts_far p _ t m fun i hi heq => by
        have k1 := hp i j (by omega) (by omega) j2
        have k2 := p_in n R p hp hs h0 i (by omega)
        rw [show p i = p j by omega] at k1
        unfold ahead at k1
        omega
      have k1 := hp m j (by omega) hjm j2
      rw [j3] at k1
      unfold ahead at k1
      rw [far]
      omega
  refine ⟨by omega, fun t ht => ?_, fun t ht => ?_⟩
  · rw [e]
    by_cases c : t = (p m).toNat
    · rw [c, e]; exact Int.le_refl _
    · have := all t ht c; omega
  · rw [e]
    have := all t (by omega) (by omega); omega
end
theorem l2_ev (n e : Nat) (O : List Int) (rs : Nat → Int) (left : Int) (hO : O.length = n) (he : e < n) (h1 : ∀ t, t < n → rs t ≤ rs e) (h2 : ∀ t, t < e → rs t < rs e) (hn : n ≤ 40) (v : List Int × Bool)
    (hv : Ev (fun k => spec_Average.l1 k (O.set e (wrap64 (rd O (e : Int) + 1))) ((row n rs).set e (-1)) (wrap64 (left - 1))) v) : ∀ (d i at_ : Nat), i + d = n → at_ < i → (∀ t, t < i → rs t ≤ rs at_) → (∀ t, t < at_ → rs t < rs at_) → Ev (fun k => spec_Average.l2 k O (row n rs) left (at_ : Int) (i : Int)) v
  | 0, i, at_, hi, ha, k1, k2 => by
    have hat : at_ = e := by
      rcases Nat.lt_trichotomy at_ e with c | c | c
      · have := h2 at_ c; have := k1 e (by omega); omega
      · exact c
      · have := k2 e c; have := h1 at_ (by omega); omega
    subst hat
    refine Ev.step (fun _ => rfl) ?_
    simp only [spec_Average.l2]
    refine ev_f (by rw [row_len]; omega) (ev_t (by omega) (ev_t (by omega) (ev_t (by rw [row_len]; omega) ?_)))
    simpa using hv
  | d + 1, i, at_, hi, ha, k1, k2 => by
    refine Ev.step (fun _ => rfl) ?_
    simp only [spec_Average.l2]
    rw [wr (x := (i : Int) + 1) (by omega), rd_row n rs (i : Int) (by omega) (by omega), rd_row n rs (at_ : Int) (by omega) (by omega), Int.toNat_natCast, Int.toNat_natCast]
    refine ev_t (by rw [row_len]; omega) (ev_t (by omega) (ev_t (by omega) (ev_t (by rw [row_len]; omega) ?_)))
    by_cases c : rs i > rs at_
    · refine ev_t c ?_
      exact l2_ev n e O rs left hO he h1 h2 hn v hv d (i + 1) i (by omega) (by omega) (fun t ht => by
        by_cases c2 : t = i
        · rw [c2]; exact Int.le_refl _
        · have := k1 t (by omega); omega) (fun t ht => by have := k1 t ht; omega)
    · refine ev_f c ?_
      exact l2_ev n e O rs left hO he h1 h2 hn v hv d (i + 1) at_ (by omega) (by omega) (fun t ht => by
        by_cases c2 : t = i
        · rw [c2]; omega
        · exact k1 t (by omega)) k2
theorem incs_set (n : Nat) (p b : Nat → Int) (m : Nat) (h : (p m).toNat < n) : (row n (incs p b m)).set (p m).toNat (wrap64 (rd (row n (incs p b m)) ((p m).toNat : Int) + 1)) = row n (incs p b (m + 1)) := by
  refine row_set n _ _ _ _ fun j _ => ?_
  rw [rd_row n _ _ (by omega) (by omega), incs, Int.toNat_natCast]
  by_cases c : j = (p m).toNat
  · simp only [if_pos c]; rw [c]
  · simp only [if_neg c]
theorem rsts_set (n : Nat) (p r : Nat → Int) (m : Nat) : (row n (rsts p r m)).set (p m).toNat (-1) = row n (rsts p r (m + 1)) := by
  refine row_set n _ _ _ _ fun j _ => rfl
theorem l1_ev (n M : Nat) (R : Int → Int) (p q : Nat → Int) (hp : Srt (ahead R) 0 n p) (hs : Sh 0 n (fun t => (t : Int)) p) (h0 : ∀ x, 0 ≤ R x) (hn : n ≤ 40) (hM : M ≤ n) : ∀ (d m : Nat), m + d = M → Ev (fun k => spec_Average.l1 k (row n (incs p q m)) (row n (rsts p (fun t => R (t : Int)) m)) ((M : Int) - m)) (row n (incs p q M), true)
  | 0, m, h => by
    refine Ev.step (fun _ => rfl) ?_
    simp only [spec_Average.l1]
    rw [show m = M by omega]
    exact ev_f (by omega) (Ev.now _)
  | d + 1, m, h => by
    obtain ⟨b1, b2, b3⟩ := best n R p hp hs h0 m (by omega)
    have ih := l1_ev n M R p q hp hs h0 hn hM d (m + 1) (by omega)
    refine Ev.step (fun _ => rfl) ?_
    simp only [spec_Average.l1]
    refine ev_t (by omega) ?_
    refine l2_ev n (p m).toNat _ _ _ (row_len _ _) b1 b2 b3 hn _ ?_ (n - 1) 1 0 (by omega) (by omega) (fun t ht => by rw [show t = 0 by omega]; exact Int.le_refl _) (fun t ht => by omega)
    rw [incs_set n p q m b1, rsts_set n p _ m, wr (by omega), show (M : Int) - m - 1 = (M : Int) - ((m + 1 : Nat) : Int) by omega]
    exact ih
theorem row_succ (n : Nat) (g : Nat → Int) : row (n + 1) g = row n g ++ [g n] := by simp [row, List.range_succ]
theorem l0_ev (l : List Int) (a s : Int) (hn : l.length ≤ 40) (hs : s ≠ 0) (v : List Int × Bool) (hv : Ev (fun k => spec_Average.l1 k (row l.length (quo l a s)) (row l.length (fun t => rem l a s (t : Int))) (lefts l a s l.length)) v) : ∀ i, i ≤ l.length → Ev (fun k => spec_Average.l0 k l a s (row i (quo l a s)) (row i (fun t => rem l a s (t : Int))) (lefts l a s i) (i : Int)) v := by
  refine down ?_ ?_
  · refine Ev.step (fun _ => rfl) ?_
    simp only [spec_Average.l0]
    exact ev_f (by omega) hv
  · intro i hi ih
    refine Ev.step (fun _ => rfl) ?_
    simp only [spec_Average.l0]
    refine ev_t (by omega) (ev_t (by omega) (ev_f hs (ev_t (by rw [row_len]; omega) ?_)))
    have e1 : row i (quo l a s) ++ [wrap64 (Int.tdiv (wrap64 (a * rd l (i : Int))) s)] = row (i + 1) (quo l a s) := by rw [row_succ]; rfl
    have e2 : row i (fun t => rem l a s (t : Int)) ++ [Int.tmod (wrap64 (a * rd l (i : Int))) s] = row (i + 1) (fun t => rem l a s (t : Int)) := by rw [row_succ]; rfl
    simp only [Option.bind_some]
    rw [e1, e2, wr (x := (i : Int) + 1) (by omega), rd_row (i + 1) _ (i : Int) (by omega) (by omega), Int.toNat_natCast]
    refine ev_t (by rw [row_len]; omega) (ev_t (by rw [row_len]; omega) ?_)
    exact ih

end Go.Proofs.Ythbmpegaogfibae.Pu
