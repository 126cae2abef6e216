/- Plain lemmas on the printed functions (Nexts). -/
import Derived.Test.YthbmpegaogfibaaPu0
import Derived.Test.YthbmpegaogfibaaPEx0
import Derived.Test.YthbmpegaogfibaaPEx3
import Derived.Test.YthbmpegaogfibaaPEx9
import Derived.Test.YthbmpegaogfibaaEQSeas
namespace Go.Proofs.Ythbmpegaogfibaa.Pu
open Go.RowKit Go.Proofs.Ythbmpegaogfibaa Go.Proofs.Ythbmpegaogfibaa.PE Go.Proofs.Ythbmpegaogfibaa.Pu Go.Proofs.YthbmpegaogfibaaW.PrintWords Go.Proofs.YthbmpegaogfibaaW.PrintLast Go.Proofs.YthbmpegaogfibaaW.PrintMore
set_option linter.unusedVariables false
set_option linter.unusedSimpArgs false
def adjB (a p q : Int) : Bool := (p % a - q % a) * (p % a - q % a) + (p / a - q / a) * (p / a - q / a) == 1
theorem divmod_bd (a b p : Int) (ha : 1 ≤ a) (hp : 0 ≤ p) (hp2 : p < a * b) : 0 ≤ p % a ∧ p % a < a ∧ 0 ≤ p / a ∧ p / a < b ∧ p % a + a * (p / a) = p :=
  ⟨Int.emod_nonneg _ (by omega), Int.emod_lt_of_pos _ (by omega), Int.ediv_nonneg hp (by omega), Int.ediv_lt_of_lt_mul (by omega) (by rw [Int.mul_comm]; exact hp2), Int.emod_add_mul_ediv p a⟩
theorem sq_bd (x : Int) (n : Int) (h1 : -n ≤ x) (h2 : x ≤ n) : 0 ≤ x * x ∧ x * x ≤ n * n := by
  constructor
  · rcases Int.le_total 0 x with h | h
    · exact Int.mul_nonneg h h
    · exact Int.mul_nonneg_of_nonpos_of_nonpos h h
  · have h3 : x * x = x.natAbs * x.natAbs := (Int.natAbs_mul_self (a := x)).symm
    have h4 : (x.natAbs : Int) ≤ n := by omega
    rw [h3]
    exact Int.mul_le_mul h4 h4 (by omega) (by omega)
theorem next1 (a b : Int) (l : List Int) (f : List S52) (p q : Int) (ha : 1 ≤ a) (ha2 : a ≤ 12) (hb2 : b ≤ 12) (hp : 0 ≤ p) (hp2 : p < a * b) (hq : 0 ≤ q) (hq2 : q < a * b) : spec_l7Next.f a b l f p q = some (adjB a p q) := by
  obtain ⟨x1, x2, y1, y2, _⟩ := divmod_bd a b p ha hp hp2
  obtain ⟨u1, u2, v1, v2, _⟩ := divmod_bd a b q ha hq hq2
  simp only [spec_l7Next.f]
  rw [if_neg (by omega), Int.tmod_eq_emod_of_nonneg hp, Int.tmod_eq_emod_of_nonneg hq, Int.tdiv_eq_ediv_of_nonneg hp, Int.tdiv_eq_ediv_of_nonneg hq]
  rw [wr (x := p / a) (by omega), wr (x := q / a) (by omega), wr (x := p % a - q % a) (by omega), wr (x := p / a - q / a) (by omega)]
  have s1 := sq_bd (p % a - q % a) 12 (by omega) (by omega)
  have s2 := sq_bd (p / a - q / a) 12 (by omega) (by omega)
  rw [wr (x := (p % a - q % a) * (p % a - q % a)) (by omega), wr (x := (p / a - q / a) * (p / a - q / a)) (by omega), wr (by omega)]
  rfl
def nextL (a b p : Int) : List Int := (if p / a > 0 then [p - a] else []) ++ ((if p % a > 0 then [p - 1] else []) ++ ((if p % a < a - 1 then [p + 1] else []) ++ (if p / a < b - 1 then [p + a] else [])))
theorem next2 (a b : Int) (l : List Int) (f : List S52) (p : Int) (ha : 1 ≤ a) (ha2 : a ≤ 12) (hb1 : 1 ≤ b) (hb2 : b ≤ 12) (hab : a * b ≤ 144) (hp : 0 ≤ p) (hp2 : p < a * b) : Ev (fun k => impl_Sea_next.f k a b l f p) (nextL a b p) := by
  obtain ⟨x1, x2, y1, y2, _⟩ := divmod_bd a b p ha hp hp2
  have j1 : ∀ o : List Int, o.length ≤ 2 → Ev (fun k => impl_Sea_next.j1 k p o (p % a) (p / a) a b l f) (o ++ ((if p % a < a - 1 then [p + 1] else []) ++ (if p / a < b - 1 then [p + a] else []))) := by
    intro o ho
    refine Ev.step (fun _ => rfl) ?_
    simp only [impl_Sea_next.j1]
    rw [wr (x := a - 1) (by omega), wr (x := b - 1) (by omega), wr (x := p + 1) (by omega), wr (x := p + a) (by omega)]
    by_cases h1 : p % a < a - 1
    · refine ev_t h1 (ev_t (by omega) ?_)
      simp only [Option.bind_some]
      rw [if_pos h1]
      by_cases h2 : p / a < b - 1
      · refine ev_t h2 (ev_t (by simp; omega) ?_)
        rw [if_pos h2, List.append_assoc]; exact Ev.now _
      · refine ev_f h2 ?_
        rw [if_neg h2, List.append_nil]; exact Ev.now _
    · refine ev_f h1 ?_
      rw [if_neg h1, List.nil_append]
      by_cases h2 : p / a < b - 1
      · refine ev_t h2 (ev_t (by omega) ?_)
        rw [if_pos h2]; exact Ev.now _
      · refine ev_f h2 ?_
        rw [if_neg h2, List.append_nil]; exact Ev.now _
  have j0 : ∀ o : List Int, o.length ≤ 1 → Ev (fun k => impl_Sea_next.j0 k p o (p % a) (p / a) a b l f) (o ++ ((if p % a > 0 then [p - 1] else []) ++ ((if p % a < a - 1 then [p + 1] else []) ++ (if p / a < b - 1 then [p + a] else [])))) := by
    intro o ho
    refine Ev.step (fun _ => rfl) ?_
    simp only [impl_Sea_next.j0]
    rw [wr (x := p - 1) (by omega)]
    by_cases h1 : p % a > 0
    · refine ev_t h1 (ev_t (by omega) ?_)
      rw [if_pos h1, ← List.append_assoc]
      exact j1 _ (by simp; omega)
    · refine ev_f h1 ?_
      rw [if_neg h1, List.nil_append]
      exact j1 _ (by omega)
  simp only [impl_Sea_next.f]
  rw [Int.tmod_eq_emod_of_nonneg hp, Int.tdiv_eq_ediv_of_nonneg hp, wr (x := p / a) (by omega), wr (x := p - a) (by omega)]
  refine ev_f (by omega) ?_
  unfold nextL
  by_cases h1 : p / a > 0
  · refine ev_t h1 (ev_t (by simp) ?_)
    rw [if_pos h1]
    exact j0 _ (by simp)
  · refine ev_f h1 ?_
    rw [if_neg h1]
    exact j0 _ (by simp)
theorem coord (a x y q : Int) (ha : 1 ≤ a) (hx : 0 ≤ x) (hx2 : x < a) : (q / a = y ∧ q % a = x) ↔ x + a * y = q := by
  rw [Int.ediv_emod_unique (by omega)]
  exact ⟨fun h => h.1, fun h => ⟨h, hx, hx2⟩⟩
theorem sq_one (u v : Int) : u * u + v * v = 1 ↔ (u = 0 ∧ (v = 1 ∨ v = -1)) ∨ (v = 0 ∧ (u = 1 ∨ u = -1)) := by
  constructor
  · intro h
    have hu : u.natAbs * u.natAbs + v.natAbs * v.natAbs = 1 := by
      have h1 : ((u.natAbs * u.natAbs : Nat) : Int) = u * u := by rw [Int.natCast_mul]; exact Int.natAbs_mul_self
      have h2 : ((v.natAbs * v.natAbs : Nat) : Int) = v * v := by rw [Int.natCast_mul]; exact Int.natAbs_mul_self
      omega
    have bu : u.natAbs ≤ 1 := by
      rcases Nat.lt_or_ge 1 u.natAbs with h1 | h1
      · have := Nat.mul_le_mul h1 h1; omega
      · exact h1
    have bv : v.natAbs ≤ 1 := by
      rcases Nat.lt_or_ge 1 v.natAbs with h1 | h1
      · have := Nat.mul_le_mul h1 h1; omega
      · exact h1
    have cu : u = -1 ∨ u = 0 ∨ u = 1 := by omega
    have cv : v = -1 ∨ v = 0 ∨ v = 1 := by omega
    rcases cu with rfl | rfl | rfl <;> rcases cv with rfl | rfl | rfl <;> simp at h ⊢
  · rintro (⟨rfl, rfl | rfl⟩ | ⟨rfl, rfl | rfl⟩) <;> rfl
theorem next_mem (a b p q : Int) (ha : 1 ≤ a) (hp : 0 ≤ p) (hp2 : p < a * b) (hq : 0 ≤ q) (hq2 : q < a * b) : q ∈ nextL a b p ↔ adjB a p q = true := by
  obtain ⟨x1, x2, y1, y2, e1⟩ := divmod_bd a b p ha hp hp2
  obtain ⟨u1, u2, v1, v2, e2⟩ := divmod_bd a b q ha hq hq2
  have mem : q ∈ nextL a b p ↔ (p / a > 0 ∧ q = p - a) ∨ (p % a > 0 ∧ q = p - 1) ∨ (p % a < a - 1 ∧ q = p + 1) ∨ (p / a < b - 1 ∧ q = p + a) := by
    unfold nextL
    simp only [List.mem_append]
    have m : ∀ (c : Prop) [Decidable c] (z : Int), q ∈ (if c then [z] else []) ↔ c ∧ q = z := by
      intro c _ z
      by_cases h : c <;> simp [h]
    rw [m, m, m, m]
  rw [mem]
  unfold adjB
  rw [beq_iff_eq, sq_one]
  generalize hx : p % a = x at *
  generalize hy : p / a = y at *
  generalize hu : q % a = u at *
  generalize hv : q / a = v at *
  have k1 := coord a x (y - 1) q ha x1 x2
  have k4 := coord a x (y + 1) q ha x1 x2
  rw [hu, hv] at k1 k4
  rw [Int.mul_sub, Int.mul_one] at k1
  rw [Int.mul_add, Int.mul_one] at k4
  constructor
  · rintro (⟨h1, h2⟩ | ⟨h1, h2⟩ | ⟨h1, h2⟩ | ⟨h1, h2⟩)
    · have := k1.2 (by omega); omega
    · have k2 := coord a (x - 1) y q ha (by omega) (by omega)
      rw [hu, hv] at k2
      have := k2.2 (by omega); omega
    · have k3 := coord a (x + 1) y q ha (by omega) (by omega)
      rw [hu, hv] at k3
      have := k3.2 (by omega); omega
    · have := k4.2 (by omega); omega
  · rintro (⟨h1, h2 | h2⟩ | ⟨h1, h2 | h2⟩)
    · have := k1.1 ⟨by omega, by omega⟩; left; omega
    · have := k4.1 ⟨by omega, by omega⟩; right; right; right; omega
    · have k2 := coord a (x - 1) y q ha (by omega) (by omega)
      rw [hu, hv] at k2
      have := k2.1 ⟨by omega, by omega⟩; right; left; omega
    · have k3 := coord a (x + 1) y q ha (by omega) (by omega)
      rw [hu, hv] at k3
      have := k3.1 ⟨by omega, by omega⟩; right; right; left; omega

end Go.Proofs.Ythbmpegaogfibaa.Pu
