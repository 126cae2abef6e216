/- Plain lemmas on the printed functions (Reach). -/
import Derived.Test.YthbmpegaogfibaaPu0
import Derived.Test.YthbmpegaogfibaaPEx0
import Derived.Test.YthbmpegaogfibaaPEx3
import Derived.Test.YthbmpegaogfibaaPEx8
import Derived.Test.YthbmpegaogfibaaPEx10
import Derived.Test.YthbmpegaogfibaaEQBase
import Derived.Test.YthbmpegaogfibaaEQSeas
import Derived.Test.YthbmpegaogfibaaEQNexts
namespace Go.Proofs.Ythbmpegaogfibaa.Pu
open Go.RowKit Go.Proofs.Ythbmpegaogfibaa Go.Proofs.Ythbmpegaogfibaa.PE Go.Proofs.Ythbmpegaogfibaa.Pu Go.Proofs.YthbmpegaogfibaaW.PrintWords Go.Proofs.YthbmpegaogfibaaW.PrintLast Go.Proofs.YthbmpegaogfibaaW.PrintMore
set_option linter.unusedVariables false
set_option linter.unusedSimpArgs false
theorem pl1 (a b : Int) (l : List Int) (f : List S52) (p : Int) (h1 : 1 ≤ a * b) (h2 : a * b ≤ 144) : spec_l7Place.f a b l f p = some (inB p 0 (a * b - 1)) := by
  simp only [spec_l7Place.f, l1In_eq, Option.bind_some]
  rw [wr (x := a * b) (by omega), wr (by omega)]
theorem pl2 (a b : Int) (l : List Int) (f : List S52) (p : Int) (hl : (l.length : Int) = a * b) (h1 : 1 ≤ a * b) (h2 : a * b ≤ 144) : impl_Sea_place.f a b l f p = some (inB p 0 (a * b - 1)) := by
  simp only [impl_Sea_place.f, in_eq, Option.bind_some]
  rw [hl, wr (by omega)]
theorem nextL_len (a b p : Int) : (nextL a b p).length ≤ 4 := by
  unfold nextL
  simp only [List.length_append]
  have m : ∀ (c : Prop) [Decidable c] (z : Int), (if c then [z] else []).length ≤ 1 := by
    intro c _ z
    by_cases h : c <;> simp [h]
  have h1 := m (p / a > 0) (p - a); have h2 := m (p % a > 0) (p - 1); have h3 := m (p % a < a - 1) (p + 1); have h4 := m (p / a < b - 1) (p + a)
  omega
theorem next_bd (a b p q : Int) (ha : 1 ≤ a) (hp : 0 ≤ p) (hp2 : p < a * b) (h : q ∈ nextL a b p) : 0 ≤ q ∧ q < a * b := by
  obtain ⟨x1, x2, y1, y2, e1⟩ := divmod_bd a b p ha hp hp2
  have mem : (p / a > 0 ∧ q = p - a) ∨ (p % a > 0 ∧ q = p - 1) ∨ (p % a < a - 1 ∧ q = p + 1) ∨ (p / a < b - 1 ∧ q = p + a) := by
    unfold nextL at h
    simp only [List.mem_append] at h
    have m : ∀ (c : Prop) [Decidable c] (z : Int), q ∈ (if c then [z] else []) ↔ c ∧ q = z := by
      intro c _ z
      by_cases h : c <;> simp [h]
    rwa [m, m, m, m] at h
  have k1 : p / a > 0 → a * 1 ≤ a * (p / a) := fun h => Int.mul_le_mul_of_nonneg_left (by omega) (by omega)
  have k2 : a * (p / a + 1) ≤ a * b := Int.mul_le_mul_of_nonneg_left (by omega) (by omega)
  have k3 : p / a < b - 1 → a * (p / a + 2) ≤ a * b := fun h => Int.mul_le_mul_of_nonneg_left (by omega) (by omega)
  have k0 : 0 ≤ a * (p / a) := Int.mul_nonneg (by omega) y1
  rw [Int.mul_add] at k2 k3
  rcases mem with ⟨h1, h2⟩ | ⟨h1, h2⟩ | ⟨h1, h2⟩ | ⟨h1, h2⟩
  · have := k1 h1; omega
  · omega
  · omega
  · have := k3 h1; omega
def shutV (a : Int) (f : List S52) (p st : Int) : Bool := f.any fun c => inB (Int.tmod p a) c.f0 c.f2 && inB (wrap64 (Int.tdiv p a)) c.f1 c.f3 && inB st c.f4 c.f5
theorem shut_ev (a b : Int) (l : List Int) (f : List S52) (p st : Int) (ha : 1 ≤ a) (hf : f.length ≤ 1048576) : Ev (fun k => spec_l7Shut.f k a b l f p st) (shutV a f p st) ∧ Ev (fun k => impl_Sea_shut.f k a b l f p st) (shutV a f p st) := by
  let g : S52 → Bool := fun c => inB (Int.tmod p a) c.f0 c.f2 && inB (wrap64 (Int.tdiv p a)) c.f1 c.f3 && inB st c.f4 c.f5
  have key : ∀ i, i ≤ f.length → Ev (fun k => spec_l7Shut.l0 k p st (i : Int) a b l f) ((f.drop i).any g) ∧ Ev (fun k => impl_Sea_shut.l0 k st (Int.tmod p a) (wrap64 (Int.tdiv p a)) f f.length (i : Int)) ((f.drop i).any g) := by
    refine down ?_ ?_
    · rw [List.drop_length, List.any_nil]
      refine ⟨Ev.step (fun _ => rfl) ?_, Ev.step (fun _ => rfl) ?_⟩
      · simp only [spec_l7Shut.l0]; exact ev_f (by omega) (Ev.now _)
      · simp only [impl_Sea_shut.l0]; exact ev_f (by omega) (Ev.now _)
    · intro i hi ih
      obtain ⟨v1, v2⟩ := ih
      rw [List.drop_eq_getElem_cons hi, List.any_cons]
      generalize (f.drop (i + 1)).any g = v at v1 v2 ⊢
      have hx : rd_T52 f (i : Int) = f[i] := by simp [rd_T52, hi]
      rw [← hx]
      have e : ∀ r, (inB (Int.tmod p a) (rd_T52 f i).f0 (rd_T52 f i).f2 && inB (wrap64 (Int.tdiv p a)) (rd_T52 f i).f1 (rd_T52 f i).f3 && inB st (rd_T52 f i).f4 (rd_T52 f i).f5) = r → Ev (fun k => spec_l7Shut.l0 k p st (i : Int) a b l f) (r || v) ∧ Ev (fun k => impl_Sea_shut.l0 k st (Int.tmod p a) (wrap64 (Int.tdiv p a)) f f.length (i : Int)) (r || v) := by
        intro r hr
        refine ⟨Ev.step (fun _ => rfl) ?_, Ev.step (fun _ => rfl) ?_⟩
        · simp only [spec_l7Shut.l0, l1In_eq, Option.bind_some]
          rw [wr (x := (i : Int) + 1) (by omega)]
          refine ev_t (by omega) (ev_t (by omega) (ev_f (by omega) ?_))
          subst hr
          cases inB (Int.tmod p a) (rd_T52 f i).f0 (rd_T52 f i).f2 <;> cases inB (wrap64 (Int.tdiv p a)) (rd_T52 f i).f1 (rd_T52 f i).f3 <;> cases inB st (rd_T52 f i).f4 (rd_T52 f i).f5 <;> first | exact v1 | exact Ev.now _
        · simp only [impl_Sea_shut.l0, in_eq, Option.bind_some]
          rw [wr (x := (i : Int) + 1) (by omega)]
          refine ev_t (by omega) (ev_t (by omega) (ev_t (by omega) ?_))
          subst hr
          cases inB (Int.tmod p a) (rd_T52 f i).f0 (rd_T52 f i).f2 <;> cases inB (wrap64 (Int.tdiv p a)) (rd_T52 f i).f1 (rd_T52 f i).f3 <;> cases inB st (rd_T52 f i).f4 (rd_T52 f i).f5 <;> first | exact v2 | exact Ev.now _
      exact e _ rfl
  obtain ⟨v1, v2⟩ := key 0 (Nat.zero_le _)
  refine ⟨by simp only [spec_l7Shut.f]; exact v1, ?_⟩
  simp only [impl_Sea_shut.f]
  exact ev_f (by omega) v2
def okV (a : Int) (l : List Int) (f : List S52) (p st : Int) : Bool := decide (rd l p > 0) && !shutV a f p st
/-- Whether place q is come to in n steps. -/
def Rch (a : Int) (l : List Int) (f : List S52) (s : Int) : Nat → Int → Bool
  | 0, q => q == s && okV a l f s 0
  | n + 1, q => (List.range l.length).any fun p => Rch a l f s n (p : Int) && (q == (p : Int) || adjB a p q) && okV a l f q ((n : Int) + 1)
def resV (R : Nat → Bool) : Nat → Nat → Int × Bool
  | st, 0 => if R st = true then ((st : Int), true) else (-1, false)
  | st, d + 1 => if R st = true then ((st : Int), true) else resV R (st + 1) d
theorem may_ev (a b : Int) (l : List Int) (f : List S52) (p st : Int) (ha : 1 ≤ a) (hf : f.length ≤ 1048576) (hp : 0 ≤ p ∧ p < (l.length : Int)) : Ev (fun k => impl_Quickest.may k a b l f p st) (okV a l f p st) := by
  simp only [impl_Quickest.may]
  refine ev_t hp ?_
  unfold okV
  by_cases c : rd l p > 0
  · refine ev_t c (Ev.bind (shut_ev a b l f p st ha hf).2 ?_)
    simpa [c] using Ev.now _
  · refine ev_f c ?_
    simpa [c] using Ev.now _
def addsP (ok : Int → Bool) : List Int → List Int → List Int
  | [], acc => acc
  | q :: qs, acc => addsP ok qs (if ok q = true then q :: acc else acc)
def roundP (nx : Int → List Int) (ok : Int → Bool) : List Int → List Int → List Int
  | [], acc => acc
  | p :: A, acc => roundP nx ok A (addsP ok (nx p ++ [p]) acc)
theorem mem_addsP (ok : Int → Bool) (x : Int) : ∀ qs acc, x ∈ addsP ok qs acc ↔ x ∈ acc ∨ (x ∈ qs ∧ ok x = true)
  | [], acc => by simp [addsP]
  | q :: qs, acc => by
    rw [addsP, mem_addsP ok x qs]
    cases c : ok q with
    | true =>
      simp only [if_true, List.mem_cons]
      constructor
      · rintro ((rfl | h) | h)
        · exact .inr ⟨.inl rfl, c⟩
        · exact .inl h
        · exact .inr ⟨.inr h.1, h.2⟩
      · rintro (h | ⟨rfl | h, h2⟩)
        · exact .inl (.inr h)
        · exact .inl (.inl rfl)
        · exact .inr ⟨h, h2⟩
    | false =>
      simp only [Bool.false_eq_true, if_false, List.mem_cons]
      constructor
      · rintro (h | h)
        · exact .inl h
        · exact .inr ⟨.inr h.1, h.2⟩
      · rintro (h | ⟨rfl | h, h2⟩)
        · exact .inl h
        · rw [c] at h2; cases h2
        · exact .inr ⟨h, h2⟩
theorem mem_roundP (nx : Int → List Int) (ok : Int → Bool) (x : Int) : ∀ A acc, x ∈ roundP nx ok A acc ↔ x ∈ acc ∨ ∃ p ∈ A, x ∈ nx p ++ [p] ∧ ok x = true
  | [], acc => by simp [roundP]
  | p :: A, acc => by
    rw [roundP, mem_roundP nx ok x A, mem_addsP]
    constructor
    · rintro ((h | h) | ⟨q, hq, h⟩)
      · exact .inl h
      · exact .inr ⟨p, by simp, h⟩
      · exact .inr ⟨q, by simp [hq], h⟩
    · rintro (h | ⟨q, hq, h⟩)
      · exact .inl (.inl h)
      · rcases List.mem_cons.1 hq with rfl | hq
        · exact .inl (.inr h)
        · exact .inr ⟨q, hq, h⟩
theorem adds_ev (may : Nat → Int → Option Bool) (ok : Int → Bool) : ∀ qs acc, (∀ q ∈ qs, Ev (fun k => may k q) (ok q)) → Ev (fun k => impl_Quickest.adds (may k) qs acc) (addsP ok qs acc)
  | [], acc, _ => Ev.now _
  | q :: qs, acc, h => by
    simp only [impl_Quickest.adds]
    exact Ev.bind (h q (by simp)) (adds_ev may ok qs _ fun z hz => h z (by simp [hz]))
theorem round_ev (nx : Nat → Int → Option (List Int)) (may : Nat → Int → Option Bool) (nxP : Int → List Int) (ok : Int → Bool) : ∀ A acc, (∀ p ∈ A, Ev (fun k => nx k p) (nxP p) ∧ ∀ q ∈ nxP p ++ [p], Ev (fun k => may k q) (ok q)) → Ev (fun k => impl_Quickest.round (nx k) (may k) A acc) (roundP nxP ok A acc)
  | [], acc, _ => Ev.now _
  | p :: A, acc, h => by
    simp only [impl_Quickest.round]
    exact Ev.bind (h p (by simp)).1 (Ev.bind (adds_ev may ok _ _ (h p (by simp)).2) (round_ev nx may nxP ok A _ fun z hz => h z (by simp [hz])))
theorem rch_mem (a b : Int) (l : List Int) (f : List S52) (s : Int) (ha : 1 ≤ a) (hl : (l.length : Int) = a * b) (n : Nat) (A : List Int) (hA : ∀ x, x ∈ A ↔ (0 ≤ x ∧ x < (l.length : Int)) ∧ Rch a l f s n x = true) (x : Int) :
    x ∈ roundP (nextL a b) (fun q => okV a l f q ((n : Int) + 1)) A [] ↔ (0 ≤ x ∧ x < (l.length : Int)) ∧ Rch a l f s (n + 1) x = true := by
  rw [mem_roundP]
  simp only [Rch, List.any_eq_true, List.mem_range, Bool.and_eq_true, Bool.or_eq_true, beq_iff_eq, List.not_mem_nil, false_or, List.mem_append, List.mem_singleton]
  constructor
  · rintro ⟨p, hp, hx, ho⟩
    obtain ⟨⟨hp0, hp1⟩, hr⟩ := (hA p).1 hp
    have hpn : ((p.toNat : Nat) : Int) = p := by omega
    rcases hx with hx | rfl
    · have hb := next_bd a b p x ha hp0 (by omega) hx
      refine ⟨⟨hb.1, by omega⟩, p.toNat, by omega, ?_⟩
      rw [hpn]
      exact ⟨⟨hr, .inr ((next_mem a b p x ha hp0 (by omega) hb.1 hb.2).1 hx)⟩, ho⟩
    · refine ⟨⟨hp0, hp1⟩, x.toNat, by omega, ?_⟩
      rw [hpn]
      exact ⟨⟨hr, .inl rfl⟩, ho⟩
  · rintro ⟨⟨hx0, hx1⟩, p, hp, ⟨hr, hx⟩, ho⟩
    refine ⟨(p : Int), (hA _).2 ⟨⟨by omega, by omega⟩, hr⟩, ?_, ho⟩
    rcases hx with rfl | hx
    · exact .inr rfl
    · exact .inl ((next_mem a b p x ha (by omega) (by omega) hx0 (by omega)).2 hx)
theorem loop_ok (a b : Int) (l : List Int) (f : List S52) (s t most : Int) (hsea : seaB a b l f = true) (hf : f.length ≤ 1048576) (ht : 0 ≤ t ∧ t < (l.length : Int)) (hm : most ≤ 200) : ∀ (d n : Nat) (A : List Int), (n : Int) + d = most → (∀ x, x ∈ A ↔ (0 ≤ x ∧ x < (l.length : Int)) ∧ Rch a l f s n x = true) →
    ∃ K, ∀ k m, K ≤ k → K ≤ m → impl_Quickest.loop k a b l f t most m (n : Int) A = some (resV (fun st => Rch a l f s st t) n d) := by
  obtain ⟨ha1, ha2, hb1, hb2, hlab, hab, hab1, _, hc⟩ := seaB_t hsea
  intro d
  induction d with
  | zero =>
    intro n A hn hA
    refine ⟨1, fun k m hk hm => ?_⟩
    obtain ⟨m, rfl⟩ : ∃ m', m = m' + 1 := ⟨m - 1, by omega⟩
    simp only [impl_Quickest.loop, resV]
    by_cases c : A.contains t = true
    · have h1 := ((hA t).1 (by simpa using c)).2
      rw [if_pos c, if_pos h1]
    · have h1 : ¬ Rch a l f s n t = true := fun h => c (by simpa using (hA t).2 ⟨ht, h⟩)
      rw [if_neg c, if_neg h1, if_pos (by omega)]
  | succ d ih =>
    intro n A hn hA
    have hr := round_ev (fun k => impl_Quickest.nx k a b l f) (fun k q => impl_Quickest.may k a b l f q ((n : Int) + 1)) (nextL a b) (fun q => okV a l f q ((n : Int) + 1)) A [] (fun p hp => by
      obtain ⟨⟨hp0, hp1⟩, _⟩ := (hA p).1 hp
      refine ⟨?_, fun q hq => ?_⟩
      · simp only [impl_Quickest.nx]
        refine Ev.bind (next2 a b l f p ha1 ha2 hb1 hb2 hab hp0 (by omega)) (ev_t ?_ (Ev.now _))
        have := nextL_len a b p; omega
      · refine may_ev a b l f q _ ha1 hf ?_
        rcases List.mem_append.1 hq with hq | hq
        · have hb := next_bd a b p q ha1 hp0 (by omega) hq
          omega
        · rw [List.mem_singleton] at hq; subst hq; exact ⟨hp0, hp1⟩)
    obtain ⟨K1, r1⟩ := hr
    obtain ⟨K2, r2⟩ := ih (n + 1) _ (by omega) (rch_mem a b l f s ha1 hlab n A hA)
    refine ⟨K1 + K2 + 1, fun k m hk hm => ?_⟩
    obtain ⟨m, rfl⟩ : ∃ m', m = m' + 1 := ⟨m - 1, by omega⟩
    simp only [impl_Quickest.loop, resV]
    by_cases c : A.contains t = true
    · have h1 := ((hA t).1 (by simpa using c)).2
      rw [if_pos c, if_pos h1]
    · have h1 : ¬ Rch a l f s n t = true := fun h => c (by simpa using (hA t).2 ⟨ht, h⟩)
      rw [if_neg c, if_neg h1, if_neg (by omega), wr (x := (n : Int) + 1) (by omega)]
      have h2 := r1 k (by omega)
      dsimp only at h2
      rw [h2, Option.bind_some]
      have h3 := r2 k m (by omega) (by omega)
      rw [show ((n + 1 : Nat) : Int) = (n : Int) + 1 by omega] at h3
      exact h3

end Go.Proofs.Ythbmpegaogfibaa.Pu
