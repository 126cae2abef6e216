/- The pure statement of FnExactProves, proved: for every input that the opening lets in, the printed law comes to true. -/
import Derived.Test.YtlmohamgfindmacPu0
import Derived.Test.YtlmohamgfindmacPAx0
import Derived.Test.YtlmohamgfindmacPAx41
import Derived.Test.YtlmohamgfindmacPAx42
import Derived.Test.YtlmohamgfindmacPAx43
import Derived.Test.YtlmohamgfindmacQPlaces
import Derived.Test.YtlmohamgfindmacQSeas
import Derived.Test.YtlmohamgfindmacQNexts
import Derived.Test.YtlmohamgfindmacQBase
import Derived.Test.YtlmohamgfindmacStFnExactProves
namespace Go.Proofs.Ytlmohamgfindmac.Pure
open Go.RowKit Go.Proofs.Ytlmohamgfindmac Go.Proofs.Ytlmohamgfindmac.PA Go.Proofs.Ytlmohamgfindmac.Pu Go.Proofs.YtlmohamgfindmacW.PrintWords Go.Proofs.YtlmohamgfindmacW.PrintLast Go.Proofs.YtlmohamgfindmacW.PrintMore
set_option linter.unusedVariables false
set_option linter.unusedSimpArgs false
def okS (a : Int) (l w : List Int) (p q : Int) : Bool := !(!(rd l q == 0) && adjB a p q) || (decide (0 ≤ rd w q) && decide (wrap64 (rd w q - rd l q) ≤ rd w p))
def hitS (a : Int) (l w : List Int) (p q : Int) : Bool := (!(rd l q == 0) && adjB a p q) && (rd w q == wrap64 (rd w p - rd l p))
def okI (l w : List Int) (c q : Int) : Bool := !(decide (rd l q > 0)) || !(rd w q == -1 || decide (wrap64 (rd w q - rd l q) > c))
def hitI (l w : List Int) (c p q : Int) : Bool := decide (rd w q ≥ 0) && (rd w q == wrap64 (c - rd l p))
theorem pr_s (a b : Int) (l : List Int) (f : List S192) (w : List Int) (g : Int) (p : Nat) (ha : 1 ≤ a) (ha2 : a ≤ 12) (hb2 : b ≤ 12) (hl : (l.length : Int) = a * b) (hw : w.length = l.length) (hl2 : l.length ≤ 144) (hp : p < w.length) (hwp : 0 ≤ rd w p) (r : Bool)
    (hr : Ev (fun k => spec_Proves.l0 k g w (wrap64 ((p : Int) + 1)) a b l f) r) : ∀ j : Nat, j ≤ w.length → ∀ pr : Bool,
    Ev (fun k => spec_Proves.l1 k g w p pr j a b l f) ((((List.range w.length).drop j).all fun q => okS a l w p q) && ((pr || ((List.range w.length).drop j).any fun q => hitS a l w p q) && r)) := by
  refine down ?_ ?_
  · intro pr
    refine Ev.step (fun _ => rfl) ?_
    simp only [spec_Proves.l1]
    refine ev_f (by omega) (Ev.step (fun _ => rfl) ?_)
    simp only [spec_Proves.j5]
    refine ev_f (by simp) ?_
    rw [show (List.range w.length).drop w.length = [] from List.drop_eq_nil_of_le (by simp)]
    cases pr with
    | true => exact ev_t rfl (by simpa using hr)
    | false => exact ev_f (by simp) (by simpa using Ev.now false)
  · intro j hj ih pr
    refine Ev.step (fun _ => rfl) ?_
    simp only [spec_Proves.l1]
    refine ev_t (by omega) (ev_t (by omega) (ev_t (by omega) (Ev.step (fun _ => rfl) ?_)))
    simp only [spec_Proves.j5]
    refine ev_t (by simpa using hwp) (ev_t (by omega) (ev_t (by omega) ?_))
    rw [List.drop_eq_getElem_cons (by simpa using hj), List.all_cons, List.any_cons, List.getElem_range]
    have skip : okS a l w p j = true → hitS a l w p j = false → Ev (fun k => spec_Proves.j6 k g w p pr j true a b l f) ((okS a l w p j && ((List.range w.length).drop (j + 1)).all fun q => okS a l w p q) && ((pr || (hitS a l w p j || ((List.range w.length).drop (j + 1)).any fun q => hitS a l w p q)) && r)) := by
      intro h1 h2
      rw [h1, h2]
      refine Ev.step (fun _ => rfl) ?_
      simp only [spec_Proves.j6]
      rw [wr (by omega)]
      exact ev_t (by first | rfl | trivial) (by simpa using ih pr)
    by_cases hz : rd l j = 0
    · exact ev_t hz (skip (by simp [okS, hz]) (by simp [hitS, hz]))
    · refine ev_f hz ?_
      simp only [next1 a b l f p j ha ha2 hb2 (by omega) (by omega) (by omega) (by omega), Option.bind_some]
      cases had : adjB a p j with
      | false => exact skip (by simp [okS, had]) (by simp [hitS, had])
      | true =>
        refine Ev.step (fun _ => rfl) ?_
        simp only [spec_Proves.j6]
        have hz' : (rd l j == 0) = false := by simpa using hz
        refine ev_f (by simp) (ev_t (by omega) (ev_t (by omega) ?_))
        by_cases h1 : rd w j < 0
        · have h1' : ¬ 0 ≤ rd w j := by omega
          refine ev_t h1 ?_
          simpa [okS, hz', had, h1'] using Ev.now false
        have h1' : 0 ≤ rd w j := by omega
        refine ev_f h1 (ev_t (by omega) (ev_t (by omega) (ev_t (by omega) ?_)))
        by_cases h2 : wrap64 (rd w j - rd l j) > rd w p
        · have h2' : ¬ wrap64 (rd w j - rd l j) ≤ rd w p := by omega
          refine ev_t h2 ?_
          simpa [okS, hz', had, h2'] using Ev.now false
        have h2' : wrap64 (rd w j - rd l j) ≤ rd w p := by omega
        refine ev_f h2 ?_
        rw [wr (x := (j : Int) + 1) (by omega), show okS a l w p j = true by simp [okS, h1', h2'], show hitS a l w p j = (rd w j == wrap64 (rd w p - rd l p)) by simp [hitS, hz', had], Bool.true_and]
        cases pr with
        | true => exact ev_t rfl (by simpa using ih true)
        | false => exact ev_f (by simp) (ev_t (by omega) (by simpa using ih (rd w j == wrap64 (rd w p - rd l p))))
theorem pr_i (a b : Int) (l : List Int) (f : List S192) (w : List Int) (g c : Int) (p : Nat) (hl2 : l.length ≤ 144) (hw : w.length = l.length) (hp : p < w.length) (nx : List Int) (hn : nx.length ≤ 4) (hb : ∀ q ∈ nx, 0 ≤ q ∧ q < l.length) (r : Bool)
    (hr : Ev (fun k => impl_Proves.l0 k g w w w.length (wrap64 ((p : Int) + 1)) a b l f) r) : ∀ j : Nat, j ≤ nx.length → ∀ pr : Bool,
    Ev (fun k => impl_Proves.l1 k g w p c pr w w.length p nx nx.length j a b l f) (((nx.drop j).all fun q => okI l w c q) && ((pr || (nx.drop j).any fun q => hitI l w c p q) && r)) := by
  refine down ?_ ?_
  · intro pr
    refine Ev.step (fun _ => rfl) ?_
    simp only [impl_Proves.l1]
    refine ev_f (by omega) ?_
    cases pr with
    | true => exact ev_t rfl (by simpa using hr)
    | false => exact ev_f (by simp) (by simpa using Ev.now false)
  · intro j hj ih pr
    have hbq := hb nx[j] (List.getElem_mem hj)
    refine Ev.step (fun _ => rfl) ?_
    simp only [impl_Proves.l1]
    rw [List.drop_eq_getElem_cons hj, List.all_cons, List.any_cons, show rd nx (j : Int) = nx[j] by simp [rd, hj]]
    generalize nx[j] = q at hbq ⊢
    refine ev_t (by omega) (ev_t (by omega) (ev_t (by omega) (ev_t (by omega) (ev_t (by omega) ?_))))
    have step : ∀ t : Bool, okI l w c q = !t → Ev (fun k => impl_Proves.j4 k g w p c pr q w w.length p nx nx.length j t a b l f) ((okI l w c q && (nx.drop (j + 1)).all fun q => okI l w c q) && ((pr || (hitI l w c p q || (nx.drop (j + 1)).any fun q => hitI l w c p q)) && r)) := by
      intro t ht
      rw [ht]
      refine Ev.step (fun _ => rfl) ?_
      simp only [impl_Proves.j4]
      rw [wr (x := (j : Int) + 1) (by omega)]
      cases t with
      | true => exact ev_t rfl (by simpa using Ev.now false)
      | false =>
        refine ev_f (by simp) ?_
        cases pr with
        | true => exact ev_t rfl (by simpa using ih true)
        | false =>
          refine ev_f (by simp) (ev_t (by omega) (ev_t (by omega) ?_))
          by_cases h : rd w q ≥ 0
          · refine ev_t h (ev_t (by omega) (ev_t (by omega) ?_))
            simpa [hitI, h] using ih (rd w q == wrap64 (c - rd l p))
          · refine ev_f h ?_
            simpa [hitI, h] using ih false
    by_cases h1 : rd l q > 0
    · refine ev_t h1 (ev_t (by omega) ?_)
      by_cases h2 : rd w q = -1
      · exact ev_t h2 (step _ (by simp [okI, h1, h2]))
      · have h2' : (rd w q == -1) = false := by simpa using h2
        refine ev_f h2 (step _ ?_)
        unfold okI
        rw [h2']
        simp [h1]
    · exact ev_f h1 (step _ (by simp [okI, h1]))
theorem next_bd (a b p q : Int) (ha : 1 ≤ a) (hp : 0 ≤ p) (hp2 : p < a * b) (h : q ∈ nextL a b p) : 0 ≤ q ∧ q < a * b := by
  obtain ⟨x1, x2, y1, y2, e1⟩ := divmod_bd a b p ha hp hp2
  have mem : (p / a > 0 ∧ q = p - a) ∨ (p % a > 0 ∧ q = p - 1) ∨ (p % a < a - 1 ∧ q = p + 1) ∨ (p / a < b - 1 ∧ q = p + a) := by
    unfold nextL at h
    simp only [List.mem_append] at h
    have m : ∀ (c : Prop) [Decidable c] (z : Int), q ∈ (if c then [z] else []) ↔ c ∧ q = z := by
      intro c _ z
      by_cases h : c <;> simp [h]
    rwa [m, m, m, m] at h
  have k1 : p / a > 0 → a * 1 ≤ a * (p / a) := fun h => Int.mul_le_mul_of_nonneg_left (by omega) (by omega)
  have k2 : a * (p / a + 1) ≤ a * b := Int.mul_le_mul_of_nonneg_left (by omega) (by omega)
  have k3 : p / a < b - 1 → a * (p / a + 2) ≤ a * b := fun h => Int.mul_le_mul_of_nonneg_left (by omega) (by omega)
  have k0 : 0 ≤ a * (p / a) := Int.mul_nonneg (by omega) y1
  rw [Int.mul_add] at k2 k3
  rcases mem with ⟨h1, h2⟩ | ⟨h1, h2⟩ | ⟨h1, h2⟩ | ⟨h1, h2⟩
  · have := k1 h1; omega
  · omega
  · omega
  · have := k3 h1; omega
def badP (l w : List Int) (p : Nat) : Bool := decide (rd w p < -1) || (rd l p == 0 && rd w p != -1)
theorem pr_same_bool (a b : Int) (l w : List Int) (p : Nat) (ha : 1 ≤ a) (hl : (l.length : Int) = a * b) (hw : w.length = l.length) (hp : p < w.length) (pos : ∀ i : Nat, i < l.length → 0 ≤ rd l i ∧ rd l i ≤ 1000) (good : ∀ q, q < w.length → badP l w q = false) (pr r : Bool) :
    ((((List.range w.length).drop 0).all fun q => okS a l w p q) && ((pr || ((List.range w.length).drop 0).any fun q => hitS a l w p q) && r)) = ((((nextL a b p).drop 0).all fun q => okI l w (rd w p) q) && ((pr || ((nextL a b p).drop 0).any fun q => hitI l w (rd w p) p q) && r)) := by
  simp only [List.drop_zero]
  have key : ∀ q : Nat, q < w.length → (okS a l w p q = (!adjB a p q || okI l w (rd w p) q)) ∧ (okS a l w p q = true → hitS a l w p q = (adjB a p q && hitI l w (rd w p) p q)) := by
    intro q hq
    have gq := good q hq
    obtain ⟨c1, c2⟩ := pos q (by omega)
    simp only [badP, Bool.or_eq_false_iff, decide_eq_false_iff_not, Bool.and_eq_false_iff, beq_eq_false_iff_ne, bne_eq_false_iff_eq] at gq
    obtain ⟨g1, g2⟩ := gq
    unfold okS hitS okI hitI
    cases adjB a p q with
    | false => simp
    | true =>
      by_cases hz : rd l q = 0
      · have h1 : rd w q = -1 := by
          rcases g2 with h | h
          · exact absurd hz h
          · exact h
        simp [hz, h1]
      · have hz' : (rd l q == 0) = false := by simpa using hz
        have hz2 : rd l q > 0 := by omega
        rw [hz']
        by_cases h0 : 0 ≤ rd w q
        · have h1 : (rd w q == -1) = false := by simp; omega
          rw [h1]
          by_cases h3 : wrap64 (rd w q - rd l q) ≤ rd w p
          · have h3' : ¬ wrap64 (rd w q - rd l q) > rd w p := by omega
            simp [h0, hz2, h3]
          · have h3' : wrap64 (rd w q - rd l q) > rd w p := by omega
            simp [h0, hz2, h3]
            exact h3'
        · have h1 : rd w q = -1 := by omega
          simp [h1, hz2]
  have hp1 : (p : Int) < a * b := by omega
  have e1 : ((List.range w.length).all fun q => okS a l w p q) = ((nextL a b p).all fun q => okI l w (rd w p) q) := by
    rw [Bool.eq_iff_iff, List.all_eq_true, List.all_eq_true]
    constructor
    · intro h q hq
      obtain ⟨b1, b2⟩ := next_bd a b p q ha (by omega) hp1 hq
      have := h q.toNat (by rw [List.mem_range]; omega)
      rw [(key q.toNat (by omega)).1] at this
      rw [show ((q.toNat : Nat) : Int) = q by omega, (next_mem a b p q ha (by omega) hp1 b1 b2).1 hq] at this
      simpa using this
    · intro h q hq
      rw [List.mem_range] at hq
      rw [(key q hq).1]
      cases had : adjB a p q with
      | false => rfl
      | true => simpa using h q ((next_mem a b p q ha (by omega) hp1 (by omega) (by omega)).2 had)
  rw [← e1]
  cases hall : (List.range w.length).all fun q => okS a l w p q with
  | false => rfl
  | true =>
    rw [List.all_eq_true] at hall
    have e2 : ((List.range w.length).any fun q => hitS a l w p q) = ((nextL a b p).any fun q => hitI l w (rd w p) p q) := by
      rw [Bool.eq_iff_iff, List.any_eq_true, List.any_eq_true]
      constructor
      · rintro ⟨q, hq, h⟩
        have hq' := List.mem_range.1 hq
        rw [(key q hq').2 (hall q hq), Bool.and_eq_true] at h
        exact ⟨q, (next_mem a b p q ha (by omega) hp1 (by omega) (by omega)).2 h.1, h.2⟩
      · rintro ⟨q, hq, h⟩
        obtain ⟨b1, b2⟩ := next_bd a b p q ha (by omega) hp1 hq
        have hm : q.toNat ∈ List.range w.length := by rw [List.mem_range]; omega
        refine ⟨q.toNat, hm, ?_⟩
        rw [(key q.toNat (by omega)).2 (hall _ hm), show ((q.toNat : Nat) : Int) = q by omega, (next_mem a b p q ha (by omega) hp1 b1 b2).1 hq, h]
        rfl
    rw [e2]
theorem pr_l0 (a b : Int) (l : List Int) (f : List S192) (w : List Int) (g : Int) (h : seaB a b l f = true) (hw : w.length = l.length) : ∃ v, Ev (fun k => spec_Proves.l0 k g w 0 a b l f) v ∧ Ev (fun k => impl_Proves.l0 k g w w w.length 0 a b l f) v := by
  obtain ⟨ha, ha2, hb, hb2, hl, hab2, hab1, hf, hc⟩ := seaB_t h
  have s2 : ∀ i : Nat, Ev (fun k => spec_Proves.j2 k g w i true a b l f) false := fun i => Ev.step (fun _ => rfl) (by simp only [spec_Proves.j2]; exact Ev.now _)
  have i2 : ∀ i : Nat, Ev (fun k => impl_Proves.j2 k g w i (rd w i) w w.length i true a b l f) false := fun i => Ev.step (fun _ => rfl) (by simp only [impl_Proves.j2]; exact Ev.now _)
  have go : ∀ i : Nat, i < w.length → ∀ u, Ev (fun k => spec_Proves.j2 k g w i (badP l w i) a b l f) u → Ev (fun k => impl_Proves.j2 k g w i (rd w i) w w.length i (badP l w i) a b l f) u → Ev (fun k => spec_Proves.l0 k g w i a b l f) u ∧ Ev (fun k => impl_Proves.l0 k g w w w.length i a b l f) u := by
    intro i hi u u1 u2
    unfold badP at u1 u2
    refine ⟨Ev.step (fun _ => rfl) ?_, Ev.step (fun _ => rfl) ?_⟩
    · simp only [spec_Proves.l0]
      refine ev_t (by omega) (ev_t (by omega) ?_)
      by_cases h1 : rd w i < -1
      · exact ev_t h1 (by simpa [h1] using u1)
      · refine ev_f h1 (ev_t (by omega) ?_)
        by_cases h2 : rd l i = 0
        · exact ev_t h2 (by simpa [h1, h2] using u1)
        · exact ev_f h2 (by rw [show (rd l i == 0) = false by simpa using h2] at u1; simpa [h1] using u1)
    · simp only [impl_Proves.l0]
      refine ev_t (by omega) (ev_t (by omega) (ev_t (by omega) ?_))
      by_cases h1 : rd w i < -1
      · exact ev_t h1 (by simpa [h1] using u2)
      · refine ev_f h1 (ev_t (by omega) ?_)
        by_cases h2 : rd l i = 0
        · exact ev_t h2 (by simpa [h1, h2] using u2)
        · exact ev_f h2 (by rw [show (rd l i == 0) = false by simpa using h2] at u2; simpa [h1] using u2)
  have badStep : ∀ i : Nat, i < w.length → badP l w i = true → Ev (fun k => spec_Proves.l0 k g w i a b l f) false ∧ Ev (fun k => impl_Proves.l0 k g w w w.length i a b l f) false := by
    intro i hi hbad
    have go := go i hi
    rw [hbad] at go
    exact go false (s2 i) (i2 i)
  have round : ∀ i : Nat, i < w.length → ∀ v, Ev (fun k => spec_Proves.l0 k g w ((i + 1 : Nat) : Int) a b l f) v → Ev (fun k => impl_Proves.l0 k g w w w.length ((i + 1 : Nat) : Int) a b l f) v → (v = false ∨ ∀ q, q < w.length → badP l w q = false) →
      ∃ u, Ev (fun k => spec_Proves.l0 k g w i a b l f) u ∧ Ev (fun k => impl_Proves.l0 k g w w w.length i a b l f) u ∧ (v = false → u = false) := by
    intro i hi v v1 v2 hv
    cases hbad : badP l w i with
    | true =>
      obtain ⟨g1, g2⟩ := badStep i hi hbad
      exact ⟨false, g1, g2, fun _ => rfl⟩
    | false =>
      have go := go i hi
      rw [hbad] at go
      have v1' : Ev (fun k => spec_Proves.l0 k g w (wrap64 ((i : Int) + 1)) a b l f) v := by rw [wr (by omega)]; exact v1
      have v2' : Ev (fun k => impl_Proves.l0 k g w w w.length (wrap64 ((i : Int) + 1)) a b l f) v := by rw [wr (by omega)]; exact v2
      by_cases h0 : rd w i < 0
      · have t1 : Ev (fun k => spec_Proves.l1 k g w i true 0 a b l f) v := by
          refine Ev.step (fun _ => rfl) ?_
          simp only [spec_Proves.l1]
          refine ev_t (by omega) (ev_t (by omega) (ev_t (by omega) (Ev.step (fun _ => rfl) ?_)))
          simp only [spec_Proves.j5]
          exact ev_f (by simp; omega) (ev_t (by first | rfl | trivial) v1')
        have t3 : Ev (fun k => spec_Proves.j3 k g w i true a b l f) v := Ev.step (fun _ => rfl) (by simp only [spec_Proves.j3]; exact t1)
        obtain ⟨g1, g2⟩ := go v (by
          refine Ev.step (fun _ => rfl) ?_
          simp only [spec_Proves.j2]
          refine ev_f (by simp) ?_
          by_cases hg : (i : Int) = g
          · exact ev_t hg t3
          · exact ev_f hg (ev_t (by omega) (ev_t (by omega) (by simpa [h0] using t3)))) (by
          refine Ev.step (fun _ => rfl) ?_
          simp only [impl_Proves.j2]
          exact ev_f (by simp) (ev_t h0 v2'))
        exact ⟨v, g1, g2, id⟩
      · have a1 := pr_s a b l f w g i ha ha2 hb2 hl hw (by omega) hi (by omega) v v1' 0 (Nat.zero_le _) ((i : Int) == g)
        have a2 := pr_i a b l f w g (rd w i) i (by omega) hw hi (nextL a b i) (nextL_len a b i) (fun q hq => by rw [hl]; exact next_bd a b i q ha (by omega) (by omega) hq) v v2' 0 (Nat.zero_le _) ((i : Int) == g)
        have nx2 := next2 a b l f i ha ha2 hb hb2 hab2 (by omega) (by omega)
        have eqv : ((((List.range w.length).drop 0).all fun q => okS a l w i q) && ((((i : Int) == g) || ((List.range w.length).drop 0).any fun q => hitS a l w i q) && v)) = ((((nextL a b i).drop 0).all fun q => okI l w (rd w i) q) && ((((i : Int) == g) || ((nextL a b i).drop 0).any fun q => hitI l w (rd w i) i q) && v)) := by
          rcases hv with hv | hv
          · subst hv; simp only [Bool.and_false]
          · exact pr_same_bool a b l w i ha hl hw hi hc hv _ _
        rw [← eqv] at a2
        obtain ⟨g1, g2⟩ := go ((((List.range w.length).drop 0).all fun q => okS a l w i q) && ((((i : Int) == g) || ((List.range w.length).drop 0).any fun q => hitS a l w i q) && v)) (by
          refine Ev.step (fun _ => rfl) ?_
          simp only [spec_Proves.j2]
          refine ev_f (by simp) ?_
          by_cases hg : (i : Int) = g
          · refine ev_t hg (Ev.step (fun _ => rfl) ?_)
            simp only [spec_Proves.j3]
            have hg' : ((i : Int) == g) = true := by simpa using hg
            rw [hg'] at a1 ⊢
            exact a1
          · refine ev_f hg (ev_t (by omega) (ev_t (by omega) (Ev.step (fun _ => rfl) ?_)))
            simp only [spec_Proves.j3]
            have hg' : ((i : Int) == g) = false := by simpa using hg
            have h0' : decide (rd w i < 0) = false := by simpa using h0
            rw [hg'] at a1 ⊢
            rw [h0']
            exact a1) (by
          refine Ev.step (fun _ => rfl) ?_
          simp only [impl_Proves.j2]
          exact ev_f (by simp) (ev_f h0 (Ev.bind nx2 a2)))
        exact ⟨_, g1, g2, fun h => by rw [h, Bool.and_false, Bool.and_false]⟩
  have fin : Ev (fun k => spec_Proves.l0 k g w (w.length : Nat) a b l f) true ∧ Ev (fun k => impl_Proves.l0 k g w w w.length (w.length : Nat) a b l f) true := by
    refine ⟨Ev.step (fun _ => rfl) ?_, Ev.step (fun _ => rfl) ?_⟩
    · simp only [spec_Proves.l0]; exact ev_f (by omega) (Ev.now _)
    · simp only [impl_Proves.l0]; exact ev_f (by omega) (Ev.now _)
  by_cases hgood : ∀ q, q < w.length → badP l w q = false
  · have key : ∀ i : Nat, i ≤ w.length → ∃ v, Ev (fun k => spec_Proves.l0 k g w i a b l f) v ∧ Ev (fun k => impl_Proves.l0 k g w w w.length i a b l f) v := by
      refine down ⟨true, fin.1, fin.2⟩ ?_
      rintro i hi ⟨v, v1, v2⟩
      obtain ⟨u, u1, u2, _⟩ := round i hi v v1 v2 (.inr hgood)
      exact ⟨u, u1, u2⟩
    simpa using key 0 (Nat.zero_le _)
  · obtain ⟨q, hq, hbq⟩ : ∃ q, q < w.length ∧ badP l w q = true := by
      apply Classical.byContradiction
      intro hn
      apply hgood
      intro q hq
      cases hb : badP l w q with
      | false => rfl
      | true => exact absurd ⟨q, hq, hb⟩ hn
    have key : ∀ i : Nat, i ≤ q → Ev (fun k => spec_Proves.l0 k g w i a b l f) false ∧ Ev (fun k => impl_Proves.l0 k g w w w.length i a b l f) false := by
      refine down (badStep q hq hbq) ?_
      rintro i hi ⟨v1, v2⟩
      obtain ⟨u, u1, u2, u3⟩ := round i (by omega) false v1 v2 (.inl rfl)
      rw [u3 rfl] at u1 u2
      exact ⟨u1, u2⟩
    have := key 0 (Nat.zero_le _)
    exact ⟨false, by simpa using this⟩
theorem proves_same (a b : Int) (l : List Int) (f : List S192) (g : Int) (w : List Int) (hl : l.length ≤ 1048576) (hf : f.length ≤ 1048576) : ∃ v, Ev (fun k => spec_Proves.f k a b l f g w) v ∧ Ev (fun k => impl_Proves.f k a b l f g w) v := by
  have s1 := sea1 a b l f hl hf
  have s2 := sea2 a b l f hl hf
  have t1 : Ev (fun k => spec_Proves.j0 k g w true a b l f) false := Ev.step (fun _ => rfl) (by simp only [spec_Proves.j0]; exact Ev.now _)
  have t2 : Ev (fun k => impl_Proves.j0 k g w true a b l f) false := Ev.step (fun _ => rfl) (by simp only [impl_Proves.j0]; exact Ev.now _)
  simp only [spec_Proves.f, impl_Proves.f]
  cases h : seaB a b l f with
  | false =>
    rw [h] at s1 s2
    exact ⟨false, Ev.bind s1 (ev_f (by simp) t1), Ev.bind s2 (ev_f (by simp) t2)⟩
  | true =>
    rw [h] at s1 s2
    obtain ⟨ha, ha2, hb, hb2, hll, hab2, hab1, hff, hc⟩ := seaB_t h
    have p1 := pl1 a b l f g hab1 hab2
    have p2 := pl2 a b l f g hll hab1 hab2
    cases hp : inB g 0 (a * b - 1) with
    | false =>
      rw [hp] at p1 p2
      simp only [p1, p2, Option.bind_some]
      exact ⟨false, Ev.bind s1 (ev_t (by first | rfl | trivial) (ev_f (by simp) t1)), Ev.bind s2 (ev_t (by first | rfl | trivial) (ev_f (by simp) t2))⟩
    | true =>
      rw [hp] at p1 p2
      have hpb := inB_t.1 hp
      simp only [p1, p2, Option.bind_some]
      suffices hs : ∃ v, Ev (fun k => (if rd l g = 0 then (spec_Proves.j0 k g w true a b l f) else (if (w.length : Int) = (l.length : Int) then (if g < (w.length : Int) then (spec_Proves.j0 k g w ((rd w g) != 0) a b l f) else (none)) else (spec_Proves.j0 k g w true a b l f)))) v ∧ Ev (fun k => (if rd l g = 0 then (impl_Proves.j0 k g w true a b l f) else (if (w.length : Int) = (l.length : Int) then (if g < (w.length : Int) then (impl_Proves.j0 k g w ((rd w g) != 0) a b l f) else (none)) else (impl_Proves.j0 k g w true a b l f)))) v by
        obtain ⟨v, v1, v2⟩ := hs
        exact ⟨v, Ev.bind s1 (ev_t (by first | rfl | trivial) (ev_t (by first | rfl | trivial) (ev_t hpb.1 (ev_t (by omega) v1)))), Ev.bind s2 (ev_t (by first | rfl | trivial) (ev_t (by first | rfl | trivial) (ev_t hpb.1 (ev_t (by omega) v2))))⟩
      by_cases hz : rd l g = 0
      · exact ⟨false, ev_t hz t1, ev_t hz t2⟩
      by_cases hwl : (w.length : Int) = (l.length : Int)
      · cases h0 : (rd w g != 0) with
        | true => exact ⟨false, ev_f hz (ev_t hwl (ev_t (by omega) t1)), ev_f hz (ev_t hwl (ev_t (by omega) t2))⟩
        | false =>
          obtain ⟨v, v1, v2⟩ := pr_l0 a b l f w g h (by omega)
          refine ⟨v, ev_f hz (ev_t hwl (ev_t (by omega) (Ev.step (fun _ => rfl) ?_))), ev_f hz (ev_t hwl (ev_t (by omega) (Ev.step (fun _ => rfl) ?_)))⟩
          · simp only [spec_Proves.j0]; exact ev_f (by simp) v1
          · simp only [impl_Proves.j0]; exact ev_f (by simp) v2
      · exact ⟨false, ev_f hz (ev_f hwl t1), ev_f hz (ev_f hwl t2)⟩
theorem P_Proves : ∀ (x : S93) (g : Int) (w : List Int), x.f2.length ≤ maxLen → x.f3.length ≤ maxLen → ∃ k, laws_FnExactProves.f k x.f0 x.f1 x.f2 x.f3 g w = some true := by
  intro x g w hl hf
  refine Ev.rounds ?_
  unfold maxLen at hl hf
  simp only [laws_FnExactProves.f]
  by_cases hw : (w.length : Int) > 1048576
  · exact ev_t hw (Ev.now _)
  refine ev_f hw ?_
  obtain ⟨s, hs, hs2⟩ := szSea_ev x.f0 x.f1 x.f2 x.f3 (by omega) (by omega)
  simp only [hs, Option.bind_some]
  by_cases h : s < 0
  · exact ev_t h (Ev.now _)
  · obtain ⟨h1, h2⟩ := hs2 (by omega)
    have ht := toSea_ev x.f0 x.f1 x.f2 x.f3 h1 h2
    have h3 : (x.f3.map cClosed).length ≤ 1048576 := by simp; omega
    have hti := toIntS_id w (by omega)
    obtain ⟨v, v1, v2⟩ := proves_same x.f0 x.f1 x.f2 (x.f3.map cClosed) g w h1 h3
    exact ev_f h (Ev.bind ht (Ev.bind hti (Ev.bind v1 (Ev.bind ht (Ev.bind hti (Ev.bind v2 (ev_f (by simp) (Ev.bind ht (Ev.bind (eqSea_ev _ _ _ _ h1 h3) (ev_t (by first | rfl | trivial) (Ev.bind hti (Ev.bind (eqIntS_ev w (by omega)) (ev_t (by first | rfl | trivial) (Ev.now _))))))))))))))
theorem FnExactProves : laws_FnExactProves.Pure := fun x f l h _ h2 => P_Proves x f l h.2.2.1.1 h.2.2.2.1

end Go.Proofs.Ytlmohamgfindmac.Pure
