/- Plain lemmas on the printed functions (Ways). -/
import Derived.Test.YtlmohamgfindmacPu0
import Derived.Test.YtlmohamgfindmacPAx0
import Derived.Test.YtlmohamgfindmacPAx31
import Derived.Test.YtlmohamgfindmacPAx32
import Derived.Test.YtlmohamgfindmacPAx35
import Derived.Test.YtlmohamgfindmacPAx36
import Derived.Test.YtlmohamgfindmacQBase
import Derived.Test.YtlmohamgfindmacQSeas
import Derived.Test.YtlmohamgfindmacQNexts
namespace Go.Proofs.Ytlmohamgfindmac.Pu
open Go.RowKit Go.Proofs.Ytlmohamgfindmac Go.Proofs.Ytlmohamgfindmac.PA Go.Proofs.Ytlmohamgfindmac.Pu Go.Proofs.YtlmohamgfindmacW.PrintWords Go.Proofs.YtlmohamgfindmacW.PrintLast Go.Proofs.YtlmohamgfindmacW.PrintMore
set_option linter.unusedVariables false
set_option linter.unusedSimpArgs false
theorem pl1 (a b : Int) (l : List Int) (f : List S192) (p : Int) (h1 : 1 ≤ a * b) (h2 : a * b ≤ 144) : spec_l7Place.f a b l f p = some (inB p 0 (a * b - 1)) := by
  simp only [spec_l7Place.f, l1In_eq, Option.bind_some]
  rw [wr (x := a * b) (by omega), wr (by omega)]
theorem pl2 (a b : Int) (l : List Int) (f : List S192) (p : Int) (hl : (l.length : Int) = a * b) (h1 : 1 ≤ a * b) (h2 : a * b ≤ 144) : impl_Sea_place.f a b l f p = some (inB p 0 (a * b - 1)) := by
  simp only [impl_Sea_place.f, in_eq, Option.bind_some]
  rw [hl, wr (by omega)]
theorem way_l1 (a b : Int) (l : List Int) (f : List S192) (w : List Int) (s p : Int) (i : Int) (nx : List Int) (hn : nx.length ≤ 4) (hp : 0 ≤ p) (hp2 : p < l.length) (v : Int × Bool)
    (hv : Ev (fun k => impl_WayCost.l0 k w (wrap64 (s + rd l p)) w w.length (wrap64 (i + 1)) a b l f) v) :
    ∀ j : Nat, j ≤ nx.length → ∀ c : Bool, Ev (fun k => impl_WayCost.l1 k w s p c w w.length i nx nx.length j a b l f) (if c || (nx.drop j).any (fun q => q == p) then v else (0, false)) := by
  refine down ?_ ?_
  · intro c
    refine Ev.step (fun _ => rfl) ?_
    simp only [impl_WayCost.l1]
    refine ev_f (by omega) ?_
    cases c with
    | true => exact ev_t rfl (ev_t hp (ev_t (by omega) (by simpa using hv)))
    | false => simpa using Ev.now ((0 : Int), false)
  · intro j hj ih c
    refine Ev.step (fun _ => rfl) ?_
    simp only [impl_WayCost.l1]
    refine ev_t (by omega) (ev_t (by omega) (ev_t (by omega) ?_))
    rw [wr (x := (j : Int) + 1) (by omega), List.drop_eq_getElem_cons hj, List.any_cons, show rd nx (j : Int) = nx[j] by simp [rd, hj]]
    cases c with
    | true => refine ev_t rfl ?_; simpa using ih true
    | false => refine ev_f (by simp) ?_; simpa using ih (nx[j] == p)
theorem nextL_len (a b p : Int) : (nextL a b p).length ≤ 4 := by
  unfold nextL
  simp only [List.length_append]
  have m : ∀ (c : Prop) [Decidable c] (z : Int), (if c then [z] else []).length ≤ 1 := by
    intro c _ z
    by_cases h : c <;> simp [h]
  have h1 := m (p / a > 0) (p - a); have h2 := m (p % a > 0) (p - 1); have h3 := m (p % a < a - 1) (p + 1); have h4 := m (p / a < b - 1) (p + a)
  omega
theorem any_adj (a b p q : Int) (ha : 1 ≤ a) (hp : 0 ≤ p) (hp2 : p < a * b) (hq : 0 ≤ q) (hq2 : q < a * b) : (nextL a b p).any (fun z => z == q) = adjB a p q := by
  rw [Bool.eq_iff_iff, ← next_mem a b p q ha hp hp2 hq hq2, List.any_eq_true]
  constructor
  · rintro ⟨z, hz, h⟩
    rw [beq_iff_eq] at h
    rwa [← h]
  · intro h
    exact ⟨q, h, by simp⟩
theorem way_l0 (a b : Int) (l : List Int) (f : List S192) (w : List Int) (hw : w.length ≤ 1048576) (h : seaB a b l f = true) : ∀ i : Nat, i ≤ w.length → ∀ s, (i = 0 ∨ inB (rd w ((i : Int) - 1)) 0 (a * b - 1) = true) → ∃ v, Ev (fun k => spec_WayCost.l0 k w s i a b l f) v ∧ Ev (fun k => impl_WayCost.l0 k w s w w.length i a b l f) v := by
  obtain ⟨ha, ha2, hb, hb2, hl, hab2, hab1, hf, hc⟩ := seaB_t h
  refine down ?_ ?_
  · intro s _
    refine ⟨(s, true), Ev.step (fun _ => rfl) ?_, Ev.step (fun _ => rfl) ?_⟩
    · simp only [spec_WayCost.l0]; exact ev_f (by omega) (Ev.now _)
    · simp only [impl_WayCost.l0]; exact ev_f (by omega) (Ev.now _)
  · intro i hi ih s hprev
    obtain ⟨p, hp⟩ : ∃ p, p = rd w i := ⟨_, rfl⟩
    have b1 : Ev (fun k => spec_WayCost.j2 k w s i true a b l f) (0, false) := Ev.step (fun _ => rfl) (by simp only [spec_WayCost.j2]; exact Ev.now _)
    have b2 : Ev (fun k => impl_WayCost.j2 k w s i p w w.length i true a b l f) (0, false) := Ev.step (fun _ => rfl) (by simp only [impl_WayCost.j2]; exact Ev.now _)
    cases hpl : inB p 0 (a * b - 1) with
    | false =>
      refine ⟨(0, false), Ev.step (fun _ => rfl) ?_, Ev.step (fun _ => rfl) ?_⟩
      · simp only [spec_WayCost.l0, ← hp, pl1 a b l f p hab1 hab2, hpl, Option.bind_some]
        exact ev_t (by omega) (ev_t (by omega) (ev_f (by simp) b1))
      · simp only [impl_WayCost.l0, ← hp, pl2 a b l f p hl hab1 hab2, hpl, Option.bind_some]
        exact ev_t (by omega) (ev_t (by omega) (ev_t (by omega) (ev_f (by simp) b2)))
    | true =>
      have hpb := inB_t.1 hpl
      by_cases hz : rd l p = 0
      · refine ⟨(0, false), Ev.step (fun _ => rfl) ?_, Ev.step (fun _ => rfl) ?_⟩
        · simp only [spec_WayCost.l0, ← hp, pl1 a b l f p hab1 hab2, hpl, Option.bind_some]
          exact ev_t (by omega) (ev_t (by omega) (ev_t (by first | rfl | trivial) (ev_t (by omega) (ev_t (by omega) (ev_t hz b1)))))
        · simp only [impl_WayCost.l0, ← hp, pl2 a b l f p hl hab1 hab2, hpl, Option.bind_some]
          rw [hz]
          exact ev_t (by omega) (ev_t (by omega) (ev_t (by omega) (ev_t (by first | rfl | trivial) (ev_t (by omega) (ev_t (by omega) b2)))))
      · have hz' : (rd l p == 0) = false := by simpa using hz
        have hprev2 : (i + 1 = 0 ∨ inB (rd w (((i + 1 : Nat) : Int) - 1)) 0 (a * b - 1) = true) := by
          right
          rw [show ((i + 1 : Nat) : Int) - 1 = (i : Int) by omega, ← hp]; exact hpl
        by_cases h0 : 0 < i
        · have hq : inB (rd w ((i : Int) - 1)) 0 (a * b - 1) = true := by
            rcases hprev with h | h
            · omega
            · exact h
          have hqb := inB_t.1 hq
          obtain ⟨q, hqe⟩ : ∃ q, q = rd w ((i : Int) - 1) := ⟨_, rfl⟩
          rw [← hqe] at hqb
          have nx := next1 a b l f q p ha ha2 hb2 hqb.1 (by omega) hpb.1 (by omega)
          have nx2 := next2 a b l f q ha ha2 hb hb2 hab2 hqb.1 (by omega)
          obtain ⟨v, v1, v2⟩ := ih (wrap64 (s + rd l p)) hprev2
          have e1 : Ev (fun k => spec_WayCost.j2 k w s i (!adjB a q p) a b l f) (if adjB a q p then v else (0, false)) := by
            refine Ev.step (fun _ => rfl) ?_
            simp only [spec_WayCost.j2, ← hp]
            cases adjB a q p with
            | false => exact Ev.now _
            | true =>
              rw [wr (x := (i : Int) + 1) (by omega)]
              exact ev_f (by simp) (ev_t (by omega) (ev_t (by omega) (ev_t (by omega) (ev_t hpb.1 (ev_t (by omega) (by simpa using v1))))))
          have e2 : Ev (fun k => impl_WayCost.j2 k w s i p w w.length i false a b l f) (if adjB a q p then v else (0, false)) := by
            refine Ev.step (fun _ => rfl) ?_
            simp only [impl_WayCost.j2]
            rw [wr (x := (i : Int) - 1) (by omega), ← hqe]
            refine ev_f (by simp) (ev_f (by omega) (ev_t (by omega) (ev_t (by omega) (Ev.bind nx2 ?_))))
            have := way_l1 a b l f w s p i (nextL a b q) (nextL_len a b q) hpb.1 (by omega) v (by rw [wr (x := (i : Int) + 1) (by omega)]; exact v2) 0 (Nat.zero_le _) false
            rw [List.drop_zero, any_adj a b q p ha hqb.1 (by omega) hpb.1 (by omega)] at this
            simpa using this
          refine ⟨(if adjB a q p then v else (0, false)), Ev.step (fun _ => rfl) ?_, Ev.step (fun _ => rfl) ?_⟩
          · simp only [spec_WayCost.l0, ← hp, pl1 a b l f p hab1 hab2, hpl, Option.bind_some]
            rw [wr (x := (i : Int) - 1) (by omega), ← hqe]
            simp only [nx, Option.bind_some]
            exact ev_t (by omega) (ev_t (by omega) (ev_t (by first | rfl | trivial) (ev_t (by omega) (ev_t (by omega) (ev_f hz (ev_t (by omega) (ev_t (by omega) (ev_t (by omega) e1))))))))
          · simp only [impl_WayCost.l0, ← hp, pl2 a b l f p hl hab1 hab2, hpl, Option.bind_some, hz']
            exact ev_t (by omega) (ev_t (by omega) (ev_t (by omega) (ev_t (by first | rfl | trivial) (ev_t (by omega) (ev_t (by omega) e2)))))
        · obtain ⟨v, v1, v2⟩ := ih s hprev2
          refine ⟨v, Ev.step (fun _ => rfl) ?_, Ev.step (fun _ => rfl) ?_⟩
          · simp only [spec_WayCost.l0, ← hp, pl1 a b l f p hab1 hab2, hpl, Option.bind_some]
            refine ev_t (by omega) (ev_t (by omega) (ev_t (by first | rfl | trivial) (ev_t (by omega) (ev_t (by omega) (ev_f hz (ev_f (by omega) (Ev.step (fun _ => rfl) ?_)))))))
            simp only [spec_WayCost.j2]
            rw [wr (x := (i : Int) + 1) (by omega)]
            exact ev_f (by simp) (ev_f (by omega) v1)
          · simp only [impl_WayCost.l0, ← hp, pl2 a b l f p hl hab1 hab2, hpl, Option.bind_some, hz']
            refine ev_t (by omega) (ev_t (by omega) (ev_t (by omega) (ev_t (by first | rfl | trivial) (ev_t (by omega) (ev_t (by omega) (Ev.step (fun _ => rfl) ?_))))))
            simp only [impl_WayCost.j2]
            rw [wr (x := (i : Int) + 1) (by omega)]
            exact ev_f (by simp) (ev_t (by omega) v2)
theorem way_same (a b : Int) (l : List Int) (f : List S192) (w : List Int) (hl : l.length ≤ 1048576) (hf : f.length ≤ 1048576) (hw : w.length ≤ 1048576) : ∃ v : Int × Bool, Ev (fun k => spec_WayCost.f k a b l f w) v ∧ Ev (fun k => impl_WayCost.f k a b l f w) v ∧ (v.2 = true → seaB a b l f = true) := by
  have s1 := sea1 a b l f hl hf
  have s2 := sea2 a b l f hl hf
  have t1 : Ev (fun k => spec_WayCost.j0 k w true a b l f) (0, false) := Ev.step (fun _ => rfl) (by simp only [spec_WayCost.j0]; exact Ev.now _)
  have t2 : Ev (fun k => impl_WayCost.j0 k w true a b l f) (0, false) := Ev.step (fun _ => rfl) (by simp only [impl_WayCost.j0]; exact Ev.now _)
  simp only [spec_WayCost.f, impl_WayCost.f, l1In_eq, in_eq, Option.bind_some]
  cases h : seaB a b l f with
  | false =>
    rw [h] at s1 s2
    exact ⟨(0, false), Ev.bind s1 (ev_f (by simp) t1), Ev.bind s2 (ev_f (by simp) t2), fun h => by cases h⟩
  | true =>
    rw [h] at s1 s2
    cases inB (w.length : Int) 1 200 with
    | false => exact ⟨(0, false), Ev.bind s1 (ev_t rfl (by simpa using t1)), Ev.bind s2 (ev_t rfl (by simpa using t2)), fun h => by cases h⟩
    | true =>
      obtain ⟨v, v1, v2⟩ := way_l0 a b l f w hw h 0 (Nat.zero_le _) 0 (.inl rfl)
      refine ⟨v, Ev.bind s1 (ev_t rfl (Ev.step (fun _ => rfl) ?_)), Ev.bind s2 (ev_t rfl (Ev.step (fun _ => rfl) ?_)), fun _ => rfl⟩
      · simp only [spec_WayCost.j0]; exact ev_f (by simp) v1
      · simp only [impl_WayCost.j0]; exact ev_f (by simp) v2

end Go.Proofs.Ytlmohamgfindmac.Pu
