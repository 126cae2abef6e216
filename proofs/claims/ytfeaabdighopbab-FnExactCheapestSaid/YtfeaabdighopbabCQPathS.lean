/- Plain lemmas on the printed functions (PathS). -/
import Derived.Test.YtfeaabdighopbabPu0
import Derived.Test.YtfeaabdighopbabPCx0
import Derived.Test.YtfeaabdighopbabPCx5
import Derived.Test.YtfeaabdighopbabPCx10
import Derived.Test.YtfeaabdighopbabCQBase
import Derived.Test.YtfeaabdighopbabCQSeas
import Derived.Test.YtfeaabdighopbabCQNexts
import Derived.Test.YtfeaabdighopbabCQPlaces
import Derived.Test.YtfeaabdighopbabCQPaths
namespace Go.Proofs.Ytfeaabdighopbab.Pu
open Go.RowKit Go.Proofs.Ytfeaabdighopbab Go.Proofs.Ytfeaabdighopbab.PC Go.Proofs.Ytfeaabdighopbab.Pu Go.Proofs.YtfeaabdighopbabW.PrintWords Go.Proofs.YtfeaabdighopbabW.PrintLast Go.Proofs.YtfeaabdighopbabW.PrintMore
set_option linter.unusedVariables false
set_option linter.unusedSimpArgs false
/-- What the reference asks of p: it is no dearer than by way of z. -/
def FixS (a : Int) (l o : List Int) (p z : Int) : Prop := 0 ≤ rd o z → adjB a p z = true → 0 ≤ rd o p ∧ rd o p ≤ rd o z + rd l p
theorem l3_ok (a b : Int) (l : List Int) (f : List S143) (s : Int) (hsea : seaB a b l f = true) (hs : 0 ≤ s) (hs2 : s < (l.length : Int)) (p : Int) (hp : 0 ≤ p) (hp2 : p < (l.length : Int)) (hcp : rd l p > 0) : ∀ (m : Nat) (q : Int), 0 ≤ q → q + m = (l.length : Int) → ∀ (o : List Int) (ag : Bool), InvC a l s o →
    ∃ o' ag', (∀ v, Ev (fun k => spec_Cheapest.l2 k o' ag' (p + 1) a b l f) v → Ev (fun k => spec_Cheapest.l3 k o ag p q a b l f) v) ∧ InvC a l s o' ∧ sumF fBig o' ≤ sumF fBig o ∧ ((ag' = ag ∧ o' = o ∧ ∀ z : Int, q ≤ z → z < (l.length : Int) → FixS a l o p z) ∨ (ag' = true ∧ sumF fBig o' < sumF fBig o))
  | 0, q, hq, hm, o, ag, hi => by
    obtain ⟨ha1, ha2, hb1, hb2, hlab, hab, hab1, _, hc⟩ := seaB_t hsea
    have hlen := hi.len
    refine ⟨o, ag, fun v hv => ?_, hi, Nat.le_refl _, .inl ⟨rfl, rfl, fun z h1 h2 => by omega⟩⟩
    have j : Ev (fun k => spec_Cheapest.j5 k o ag p q false a b l f) v := Ev.step (fun _ => rfl) (by
      simp only [spec_Cheapest.j5]
      rw [wr (x := p + 1) (by omega)]
      exact ev_f (by simp) hv)
    refine Ev.step (fun _ => rfl) ?_
    simp only [spec_Cheapest.l3]
    exact ev_f (by omega) j
  | m + 1, q, hq, hm, o, ag, hi => by
    obtain ⟨ha1, ha2, hb1, hb2, hlab, hab, hab1, _, hc⟩ := seaB_t hsea
    have hl : l.length ≤ 144 := by omega
    have hlen := hi.len
    have hcost : 0 ≤ rd l p ∧ rd l p ≤ 1000 := by have := hc p.toNat (by omega); rwa [show ((p.toNat : Nat) : Int) = p by omega] at this
    have hbq := hi.bd q hq (by omega)
    have hpl2 := pos_le o
    have hop : ∀ o : List Int, o.length = l.length → ∀ ag v, Ev (fun k => spec_Cheapest.j5 k o ag p q true a b l f) v → Ev (fun k => spec_Cheapest.l3 k o ag p q a b l f) v := by
      intro o ho ag v hv
      refine Ev.step (fun _ => rfl) ?_
      simp only [spec_Cheapest.l3]
      rw [decide_eq_true hcp]
      exact ev_t (by omega) (ev_t (by omega) (ev_t (by omega) hv))
    have stay : (¬ (0 ≤ rd o q ∧ adjB a p q = true ∧ (rd o p < 0 ∨ rd o q + rd l p < rd o p))) → ∃ o' ag', (∀ v, Ev (fun k => spec_Cheapest.l2 k o' ag' (p + 1) a b l f) v → Ev (fun k => spec_Cheapest.l3 k o ag p q a b l f) v) ∧ InvC a l s o' ∧ sumF fBig o' ≤ sumF fBig o ∧ ((ag' = ag ∧ o' = o ∧ ∀ z : Int, q ≤ z → z < (l.length : Int) → FixS a l o p z) ∨ (ag' = true ∧ sumF fBig o' < sumF fBig o)) := by
      intro hno
      obtain ⟨o', ag', r1, r2, r3, r4⟩ := l3_ok a b l f s hsea hs hs2 p hp hp2 hcp m (q + 1) (by omega) (by omega) o ag hi
      refine ⟨o', ag', fun v hv => hop o hlen ag v (Ev.step (fun _ => rfl) ?_), r2, r3, ?_⟩
      · simp only [spec_Cheapest.j5, next1 a b l f p q ha1 ha2 hb2 hp (by omega) hq (by omega), Option.bind_some]
        rw [wr (x := q + 1) (by omega)]
        refine ev_t (by first | rfl | trivial) (ev_t (by omega) (ev_t (by omega) ?_))
        by_cases h1 : rd o q ≥ 0
        · refine ev_t h1 ?_
          rw [wr (x := rd o q + rd l p) (by omega)]
          by_cases h2 : adjB a p q = true
          · refine ev_t h2 (ev_t (by omega) (ev_t (by omega) (ev_f (fun h => hno ⟨h1, h2, .inl h⟩) (ev_t (by omega) (ev_f (fun h => hno ⟨h1, h2, .inr h⟩) (r1 v hv))))))
          · exact ev_f h2 (r1 v hv)
        · exact ev_f h1 (r1 v hv)
      · rcases r4 with ⟨h1, h2, h3⟩ | h1
        · refine .inl ⟨h1, h2, fun z hz hz2 => ?_⟩
          by_cases e : z = q
          · subst e
            intro k1 k2
            by_cases k3 : rd o p < 0
            · exact absurd ⟨k1, k2, .inl k3⟩ hno
            · by_cases k4 : rd o z + rd l p < rd o p
              · exact absurd ⟨k1, k2, .inr k4⟩ hno
              · omega
          · exact h3 z (by omega) hz2
        · exact .inr h1
    by_cases hdo : 0 ≤ rd o q ∧ adjB a p q = true ∧ (rd o p < 0 ∨ rd o q + rd l p < rd o p)
    · obtain ⟨h1, h2, h3⟩ := hdo
      obtain ⟨hi2, hm2⟩ := set_inv hl hc hs hs2 hi hq (by omega) hp hp2 (by rw [adj_symm]; exact h2) hcp h1 (by rcases h3 with h | h; exact .inl h; exact .inr (by omega))
      obtain ⟨o', ag', r1, r2, r3, r4⟩ := l3_ok a b l f s hsea hs hs2 p hp hp2 hcp m (q + 1) (by omega) (by omega) _ true hi2
      refine ⟨o', ag', fun v hv => hop o hlen ag v (Ev.step (fun _ => rfl) ?_), r2, by omega, .inr ⟨?_, by omega⟩⟩
      · simp only [spec_Cheapest.j5, next1 a b l f p q ha1 ha2 hb2 hp (by omega) hq (by omega), Option.bind_some]
        rw [wr (x := q + 1) (by omega), wr (x := rd o q + rd l p) (by omega)]
        refine ev_t (by first | rfl | trivial) (ev_t (by omega) (ev_t (by omega) (ev_t h1 (ev_t h2 (ev_t (by omega) (ev_t (by omega) ?_))))))
        by_cases h4 : rd o p < 0
        · exact ev_t h4 (ev_t (by omega) (r1 v hv))
        · refine ev_f h4 (ev_t (by omega) (ev_t (by rcases h3 with h | h; exact absurd h h4; exact h) (r1 v hv)))
      · rcases r4 with h | h
        · exact h.1
        · exact h.1
    · exact stay hdo
theorem l2_ok (a b : Int) (l : List Int) (f : List S143) (s : Int) (hsea : seaB a b l f = true) (hs : 0 ≤ s) (hs2 : s < (l.length : Int)) : ∀ (m : Nat) (p : Int), 0 ≤ p → p + m = (l.length : Int) → ∀ (o : List Int) (ag : Bool), InvC a l s o →
    ∃ o' ag', (∀ v, Ev (fun k => spec_Cheapest.l1 k o' ag' a b l f) v → Ev (fun k => spec_Cheapest.l2 k o ag p a b l f) v) ∧ InvC a l s o' ∧ sumF fBig o' ≤ sumF fBig o ∧ ((ag' = ag ∧ o' = o ∧ ∀ q : Int, p ≤ q → q < (l.length : Int) → rd l q > 0 → ∀ z : Int, 0 ≤ z → z < (l.length : Int) → FixS a l o q z) ∨ (ag' = true ∧ sumF fBig o' < sumF fBig o))
  | 0, p, hp, hm, o, ag, hi => by
    have hlen := hi.len
    refine ⟨o, ag, fun v hv => Ev.step (fun _ => rfl) ?_, hi, Nat.le_refl _, .inl ⟨rfl, rfl, fun q h1 h2 => by omega⟩⟩
    simp only [spec_Cheapest.l2]
    exact ev_f (by omega) hv
  | m + 1, p, hp, hm, o, ag, hi => by
    obtain ⟨ha1, ha2, hb1, hb2, hlab, hab, hab1, _, hc⟩ := seaB_t hsea
    have hlen := hi.len
    by_cases hcp : rd l p > 0
    · obtain ⟨o1, ag1, q1, q2, q3, q4⟩ := l3_ok a b l f s hsea hs hs2 p hp (by omega) hcp l.length 0 (Int.le_refl _) (by omega) o ag hi
      obtain ⟨o', ag', r1, r2, r3, r4⟩ := l2_ok a b l f s hsea hs hs2 m (p + 1) (by omega) (by omega) o1 ag1 q2
      refine ⟨o', ag', fun v hv => Ev.step (fun _ => rfl) ?_, r2, by omega, ?_⟩
      · simp only [spec_Cheapest.l2]
        exact ev_t (by omega) (q1 v (r1 v hv))
      · rcases q4 with ⟨h1, h2, h3⟩ | ⟨h1, h2⟩
        · subst h1 h2
          rcases r4 with ⟨g1, g2, g3⟩ | g1
          · refine .inl ⟨g1, g2, fun q hq hq2 hcq z hz hz2 => ?_⟩
            by_cases e : q = p
            · subst e; exact h3 z hz hz2
            · exact g3 q (by omega) hq2 hcq z hz hz2
          · exact .inr g1
        · refine .inr ⟨?_, by omega⟩
          rcases r4 with g1 | g1
          · rw [g1.1, h1]
          · exact g1.1
    · obtain ⟨o', ag', r1, r2, r3, r4⟩ := l2_ok a b l f s hsea hs hs2 m (p + 1) (by omega) (by omega) o ag hi
      refine ⟨o', ag', fun v hv => Ev.step (fun _ => rfl) ?_, r2, r3, ?_⟩
      · simp only [spec_Cheapest.l2]
        refine ev_t (by omega) (Ev.step (fun _ => rfl) ?_)
        simp only [spec_Cheapest.l3]
        rw [decide_eq_false hcp]
        refine ev_t (by omega) (ev_t (by omega) (ev_t (by omega) (Ev.step (fun _ => rfl) ?_)))
        simp only [spec_Cheapest.j5]
        rw [wr (x := p + 1) (by omega)]
        exact ev_f (by simp) (r1 v hv)
      · rcases r4 with ⟨h1, h2, h3⟩ | h1
        · refine .inl ⟨h1, h2, fun q hq hq2 hcq z hz hz2 => ?_⟩
          by_cases e : q = p
          · subst e; exact absurd hcq hcp
          · exact h3 q (by omega) hq2 hcq z hz hz2
        · exact .inr h1
theorem l1_ok (a b : Int) (l : List Int) (f : List S143) (s : Int) (hsea : seaB a b l f = true) (hs : 0 ≤ s) (hs2 : s < (l.length : Int)) : ∀ (n : Nat) (o : List Int), sumF fBig o ≤ n → InvC a l s o →
    ∃ r, Ev (fun k => spec_Cheapest.l1 k o true a b l f) (r, true) ∧ InvC a l s r ∧ ∀ p : Int, 0 ≤ p → p < (l.length : Int) → FixC a l r p
  | n, o, hn, hi => by
    obtain ⟨o', ag', r1, r2, r3, r4⟩ := l2_ok a b l f s hsea hs hs2 l.length 0 (Int.le_refl _) (by omega) o false hi
    rcases r4 with ⟨h1, h2, h3⟩ | ⟨h1, h2⟩
    · subst h1 h2
      refine ⟨o', Ev.step (fun _ => rfl) ?_, hi, fun p hp hp2 h0 q hq hq2 hadj hcq => h3 q hq hq2 hcq p hp hp2 h0 (by rw [adj_symm]; exact hadj)⟩
      simp only [spec_Cheapest.l1]
      refine ev_t (by first | rfl | trivial) (r1 _ (Ev.step (fun _ => rfl) ?_))
      simp only [spec_Cheapest.l1]
      exact ev_f (by simp) (Ev.now _)
    · subst h1
      obtain ⟨n, rfl⟩ : ∃ n', n = n' + 1 := ⟨n - 1, by omega⟩
      obtain ⟨r, g1, g2, g3⟩ := l1_ok a b l f s hsea hs hs2 n o' (by omega) r2
      refine ⟨r, Ev.step (fun _ => rfl) ?_, g2, g3⟩
      simp only [spec_Cheapest.l1]
      exact ev_t (by first | rfl | trivial) (r1 _ g1)
theorem start_inv (a : Int) (l : List Int) (s : Int) (hs : 0 ≤ s) (hs2 : s < (l.length : Int)) : InvC a l s ((List.replicate l.length (-1)).set s.toNat 0) := by
  have hr : ∀ j : Int, 0 ≤ j → j < (l.length : Int) → rd (List.replicate l.length (-1 : Int)) j = -1 := fun j hj hj2 => by
    simp [rd, List.getD, List.getElem?_replicate, show j.toNat < l.length by omega]
  have hset := fun j hj => rd_set (o := List.replicate l.length (-1 : Int)) hs (by simpa using hs2) 0 j hj
  refine ⟨by simp, fun p hp hp2 => ?_, ?_, fun p hp hp2 => ?_⟩
  · rw [hset p hp]
    by_cases e : p = s
    · rw [if_pos e]; subst e; exact .inr ⟨Int.le_refl _, Wk.base⟩
    · rw [if_neg e]; exact .inl (hr p hp hp2)
  · rw [hset s hs, if_pos rfl]
  · rw [hset p hp]
    by_cases e : p = s
    · rw [if_pos e]; omega
    · rw [if_neg e, hr p hp hp2]; omega
theorem fill_ev (a b : Int) (l : List Int) (f : List S143) (s : Int) (hl : l.length ≤ 144) (v : List Int × Bool) (hs : 0 ≤ s) (hs2 : s < (l.length : Int)) (h : if rd l s = 0 then v = (List.replicate l.length (-1), true) else Ev (fun k => spec_Cheapest.l1 k ((List.replicate l.length (-1)).set s.toNat 0) true a b l f) v) :
    Ev (fun k => spec_Cheapest.l0 k s (List.replicate l.length 0) 0 a b l f) v := by
  have key : ∀ i : Nat, i ≤ l.length → Ev (fun k => spec_Cheapest.l0 k s (List.replicate i (-1) ++ List.replicate (l.length - i) 0) i a b l f) v := by
    refine down ?_ ?_
    · rw [Nat.sub_self, List.replicate_zero, List.append_nil]
      refine Ev.step (fun _ => rfl) ?_
      simp only [spec_Cheapest.l0]
      refine ev_f (by simp) (ev_t hs (ev_t hs2 ?_))
      by_cases c : rd l s = 0
      · rw [if_pos c] at h; subst h
        exact ev_t c (Ev.now _)
      · rw [if_neg c] at h
        exact ev_f c (ev_t (by simpa using hs2) h)
    · intro i hi ih
      refine Ev.step (fun _ => rfl) ?_
      simp only [spec_Cheapest.l0]
      rw [wr (x := (i : Int) + 1) (by omega), Int.toNat_natCast]
      refine ev_t (by simp; omega) (ev_t (by omega) ?_)
      have e : (List.replicate i (-1 : Int) ++ List.replicate (l.length - i) 0).set i (-1) = List.replicate (i + 1) (-1) ++ List.replicate (l.length - (i + 1)) 0 := by
        rw [List.set_append_right _ _ (by simp), List.length_replicate, Nat.sub_self, show l.length - i = (l.length - (i + 1)) + 1 by omega, List.replicate_succ, List.set_cons_zero, List.replicate_succ' (n := i), List.append_assoc]
        rfl
      rw [e]
      exact ih
  simpa using key 0 (Nat.zero_le _)
theorem cheap_same (a b : Int) (l : List Int) (f : List S143) (s : Int) (hl : l.length ≤ 1048576) (hf : f.length ≤ 1048576) : ∃ v : List Int × Bool, Ev (fun k => spec_Cheapest.f k a b l f s) v ∧ Ev (fun k => impl_Cheapest.f k a b l f s) v ∧ v.1.length ≤ 1048576 := by
  have h1 := sea1 a b l f hl hf
  have h2 := sea2 a b l f hl hf
  have jf : Ev (fun k => spec_Cheapest.j0 k s true a b l f) ([], false) := Ev.step (fun _ => rfl) (by simp only [spec_Cheapest.j0]; exact Ev.now _)
  simp only [spec_Cheapest.f, impl_Cheapest.f]
  cases hsea : seaB a b l f with
  | false =>
    rw [hsea] at h1 h2
    exact ⟨([], false), Ev.bind h1 (ev_f (by simp) jf), Ev.bind h2 (ev_f (by simp) (Ev.now _)), by simp⟩
  | true =>
    rw [hsea] at h1 h2
    obtain ⟨ha1, ha2, hb1, hb2, hlab, hab, hab1, _, hc⟩ := seaB_t hsea
    have p1 := pl1 a b l f s hab1 hab
    have p2 := pl2 a b l f s hlab hab1 hab
    cases hp : inB s 0 (a * b - 1) with
    | false =>
      rw [hp] at p1 p2
      refine ⟨([], false), Ev.bind h1 (ev_t rfl ?_), Ev.bind h2 (ev_t rfl ?_), by simp⟩
      · simp only [p1, Option.bind_some]; exact jf
      · simp only [p2, Option.bind_some]; exact ev_f (by simp) (Ev.now _)
    | true =>
      rw [hp] at p1 p2
      have hs := inB_t.1 hp
      have hs2 : s < (l.length : Int) := by omega
      have jt : ∀ v, Ev (fun k => spec_Cheapest.l0 k s (List.replicate l.length 0) 0 a b l f) v → Ev (fun k => spec_Cheapest.j0 k s false a b l f) v := fun v hv => Ev.step (fun _ => rfl) (by
        simp only [spec_Cheapest.j0]
        refine ev_f (by simp) (ev_t (by omega) (ev_t (by omega) ?_))
        simpa using hv)
      by_cases c : rd l s = 0
      · refine ⟨(List.replicate l.length (-1), true), Ev.bind h1 (ev_t rfl ?_), Ev.bind h2 (ev_t rfl ?_), by simp; omega⟩
        · simp only [p1, Option.bind_some]
          exact jt _ (fill_ev a b l f s (by omega) _ hs.1 hs2 (by rw [if_pos c]))
        · simp only [p2, Option.bind_some]
          exact ev_t (by first | rfl | trivial) (ev_t (by omega) (ev_t hs.1 (ev_t hs2 (ev_t c (Ev.now _)))))
      · have hi := start_inv a l s hs.1 hs2
        obtain ⟨r, g1, g2, g3⟩ := l1_ok a b l f s hsea hs.1 hs2 _ _ (Nat.le_refl _) hi
        obtain ⟨r', ⟨K, g4⟩, g5, g6⟩ := loop_ok a b l f s hsea hs.1 hs2 _ _ (Nat.le_refl _) hi
        have e := fix_same g2 g5 g3 g6
        subst e
        refine ⟨(r, true), Ev.bind h1 (ev_t rfl ?_), Ev.bind h2 (ev_t rfl ?_), by have := g2.len; simp only; omega⟩
        · simp only [p1, Option.bind_some]
          exact jt _ (fill_ev a b l f s (by omega) _ hs.1 hs2 (by rw [if_neg c]; exact g1))
        · simp only [p2, Option.bind_some]
          refine ev_t (by first | rfl | trivial) (ev_t (by omega) (ev_t hs.1 (ev_t hs2 (ev_f c ?_))))
          exact ⟨K, fun k hk => by simp only [g4 k k hk hk, Option.bind_some]⟩

end Go.Proofs.Ytfeaabdighopbab.Pu
