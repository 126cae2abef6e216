/- Plain lemmas on the printed functions (QuickS). -/
import Derived.Test.YthbmpegaogfibaaPu0
import Derived.Test.YthbmpegaogfibaaPEx0
import Derived.Test.YthbmpegaogfibaaPEx4
import Derived.Test.YthbmpegaogfibaaEQBase
import Derived.Test.YthbmpegaogfibaaEQSeas
import Derived.Test.YthbmpegaogfibaaEQNexts
import Derived.Test.YthbmpegaogfibaaEQReach
namespace Go.Proofs.Ythbmpegaogfibaa.Pu
open Go.RowKit Go.Proofs.Ythbmpegaogfibaa Go.Proofs.Ythbmpegaogfibaa.PE Go.Proofs.Ythbmpegaogfibaa.Pu Go.Proofs.YthbmpegaogfibaaW.PrintWords Go.Proofs.YthbmpegaogfibaaW.PrintLast Go.Proofs.YthbmpegaogfibaaW.PrintMore
set_option linter.unusedVariables false
set_option linter.unusedSimpArgs false
theorem rdOf_map (n : Nat) (g : Nat → Bool) (i : Nat) (hi : i < n) : rdOf false ((List.range n).map g) (i : Int) = g i := by simp [rdOf, List.getD, hi]
theorem set_map (n : Nat) (g : Nat → Bool) (q : Nat) (v : Bool) : ((List.range n).map g).set q v = (List.range n).map (fun i => if i = q then v else g i) := by
  apply List.ext_getElem
  · simp
  · intro i h1 h2
    simp only [List.getElem_set, List.getElem_map, List.getElem_range]
    by_cases c : q = i
    · simp [c]
    · simp [c, Ne.symm c]
theorem map_congr (n : Nat) (g g' : Nat → Bool) (h : ∀ i, i < n → g i = g' i) : (List.range n).map g = (List.range n).map g' := List.map_congr_left fun i hi => h i (List.mem_range.1 hi)
theorem map_false (n : Nat) : (List.range n).map (fun _ : Nat => false) = List.replicate n false := by
  apply List.ext_getElem
  · simp
  · intro i h1 h2; simp
def cellQ (a : Int) (l : List Int) (f : List S52) (h : Nat → Bool) (st : Int) (p q : Nat) : Bool := h p && ((q : Int) == (p : Int) || adjB a (p : Int) (q : Int)) && okV a l f (q : Int) (st + 1)
def GQ (a : Int) (l : List Int) (f : List S52) (h : Nat → Bool) (st : Int) (p q i : Nat) : Bool := ((List.range p).any fun p' => cellQ a l f h st p' i) || (decide (i < q) && cellQ a l f h st p i)
theorem GQ_next (a : Int) (l : List Int) (f : List S52) (h : Nat → Bool) (st : Int) (p i n : Nat) (hi : i < n) : GQ a l f h st p n i = GQ a l f h st (p + 1) 0 i := by
  simp [GQ, List.range_succ, hi]
theorem GQ_set (a : Int) (l : List Int) (f : List S52) (h : Nat → Bool) (st : Int) (p q n : Nat) (hc : cellQ a l f h st p q = true) : ((List.range n).map (GQ a l f h st p q)).set q true = (List.range n).map (GQ a l f h st p (q + 1)) := by
  rw [set_map]
  refine map_congr _ _ _ fun i _ => ?_
  by_cases e : i = q
  · subst e; simp [GQ, hc]
  · rw [if_neg e]
    have : decide (i < q) = decide (i < q + 1) := by rw [Bool.eq_iff_iff, decide_eq_true_iff, decide_eq_true_iff]; omega
    simp only [GQ, this]
theorem GQ_same (a : Int) (l : List Int) (f : List S52) (h : Nat → Bool) (st : Int) (p q n : Nat) (hc : cellQ a l f h st p q = false) : (List.range n).map (GQ a l f h st p q) = (List.range n).map (GQ a l f h st p (q + 1)) := by
  refine map_congr _ _ _ fun i _ => ?_
  by_cases e : i = q
  · subst e; simp [GQ, hc]
  · have : decide (i < q) = decide (i < q + 1) := by rw [Bool.eq_iff_iff, decide_eq_true_iff, decide_eq_true_iff]; omega
    simp only [GQ, this]
theorem l2_ok (a b : Int) (l : List Int) (f : List S52) (t most : Int) (hsea : seaB a b l f = true) (hf : f.length ≤ 1048576) (h : Nat → Bool) (st : Int) (hst : 0 ≤ st ∧ st ≤ 200) (p : Nat) (hp : p < l.length) (hh : h p = true) (v : Int × Bool)
    (hv : Ev (fun k => spec_Quickest.l1 k t most ((List.range l.length).map h) st ((List.range l.length).map (GQ a l f h st (p + 1) 0)) ((p : Int) + 1) a b l f) v) :
    ∀ q : Nat, q ≤ l.length → Ev (fun k => spec_Quickest.l2 k t most ((List.range l.length).map h) st ((List.range l.length).map (GQ a l f h st p q)) (p : Int) (q : Int) a b l f) v := by
  obtain ⟨ha1, ha2, hb1, hb2, hlab, hab, hab1, _, hc⟩ := seaB_t hsea
  have hN : l.length ≤ 144 := by omega
  refine down ?_ ?_
  · refine Ev.step (fun _ => rfl) ?_
    simp only [spec_Quickest.l2, List.length_map, List.length_range]
    refine ev_f (by omega) (Ev.step (fun _ => rfl) ?_)
    simp only [spec_Quickest.j5]
    rw [wr (x := (p : Int) + 1) (by omega)]
    refine ev_f (by simp) ?_
    rw [map_congr _ _ _ fun i hi => GQ_next a l f h st p i l.length hi]
    exact hv
  · intro q hq ih
    refine Ev.step (fun _ => rfl) ?_
    simp only [spec_Quickest.l2, List.length_map, List.length_range]
    rw [rdOf_map _ _ _ hp, hh]
    refine ev_t (by omega) (ev_t (by omega) (ev_t (by omega) (Ev.step (fun _ => rfl) ?_)))
    simp only [spec_Quickest.j5, List.length_map, List.length_range, Int.toNat_natCast]
    rw [wr (x := (q : Int) + 1) (by omega), wr (x := st + 1) (by omega)]
    refine ev_t (by first | rfl | trivial) ?_
    have ih' : Ev (fun k => spec_Quickest.l2 k t most ((List.range l.length).map h) st ((List.range l.length).map (GQ a l f h st p (q + 1))) (p : Int) ((q : Int) + 1) a b l f) v := ih
    have hsh := (shut_ev a b l f q (st + 1) ha1 hf).1
    have hno : cellQ a l f h st p q = false → Ev (fun k => spec_Quickest.l2 k t most ((List.range l.length).map h) st ((List.range l.length).map (GQ a l f h st p q)) (p : Int) ((q : Int) + 1) a b l f) v := fun hc => by rw [GQ_same a l f h st p q _ hc]; exact ih'
    have hyes : cellQ a l f h st p q = true → Ev (fun k => spec_Quickest.l2 k t most ((List.range l.length).map h) st (((List.range l.length).map (GQ a l f h st p q)).set q true) (p : Int) ((q : Int) + 1) a b l f) v := fun hc => by rw [GQ_set a l f h st p q _ hc]; exact ih'
    by_cases e : (q : Int) = (p : Int)
    · refine ev_t e (ev_t (by omega) (ev_t (by omega) ?_))
      by_cases c : rd l (q : Int) > 0
      · refine ev_t c (Ev.bind hsh ?_)
        cases hs : shutV a f (q : Int) (st + 1) with
        | true => exact ev_t rfl (hno (by simp [cellQ, okV, hs]))
        | false => exact ev_f (by simp) (ev_t (by omega) (hyes (by have e2 : ((q : Int) == (p : Int)) = true := beq_iff_eq.2 e; have c2 : decide (rd l (q : Int) > 0) = true := decide_eq_true c; simp only [cellQ, okV, hs, c2, hh, e2]; rfl)))
      · exact ev_f c (hno (by simp [cellQ, okV, c]))
    · refine ev_f e ?_
      rw [next1 a b l f (p : Int) (q : Int) ha1 ha2 hb2 (by omega) (by omega) (by omega) (by omega)]
      simp only [Option.bind_some]
      cases hadj : adjB a (p : Int) (q : Int) with
      | true =>
        refine ev_t rfl (ev_t (by omega) (ev_t (by omega) ?_))
        by_cases c : rd l (q : Int) > 0
        · refine ev_t c (Ev.bind hsh ?_)
          cases hs : shutV a f (q : Int) (st + 1) with
          | true => exact ev_t rfl (hno (by simp [cellQ, okV, hs]))
          | false => exact ev_f (by simp) (ev_t (by omega) (hyes (by simp [cellQ, okV, hs, c, hh, hadj])))
        · exact ev_f c (hno (by simp [cellQ, okV, c]))
      | false =>
        refine ev_f (by simp) (hno ?_)
        have e2 : ((q : Int) == (p : Int)) = false := beq_eq_false_iff_ne.2 e
        simp only [cellQ, hadj, e2]; simp
theorem l1_ok (a b : Int) (l : List Int) (f : List S52) (t most : Int) (hsea : seaB a b l f = true) (hf : f.length ≤ 1048576) (h : Nat → Bool) (st : Int) (hst : 0 ≤ st ∧ st ≤ 200) (v : Int × Bool)
    (hv : Ev (fun k => spec_Quickest.l0 k t most ((List.range l.length).map (GQ a l f h st l.length 0)) (st + 1) a b l f) v) :
    ∀ p : Nat, p ≤ l.length → Ev (fun k => spec_Quickest.l1 k t most ((List.range l.length).map h) st ((List.range l.length).map (GQ a l f h st p 0)) (p : Int) a b l f) v := by
  obtain ⟨ha1, ha2, hb1, hb2, hlab, hab, hab1, _, hc⟩ := seaB_t hsea
  refine down ?_ ?_
  · refine Ev.step (fun _ => rfl) ?_
    simp only [spec_Quickest.l1, List.length_map, List.length_range]
    rw [wr (x := st + 1) (by omega)]
    exact ev_f (by omega) hv
  · intro p hp ih
    refine Ev.step (fun _ => rfl) ?_
    simp only [spec_Quickest.l1, List.length_map, List.length_range]
    refine ev_t (by omega) ?_
    have ih' : Ev (fun k => spec_Quickest.l1 k t most ((List.range l.length).map h) st ((List.range l.length).map (GQ a l f h st (p + 1) 0)) ((p : Int) + 1) a b l f) v := ih
    cases hh : h p with
    | true => exact l2_ok a b l f t most hsea hf h st hst p hp hh v ih' 0 (Nat.zero_le _)
    | false =>
      refine Ev.step (fun _ => rfl) ?_
      simp only [spec_Quickest.l2, List.length_map, List.length_range]
      rw [rdOf_map _ _ _ hp, hh]
      refine ev_t (by omega) (ev_t (by omega) (ev_t (by omega) (Ev.step (fun _ => rfl) ?_)))
      simp only [spec_Quickest.j5]
      rw [wr (x := (p : Int) + 1) (by omega)]
      refine ev_f (by simp) ?_
      rw [map_congr l.length (GQ a l f h st p 0) (GQ a l f h st (p + 1) 0) fun i hi => by simp [GQ, List.range_succ, cellQ, hh]]
      exact ih'
theorem l0_ok (a b : Int) (l : List Int) (f : List S52) (s t most : Int) (hsea : seaB a b l f = true) (hf : f.length ≤ 1048576) (ht : 0 ≤ t ∧ t < (l.length : Int)) (hm : most ≤ 200) : ∀ (d n : Nat), (n : Int) + d = most →
    Ev (fun k => spec_Quickest.l0 k t most ((List.range l.length).map fun i : Nat => Rch a l f s n (i : Int)) (n : Int) a b l f) (resV (fun st => Rch a l f s st t) n d) := by
  obtain ⟨ha1, ha2, hb1, hb2, hlab, hab, hab1, _, hc⟩ := seaB_t hsea
  obtain ⟨j, rfl⟩ : ∃ j : Nat, t = (j : Int) := ⟨t.toNat, by omega⟩
  have one : ∀ n : Nat, (n : Int) ≤ most → ∀ v, (Rch a l f s n (j : Int) = true → v = ((n : Int), true)) → (Rch a l f s n (j : Int) = false → Ev (fun k => spec_Quickest.l0 k (j : Int) most ((List.range l.length).map fun i : Nat => Rch a l f s (n + 1) (i : Int)) ((n : Int) + 1) a b l f) v) → Ev (fun k => spec_Quickest.l0 k (j : Int) most ((List.range l.length).map fun i : Nat => Rch a l f s n (i : Int)) (n : Int) a b l f) v := by
    intro n hn v h1 h2
    refine Ev.step (fun _ => rfl) ?_
    simp only [spec_Quickest.l0, List.length_map, List.length_range, Int.toNat_natCast]
    rw [rdOf_map _ _ _ (by omega)]
    refine ev_t hn (ev_t (by omega) (ev_t (by omega) ?_))
    cases c : Rch a l f s n (j : Int) with
    | true => rw [h1 c]; exact ev_t rfl (Ev.now _)
    | false =>
      refine ev_f (by simp) (ev_t (by omega) (ev_t (by omega) ?_))
      have h3 := l1_ok a b l f (j : Int) most hsea hf (fun i : Nat => Rch a l f s n (i : Int)) (n : Int) (by omega) v (by
        refine (?_ : (fun k => spec_Quickest.l0 k (j : Int) most ((List.range l.length).map (GQ a l f (fun i : Nat => Rch a l f s n (i : Int)) (n : Int) l.length 0)) ((n : Int) + 1) a b l f) = (fun k => spec_Quickest.l0 k (j : Int) most ((List.range l.length).map fun i : Nat => Rch a l f s (n + 1) (i : Int)) ((n : Int) + 1) a b l f)) ▸ h2 c
        rw [map_congr l.length (GQ a l f (fun i : Nat => Rch a l f s n (i : Int)) (n : Int) l.length 0) (fun i : Nat => Rch a l f s (n + 1) (i : Int)) fun i hi => by simp [GQ, Rch, cellQ]]) 0 (Nat.zero_le _)
      rw [map_congr l.length (GQ a l f (fun i : Nat => Rch a l f s n (i : Int)) (n : Int) 0 0) (fun _ : Nat => false) fun i hi => by simp [GQ]] at h3
      rw [map_false] at h3
      exact h3
  intro d
  induction d with
  | zero =>
    intro n hn
    refine one n (by omega) _ (fun c => by simp [resV, c]) (fun c => ?_)
    simp only [resV, c]
    refine Ev.step (fun _ => rfl) ?_
    simp only [spec_Quickest.l0]
    exact ev_f (by omega) (Ev.now _)
  | succ d ih =>
    intro n hn
    refine one n (by omega) _ (fun c => by simp [resV, c]) (fun c => ?_)
    have h := ih (n + 1) (by omega)
    simp only [resV, c]
    exact h

end Go.Proofs.Ythbmpegaogfibaa.Pu
