/- What Go's functions that the laws reach come to: laid by a program of this session over the print's words. -/
import Derived.Test.YthbmpegaogfibaaPEx0
import Derived.Test.YthbmpegaogfibaaPEx5
import Derived.Test.YthbmpegaogfibaaPEx7
import Derived.Test.YthbmpegaogfibaaPEx8
import Derived.Test.YthbmpegaogfibaaPEx9
namespace Go.Proofs.Ythbmpegaogfibaa.PE
open Go.RowKit Go.Proofs.YthbmpegaogfibaaW.PrintWords Go.Proofs.YthbmpegaogfibaaW.PrintLast Go.Proofs.YthbmpegaogfibaaW.PrintMore
attribute [local go_sem] max2_int min2_int max_two min_two max_three min_three max_four min_four   -- for this text's walks alone
set_option linter.unusedVariables false
set_option linter.unusedSimpArgs false

/-! ### impl_Quickest: function 7 -/
def impl_Quickest.adds (may : Int → Option Bool) : List Int → List Int → Option (List Int)
  | [], acc => some acc
  | q :: qs, acc => (may q).bind fun t => impl_Quickest.adds may qs (if t = true then q :: acc else acc)
def impl_Quickest.round (nx : Int → Option (List Int)) (may : Int → Option Bool) : List Int → List Int → Option (List Int)
  | [], acc => some acc
  | p :: A, acc => (nx p).bind fun qs => (impl_Quickest.adds may (qs ++ [p]) acc).bind fun acc => impl_Quickest.round nx may A acc
theorem impl_Quickest.adds_spec (may : Int → Option Bool) : ∀ qs acc r, impl_Quickest.adds may qs acc = some r → (∀ q ∈ qs, ∃ t, may q = some t) ∧ ∀ x, x ∈ r ↔ x ∈ acc ∨ (x ∈ qs ∧ may x = some true)
  | [], acc, r, h => by
    simp only [impl_Quickest.adds, Option.some.injEq] at h
    subst h
    simp
  | q :: qs, acc, r, h => by
    rw [impl_Quickest.adds] at h
    obtain ⟨t, ht, h⟩ := Option.bind_eq_some_iff.1 h
    obtain ⟨h1, h2⟩ := impl_Quickest.adds_spec may qs _ r h
    refine ⟨fun z hz => ?_, fun x => ?_⟩
    · rcases List.mem_cons.1 hz with rfl | hz
      · exact ⟨t, ht⟩
      · exact h1 z hz
    · rw [h2 x]
      cases t with
      | true =>
        simp only [if_true, List.mem_cons]
        constructor
        · rintro ((rfl | h3) | h3)
          · exact .inr ⟨.inl rfl, ht⟩
          · exact .inl h3
          · exact .inr ⟨.inr h3.1, h3.2⟩
        · rintro (h3 | ⟨rfl | h3, h4⟩)
          · exact .inl (.inr h3)
          · exact .inl (.inl rfl)
          · exact .inr ⟨h3, h4⟩
      | false =>
        simp only [Bool.false_eq_true, if_false, List.mem_cons]
        constructor
        · rintro (h3 | h3)
          · exact .inl h3
          · exact .inr ⟨.inr h3.1, h3.2⟩
        · rintro (h3 | ⟨rfl | h3, h4⟩)
          · exact .inl h3
          · rw [ht] at h4; cases h4
          · exact .inr ⟨h3, h4⟩
theorem impl_Quickest.round_spec (nx : Int → Option (List Int)) (may : Int → Option Bool) : ∀ A acc r, impl_Quickest.round nx may A acc = some r → (∀ p ∈ A, ∃ qs, nx p = some qs ∧ ∀ q ∈ qs ++ [p], ∃ t, may q = some t) ∧ ∀ x, x ∈ r ↔ x ∈ acc ∨ ∃ p ∈ A, ∃ qs, nx p = some qs ∧ x ∈ qs ++ [p] ∧ may x = some true
  | [], acc, r, h => by
    simp only [impl_Quickest.round, Option.some.injEq] at h
    subst h
    simp
  | p :: A, acc, r, h => by
    rw [impl_Quickest.round] at h
    obtain ⟨qs, hq, h⟩ := Option.bind_eq_some_iff.1 h
    obtain ⟨ac, ha, h⟩ := Option.bind_eq_some_iff.1 h
    obtain ⟨a1, a2⟩ := impl_Quickest.adds_spec may _ _ _ ha
    obtain ⟨h1, h2⟩ := impl_Quickest.round_spec nx may A _ r h
    refine ⟨fun z hz => ?_, fun x => ?_⟩
    · rcases List.mem_cons.1 hz with rfl | hz
      · exact ⟨qs, hq, a1⟩
      · exact h1 z hz
    · rw [h2 x, a2 x]
      constructor
      · rintro ((h3 | h3) | ⟨z, hz, h3⟩)
        · exact .inl h3
        · exact .inr ⟨p, by simp, qs, hq, h3⟩
        · exact .inr ⟨z, by simp [hz], h3⟩
      · rintro (h3 | ⟨z, hz, qs', hq', h3⟩)
        · exact .inl (.inl h3)
        · rcases List.mem_cons.1 hz with rfl | hz
          · rw [hq] at hq'; cases hq'
            exact .inl (.inr h3)
          · exact .inr ⟨z, hz, qs', hq', h3⟩
theorem impl_Quickest.adds_def (may : Int → Option Bool) : ∀ qs acc, (∀ q ∈ qs, ∃ t, may q = some t) → ∃ r, impl_Quickest.adds may qs acc = some r
  | [], acc, _ => ⟨acc, rfl⟩
  | q :: qs, acc, h => by
    obtain ⟨t, ht⟩ := h q (by simp)
    unfold impl_Quickest.adds
    rw [ht]
    exact impl_Quickest.adds_def may qs _ fun z hz => h z (by simp [hz])
theorem impl_Quickest.adds_mono (may may' : Int → Option Bool) (hm : ∀ q, LeO (may q) (may' q)) : ∀ qs acc, LeO (impl_Quickest.adds may qs acc) (impl_Quickest.adds may' qs acc)
  | [], acc => LeO.refl _
  | q :: qs, acc => LeO.bind (hm q) fun t => impl_Quickest.adds_mono may may' hm qs _
theorem impl_Quickest.round_mono (nx nx' : Int → Option (List Int)) (may may' : Int → Option Bool) (hn : ∀ q, LeO (nx q) (nx' q)) (hm : ∀ q, LeO (may q) (may' q)) : ∀ A acc, LeO (impl_Quickest.round nx may A acc) (impl_Quickest.round nx' may' A acc)
  | [], acc => LeO.refl _
  | p :: A, acc => LeO.bind (hn p) fun qs => LeO.bind (impl_Quickest.adds_mono may may' hm _ _) fun a => impl_Quickest.round_mono nx nx' may may' hn hm A a
def impl_Quickest.may (k : Nat) (a0 a1 : Int) (costs : List Int) (shut : List S52) (p step : Int) : Option Bool := if 0 ≤ p ∧ p < (costs.length : Int) then (if rd costs p > 0 then (impl_Sea_shut.f k a0 a1 costs shut p step).bind fun t => some (!t) else some false) else none
theorem impl_Quickest.may_in {k : Nat} {a0 a1 : Int} {costs : List Int} {shut : List S52} {p step : Int} {t : Bool} (h : impl_Quickest.may k a0 a1 costs shut p step = some t) : 0 ≤ p ∧ p < (costs.length : Int) := by
  unfold impl_Quickest.may at h
  by_cases hp : 0 ≤ p ∧ p < (costs.length : Int)
  · exact hp
  · rw [if_neg hp] at h; cases h
theorem impl_Quickest.may_mono (k : Nat) (a0 a1 : Int) (costs : List Int) (shut : List S52) (p step : Int) : LeO (impl_Quickest.may k a0 a1 costs shut p step) (impl_Quickest.may (k + 1) a0 a1 costs shut p step) := by
  unfold impl_Quickest.may
  exact LeO.ite (LeO.ite (LeO.bind (impl_Sea_shut.mono _ _ _ _ _ _ _) fun _ => LeO.refl _) (LeO.refl _)) (LeO.refl _)
def impl_Quickest.nx (k : Nat) (a0 a1 : Int) (costs : List Int) (shut : List S52) (p : Int) : Option (List Int) := (impl_Sea_next.f k a0 a1 costs shut p).bind fun qs => if qs.length ≤ 1000000 then some qs else none
theorem impl_Quickest.nx_of {k : Nat} {a0 a1 : Int} {costs : List Int} {shut : List S52} {p : Int} {qs : List Int} (h : impl_Quickest.nx k a0 a1 costs shut p = some qs) : impl_Sea_next.f k a0 a1 costs shut p = some qs ∧ qs.length ≤ 1000000 := by
  unfold impl_Quickest.nx at h
  obtain ⟨q, hq, h⟩ := Option.bind_eq_some_iff.1 h
  by_cases hl : q.length ≤ 1000000
  · rw [if_pos hl] at h
    obtain rfl := Option.some.inj h
    exact ⟨hq, hl⟩
  · rw [if_neg hl] at h; cases h
theorem impl_Quickest.nx_mono (k : Nat) (a0 a1 : Int) (costs : List Int) (shut : List S52) (p : Int) : LeO (impl_Quickest.nx k a0 a1 costs shut p) (impl_Quickest.nx (k + 1) a0 a1 costs shut p) := LeO.bind (impl_Sea_next.mono _ _ _ _ _ _) fun _ => LeO.refl _
def impl_Quickest.loop (k : Nat) (a0 a1 : Int) (costs : List Int) (shut : List S52) (to_ most : Int) : Nat → Int → List Int → Option (Int × Bool)
  | 0, _, _ => none
  | m + 1, step, A => if A.contains to_ = true then some (step, true) else if step = most then some (-1, false) else (impl_Quickest.round (impl_Quickest.nx k a0 a1 costs shut) (fun q => impl_Quickest.may k a0 a1 costs shut q (wrap64 (step + 1))) A []).bind fun B => impl_Quickest.loop k a0 a1 costs shut to_ most m (wrap64 (step + 1)) B
theorem impl_Quickest.loop_mono (k : Nat) (a0 a1 : Int) (costs : List Int) (shut : List S52) (to_ most : Int) : ∀ m step A, LeO (impl_Quickest.loop k a0 a1 costs shut to_ most m step A) (impl_Quickest.loop (k + 1) a0 a1 costs shut to_ most (m + 1) step A)
  | 0, _, _ => LeO.none _
  | m + 1, step, A => by
    unfold impl_Quickest.loop
    exact LeO.ite (LeO.refl _) (LeO.ite (LeO.refl _) (LeO.bind (impl_Quickest.round_mono _ _ _ _ (fun q => impl_Quickest.nx_mono _ _ _ _ _ _) (fun q => impl_Quickest.may_mono _ _ _ _ _ _ _) _ _) fun B => impl_Quickest.loop_mono k a0 a1 costs shut to_ most m _ B))
def impl_Quickest.f (k : Nat) (a0 a1 : Int) (costs : List Int) (shut : List S52) (from_ to_ most : Int) : Option (Int × Bool) := (impl_SeaOk.f k a0 a1 costs shut).bind fun t => if t = true then ((impl_Sea_place.f a0 a1 costs shut from_).bind fun t => if t = true then ((impl_Sea_place.f a0 a1 costs shut to_).bind fun t => if t = true then ((impl_in.f most 0 200).bind fun t => if t = true then (if costs.length ≤ 1000000 ∧ most ≤ 200 ∧ 0 ≤ to_ ∧ to_ < (costs.length : Int) then (impl_Quickest.may k a0 a1 costs shut from_ 0).bind fun t => impl_Quickest.loop k a0 a1 costs shut to_ most k 0 (if t = true then [from_] else []) else none) else some (-1, false)) else some (-1, false)) else some (-1, false)) else some (-1, false)
theorem impl_Quickest.mono : ∀ a0 a1 a2 a3 a4 a5 a6 k, LeO (impl_Quickest.f k a0 a1 a2 a3 a4 a5 a6) (impl_Quickest.f (k + 1) a0 a1 a2 a3 a4 a5 a6) := by
  intro a0 a1 a2 a3 a4 a5 a6 k
  unfold impl_Quickest.f
  exact LeO.bind (impl_SeaOk.mono _ _ _ _ _) fun _ => LeO.ite (LeO.bind (LeO.refl _) fun _ => LeO.ite (LeO.bind (LeO.refl _) fun _ => LeO.ite (LeO.bind (LeO.refl _) fun _ => LeO.ite (LeO.ite (LeO.bind (impl_Quickest.may_mono _ _ _ _ _ _ _) fun _ => impl_Quickest.loop_mono _ _ _ _ _ _ _ _ _ _) (LeO.refl _)) (LeO.refl _)) (LeO.refl _)) (LeO.refl _)) (LeO.refl _)
/-! ### impl_Quickest_1: function 21, a literal that captures the sea -/
set_option maxHeartbeats 4000000 in
set_option maxRecDepth 100000 in
theorem impl_Quickest_1.lit (k : Nat) (a0 a1 : Int) (A2 : Option Addr) (c2 : Nat) (costs : List Int) (A3 : Option Addr) (c3 : Nat) (shut : List (S52)) (p step : Int) (t : Bool) (B : Nat) (w : World) (hB : w.heap[B]? = some (.cells #[.int .i64 a0, .int .i64 a1, .slice A2 costs.length c2, .slice A3 shut.length c3] 31 (0, 0))) (hr2 : Kd.C (Kd.int .i64) w A2 costs.length costs) (hc2 : costs.length ≤ c2) (hr3 : Kd.C k52 w A3 shut.length shut) (hc3 : shut.length ≤ c3) (h : impl_Quickest.may k a0 a1 costs shut p step = some t) :
    Calls Try.prog 21 #[.int .i64 p, .int .i64 step, .pointer (some ⟨B, 0, none⟩)] w fun e w' => e = .returned (.bool t) ∧ Below w.heap.size w w' := by
  obtain ⟨hp0, hp1⟩ := impl_Quickest.may_in h
  obtain ⟨ad, e_, hx⟩ := Kd.at_int hr2 p hp0 hp1
  subst e_
  have hcon : ∀ (W : World) (t : Bool), Below w.heap.size w W → impl_Sea_shut.f k a0 a1 costs shut p step = some t → Calls Try.prog 22 #[.agg #[.int .i64 a0, .int .i64 a1, .slice (some ad) costs.length c2, .slice A3 shut.length c3], .int .i64 p, .int .i64 step] W fun e w' => e = .returned (.bool t) ∧ Below W.heap.size W w' := fun W t hb ht => impl_Sea_shut.calls k a0 a1 (some ad) c2 costs A3 c3 shut p step t W (Kd.C_below hr2 hb) hc2 (Kd.C_below hr3 hb) hc3 ht
  have HK := Aside0.mk hcon
  have BKB := Aside0.mk hB
  have hu31 := Try.underlying31
  have hu22 := Try.underlying22
  clear hcon hB hr2 hr3 hc2 hc3
  have hczBKB_0 : w.cell? ⟨B, 0, none⟩ = some (.int .i64 a0) := (blk_cell BKB.out 0).trans rfl; have hczBKB_1 : w.cell? ⟨B, 1, none⟩ = some (.int .i64 a1) := (blk_cell BKB.out 1).trans rfl; have hczBKB_2 : w.cell? ⟨B, 2, none⟩ = some (.slice (some ad) costs.length c2) := (blk_cell BKB.out 2).trans rfl; have hczBKB_3 : w.cell? ⟨B, 3, none⟩ = some (.slice A3 shut.length c3) := (blk_cell BKB.out 3).trans rfl; have hfzBKB_0 := blk_frozen BKB.out 0; have hfzBKB_1 := blk_frozen BKB.out 1; have hfzBKB_2 := blk_frozen BKB.out 2; have hfzBKB_3 := blk_frozen BKB.out 3
  have HB := Aside0.mk (Below.refl w.heap.size w)
  unfold impl_Quickest.may at h
  rw [if_pos ⟨hp0, hp1⟩] at h
  by_cases hpos : rd costs p > 0
  · rw [if_pos hpos] at h
    obtain ⟨s, hs, h⟩ := Option.bind_eq_some_iff.1 h
    obtain rfl := Option.some.inj h
    have HS := Aside0.mk hs
    clear hs h
    go_enter Try.func21, Try.ntmps21
    go_wp2_with ((go_at_call 22; refine (HK.out _ _ (by repeat (first | (with_reducible first | exact HB.out | apply below_alloc | apply pw_below_drewN | apply below_drew1) | exact HB.out)) HS.out).mono ?_; rintro e w2 ⟨rfl, hb⟩; have n0_ := Aside0.mk (below_step (by repeat (first | (with_reducible first | exact HB.out | apply below_alloc | apply pw_below_drewN | apply below_drew1) | exact HB.out)) hb); clear HB hb; have HB := n0_; clear n0_))
    go_ret
    exact ⟨by first | rfl | (simp; done) | (simp [*]; done), (by repeat (first | (with_reducible first | exact HB.out | apply below_alloc | apply pw_below_drewN | apply below_drew1) | exact HB.out))⟩
  · rw [if_neg hpos] at h
    obtain rfl := Option.some.inj h
    clear h
    go_enter Try.func21, Try.ntmps21
    go_wp2
    go_ret
    exact ⟨by first | rfl | (simp; done) | (simp [*]; done), (by repeat (first | (with_reducible first | exact HB.out | apply below_alloc | apply pw_below_drewN | apply below_drew1) | exact HB.out))⟩
/-! ### impl_Quickest: the function itself -/
theorem impl_Quickest.contains_iff {l : List Int} {x : Int} : l.contains x = true ↔ x ∈ l := by rw [List.contains_eq_mem, decide_eq_true_iff]
theorem impl_Quickest.rangeO {P : Program} {K E T : TypeId} {ops : Array Oper} {rest : List Oper} {o : Oper} {a : Act} {Q : Exit → Act → World → Prop} {w : World} {b n : Nat} {acc : List Int} (hS : Mp.OnIs P K E w b n acc) (hg : o.guard = none) (m : Operand) (hop : o.op = Op.range T m)
    (hk : P.underlying K = some (.int .i64)) (ht : P.underlying T = some (.map K E)) (hm : a.eval m = .map (some b))
    (h : ∀ r, r = w.heap.size → ∀ w' cnt, Mp.Going P K E w' b r n acc [] cnt → w.grownBy w' none → wpList P ops Q rest (a.put o.dst (.pointer (some ⟨r, 0, none⟩))) w') : wpList P ops Q (o :: rest) a w :=
  Mp.rangeO hS hg m hop hk ht hm fun w' cnt h1 h2 _ => h _ rfl w' cnt h1 h2
set_option maxHeartbeats 8000000 in
set_option maxRecDepth 100000 in
theorem impl_Quickest.calls (k : Nat) (a0 a1 : Int) (A2 : Option Addr) (c2 : Nat) (costs : List Int) (A3 : Option Addr) (c3 : Nat) (shut : List (S52)) (from_ to_ most : Int) (r1 : Int) (r2 : Bool) (w : World) (hr2 : Kd.C (Kd.int .i64) w A2 costs.length costs) (hc2 : costs.length ≤ c2) (hr3 : Kd.C k52 w A3 shut.length shut) (hc3 : shut.length ≤ c3) (h : impl_Quickest.f k a0 a1 costs shut from_ to_ most = some (r1, r2)) :
    Calls Try.prog 7 #[.agg #[.int .i64 a0, .int .i64 a1, .slice A2 costs.length c2, .slice A3 shut.length c3], .int .i64 from_, .int .i64 to_, .int .i64 most] w fun e w' => e = .returned (.tuple #[.int .i64 r1, .bool r2]) ∧ Below w.heap.size w w' := by
  have hu31 := Try.underlying31
  have hu22 := Try.underlying22
  have hmf : ∀ (fn : Fn) (first cap : Array Value) (w : World), (Instr.makeFunc fn first cap).run Try.prog w = .ok (.func fn first cap) w := fun _ _ _ _ => rfl
  have eg : ∀ args w, (callFunc 21 args).run Try.prog w = .ok (.enter 21 args) w := enters_of Try.func21 (by kernel_rfl) rfl
  have HK1 : Aside0 (∀ (W : World) (t : Bool), Below w.heap.size w W → impl_SeaOk.f k a0 a1 costs shut = some t → Calls Try.prog 18 #[.agg #[.int .i64 a0, .int .i64 a1, .slice A2 costs.length c2, .slice A3 shut.length c3]] W fun e w' => e = .returned (.bool t) ∧ Below W.heap.size W w') := ⟨fun W t hb ht => impl_SeaOk.calls k a0 a1 A2 c2 costs A3 c3 shut t W (Kd.C_below hr2 hb) hc2 (Kd.C_below hr3 hb) hc3 ht⟩
  have HK2 : Aside0 (∀ (W : World) (a : Int) (t : Bool), Below w.heap.size w W → impl_Sea_place.f a0 a1 costs shut a = some t → Calls Try.prog 19 #[.agg #[.int .i64 a0, .int .i64 a1, .slice A2 costs.length c2, .slice A3 shut.length c3], .int .i64 a] W fun e w' => e = .returned (.bool t) ∧ Below W.heap.size W w') := ⟨fun W a t hb ht => impl_Sea_place.calls a0 a1 A2 c2 costs A3 c3 shut a t W (Kd.C_below hr2 hb) hc2 (Kd.C_below hr3 hb) hc3 ht⟩
  have HK3 : Aside0 (∀ (W : World) (p : Int) (qs : List Int), Below w.heap.size w W → impl_Quickest.nx k a0 a1 costs shut p = some qs → Calls Try.prog 23 #[.agg #[.int .i64 a0, .int .i64 a1, .slice A2 costs.length c2, .slice A3 shut.length c3], .int .i64 p] W fun e w' => ∃ v0_ : Value, e = .returned (v0_) ∧ Kd.R (Kd.int .i64) 3 w' W.heap.size (fun _ => True) v0_ qs ∧ Below W.heap.size W w') := ⟨fun W p qs hb ht => impl_Sea_next.calls k a0 a1 A2 c2 costs A3 c3 shut p qs W (Kd.C_below hr2 hb) hc2 (Kd.C_below hr3 hb) hc3 (impl_Quickest.nx_of ht).1⟩
  have HKM : Aside0 (∀ (W : World) (gs : Nat) (p step : Int) (t : Bool), Below w.heap.size w W → W.heap[gs]? = some (.cells #[.int .i64 a0, .int .i64 a1, .slice A2 costs.length c2, .slice A3 shut.length c3] 31 (0, 0)) → impl_Quickest.may k a0 a1 costs shut p step = some t → Calls Try.prog 21 #[.int .i64 p, .int .i64 step, .pointer (some ⟨gs, 0, none⟩)] W fun e w' => e = .returned (.bool t) ∧ Below W.heap.size W w') := ⟨fun W gs p step t hb hB ht => impl_Quickest_1.lit k a0 a1 A2 c2 costs A3 c3 shut p step t gs W hB (Kd.C_below hr2 hb) hc2 (Kd.C_below hr3 hb) hc3 ht⟩
  clear hr2 hc2 hr3 hc3
  have HB := Aside0.mk (Below.refl w.heap.size w)
  unfold impl_Quickest.f at h
  obtain ⟨t1, ht1, h⟩ := Option.bind_eq_some_iff.mp h
  have HT1 := Aside0.mk ht1
  clear ht1
  cases t1 with
  | false =>
    rw [if_neg (by decide)] at h
    obtain ⟨rfl, rfl⟩ := Prod.mk.inj (Option.some.inj h)
    clear h
    go_enter Try.func7, Try.ntmps7
    go_wp2_with (first | ((with_reducible refine gate_dst (N := 4) rfl ?_); refine box_event ?hg (N := 4) ?hd (cs := #[.int .i64 a0, .int .i64 a1, .slice A2 costs.length c2, .slice A3 shut.length c3]) (t := 31) ?hr ?_; (case hd => rfl); (case hg => rfl); (case hr => first | (go_simp; done) | (go_simp; rfl)); intro gs hg w2 hbox hb; have GBKS := Aside0.mk (show w.heap.size ≤ gs by rw [hg]; exact below_size (by repeat (first | (with_reducible first | exact HB.out | apply below_alloc | apply pw_below_drewN | apply below_drew1) | exact HB.out))); have BKS := Aside0.mk hbox; have n0_ := Aside0.mk (below_step (by repeat (first | (with_reducible first | exact HB.out | apply below_alloc | apply pw_below_drewN | apply below_drew1) | exact HB.out)) hb); clear HB ; have HB := n0_; clear n0_; clear hb hbox hg; have hcw2BKS_0 : w2.cell? ⟨gs, 0, none⟩ = some (.int .i64 a0) := (blk_cell BKS.out 0).trans rfl; have hcw2BKS_1 : w2.cell? ⟨gs, 1, none⟩ = some (.int .i64 a1) := (blk_cell BKS.out 1).trans rfl; have hcw2BKS_2 : w2.cell? ⟨gs, 2, none⟩ = some (.slice A2 costs.length c2) := (blk_cell BKS.out 2).trans rfl; have hcw2BKS_3 : w2.cell? ⟨gs, 3, none⟩ = some (.slice A3 shut.length c3) := (blk_cell BKS.out 3).trans rfl; have hfw2BKS_0 := blk_frozen BKS.out 0; have hfw2BKS_1 := blk_frozen BKS.out 1; have hfw2BKS_2 := blk_frozen BKS.out 2; have hfw2BKS_3 := blk_frozen BKS.out 3) | (go_at_call 18; refine (HK1.out _ _ (by repeat (first | (with_reducible first | exact HB.out | apply below_alloc | apply pw_below_drewN | apply below_drew1) | exact HB.out)) HT1.out).mono ?_; rintro e w3 ⟨rfl, hb⟩; have n0_ := Aside0.mk (below_step (by repeat (first | (with_reducible first | exact HB.out | apply below_alloc | apply pw_below_drewN | apply below_drew1) | exact HB.out)) hb); have n1_ := Aside0.mk (blk_below (g := gs) (o := .cells #[.int .i64 a0, .int .i64 a1, .slice A2 costs.length c2, .slice A3 shut.length c3] 31 (0, 0)) (by (with_reducible repeat (first | refine blk_drewN ?_ _ | refine blk_drew ?_ | refine blk_alloc ?_ _)); exact BKS.out) hb); clear HB BKS; have HB := n0_; have BKS := n1_; clear n0_ n1_; clear hb; have hcw3BKS_0 : w3.cell? ⟨gs, 0, none⟩ = some (.int .i64 a0) := (blk_cell BKS.out 0).trans rfl; have hcw3BKS_1 : w3.cell? ⟨gs, 1, none⟩ = some (.int .i64 a1) := (blk_cell BKS.out 1).trans rfl; have hcw3BKS_2 : w3.cell? ⟨gs, 2, none⟩ = some (.slice A2 costs.length c2) := (blk_cell BKS.out 2).trans rfl; have hcw3BKS_3 : w3.cell? ⟨gs, 3, none⟩ = some (.slice A3 shut.length c3) := (blk_cell BKS.out 3).trans rfl; have hfw3BKS_0 := blk_frozen BKS.out 0; have hfw3BKS_1 := blk_frozen BKS.out 1; have hfw3BKS_2 := blk_frozen BKS.out 2; have hfw3BKS_3 := blk_frozen BKS.out 3))
    go_ret2
    exact ⟨by first | rfl | (simp; done) | (simp [*]; done), (by repeat (first | (with_reducible first | exact HB.out | apply below_alloc | apply pw_below_drewN | apply below_drew1) | exact HB.out))⟩
  | true =>
  rw [if_pos rfl] at h
  obtain ⟨t2, ht2, h⟩ := Option.bind_eq_some_iff.mp h
  have HT2 := Aside0.mk ht2
  clear ht2
  cases t2 with
  | false =>
    rw [if_neg (by decide)] at h
    obtain ⟨rfl, rfl⟩ := Prod.mk.inj (Option.some.inj h)
    clear h

    go_enter Try.func7, Try.ntmps7
    go_wp2_with (first | ((with_reducible refine gate_dst (N := 4) rfl ?_); refine box_event ?hg (N := 4) ?hd (cs := #[.int .i64 a0, .int .i64 a1, .slice A2 costs.length c2, .slice A3 shut.length c3]) (t := 31) ?hr ?_; (case hd => rfl); (case hg => rfl); (case hr => first | (go_simp; done) | (go_simp; rfl)); intro gs hg w2 hbox hb; have GBKS := Aside0.mk (show w.heap.size ≤ gs by rw [hg]; exact below_size (by repeat (first | (with_reducible first | exact HB.out | apply below_alloc | apply pw_below_drewN | apply below_drew1) | exact HB.out))); have BKS := Aside0.mk hbox; have n0_ := Aside0.mk (below_step (by repeat (first | (with_reducible first | exact HB.out | apply below_alloc | apply pw_below_drewN | apply below_drew1) | exact HB.out)) hb); clear HB ; have HB := n0_; clear n0_; clear hb hbox hg; have hcw2BKS_0 : w2.cell? ⟨gs, 0, none⟩ = some (.int .i64 a0) := (blk_cell BKS.out 0).trans rfl; have hcw2BKS_1 : w2.cell? ⟨gs, 1, none⟩ = some (.int .i64 a1) := (blk_cell BKS.out 1).trans rfl; have hcw2BKS_2 : w2.cell? ⟨gs, 2, none⟩ = some (.slice A2 costs.length c2) := (blk_cell BKS.out 2).trans rfl; have hcw2BKS_3 : w2.cell? ⟨gs, 3, none⟩ = some (.slice A3 shut.length c3) := (blk_cell BKS.out 3).trans rfl; have hfw2BKS_0 := blk_frozen BKS.out 0; have hfw2BKS_1 := blk_frozen BKS.out 1; have hfw2BKS_2 := blk_frozen BKS.out 2; have hfw2BKS_3 := blk_frozen BKS.out 3) | (go_at_call 18; refine (HK1.out _ _ (by repeat (first | (with_reducible first | exact HB.out | apply below_alloc | apply pw_below_drewN | apply below_drew1) | exact HB.out)) HT1.out).mono ?_; rintro e w3 ⟨rfl, hb⟩; have n0_ := Aside0.mk (below_step (by repeat (first | (with_reducible first | exact HB.out | apply below_alloc | apply pw_below_drewN | apply below_drew1) | exact HB.out)) hb); have n1_ := Aside0.mk (blk_below (g := gs) (o := .cells #[.int .i64 a0, .int .i64 a1, .slice A2 costs.length c2, .slice A3 shut.length c3] 31 (0, 0)) (by (with_reducible repeat (first | refine blk_drewN ?_ _ | refine blk_drew ?_ | refine blk_alloc ?_ _)); exact BKS.out) hb); clear HB BKS; have HB := n0_; have BKS := n1_; clear n0_ n1_; clear hb; have hcw3BKS_0 : w3.cell? ⟨gs, 0, none⟩ = some (.int .i64 a0) := (blk_cell BKS.out 0).trans rfl; have hcw3BKS_1 : w3.cell? ⟨gs, 1, none⟩ = some (.int .i64 a1) := (blk_cell BKS.out 1).trans rfl; have hcw3BKS_2 : w3.cell? ⟨gs, 2, none⟩ = some (.slice A2 costs.length c2) := (blk_cell BKS.out 2).trans rfl; have hcw3BKS_3 : w3.cell? ⟨gs, 3, none⟩ = some (.slice A3 shut.length c3) := (blk_cell BKS.out 3).trans rfl; have hfw3BKS_0 := blk_frozen BKS.out 0; have hfw3BKS_1 := blk_frozen BKS.out 1; have hfw3BKS_2 := blk_frozen BKS.out 2; have hfw3BKS_3 := blk_frozen BKS.out 3) | (go_at_call 19; (with_reducible refine (HK2.out _ from_ false (by repeat (first | (with_reducible first | exact HB.out | apply below_alloc | apply pw_below_drewN | apply below_drew1) | exact HB.out)) HT2.out).mono ?_); rintro e w4 ⟨rfl, hb⟩; have n0_ := Aside0.mk (below_step (by repeat (first | (with_reducible first | exact HB.out | apply below_alloc | apply pw_below_drewN | apply below_drew1) | exact HB.out)) hb); have n1_ := Aside0.mk (blk_below (g := gs) (o := .cells #[.int .i64 a0, .int .i64 a1, .slice A2 costs.length c2, .slice A3 shut.length c3] 31 (0, 0)) (by (with_reducible repeat (first | refine blk_drewN ?_ _ | refine blk_drew ?_ | refine blk_alloc ?_ _)); exact BKS.out) hb); clear HB BKS; have HB := n0_; have BKS := n1_; clear n0_ n1_; clear hb; have hcw4BKS_0 : w4.cell? ⟨gs, 0, none⟩ = some (.int .i64 a0) := (blk_cell BKS.out 0).trans rfl; have hcw4BKS_1 : w4.cell? ⟨gs, 1, none⟩ = some (.int .i64 a1) := (blk_cell BKS.out 1).trans rfl; have hcw4BKS_2 : w4.cell? ⟨gs, 2, none⟩ = some (.slice A2 costs.length c2) := (blk_cell BKS.out 2).trans rfl; have hcw4BKS_3 : w4.cell? ⟨gs, 3, none⟩ = some (.slice A3 shut.length c3) := (blk_cell BKS.out 3).trans rfl; have hfw4BKS_0 := blk_frozen BKS.out 0; have hfw4BKS_1 := blk_frozen BKS.out 1; have hfw4BKS_2 := blk_frozen BKS.out 2; have hfw4BKS_3 := blk_frozen BKS.out 3))
    go_ret2
    exact ⟨by first | rfl | (simp; done) | (simp [*]; done), (by repeat (first | (with_reducible first | exact HB.out | apply below_alloc | apply pw_below_drewN | apply below_drew1) | exact HB.out))⟩
  | true =>
  rw [if_pos rfl] at h
  obtain ⟨t3, ht3, h⟩ := Option.bind_eq_some_iff.mp h
  have HT3 := Aside0.mk ht3
  clear ht3
  cases t3 with
  | false =>
    rw [if_neg (by decide)] at h
    obtain ⟨rfl, rfl⟩ := Prod.mk.inj (Option.some.inj h)
    clear h
    go_enter Try.func7, Try.ntmps7
    go_wp2_with (first | ((with_reducible refine gate_dst (N := 4) rfl ?_); refine box_event ?hg (N := 4) ?hd (cs := #[.int .i64 a0, .int .i64 a1, .slice A2 costs.length c2, .slice A3 shut.length c3]) (t := 31) ?hr ?_; (case hd => rfl); (case hg => rfl); (case hr => first | (go_simp; done) | (go_simp; rfl)); intro gs hg w2 hbox hb; have GBKS := Aside0.mk (show w.heap.size ≤ gs by rw [hg]; exact below_size (by repeat (first | (with_reducible first | exact HB.out | apply below_alloc | apply pw_below_drewN | apply below_drew1) | exact HB.out))); have BKS := Aside0.mk hbox; have n0_ := Aside0.mk (below_step (by repeat (first | (with_reducible first | exact HB.out | apply below_alloc | apply pw_below_drewN | apply below_drew1) | exact HB.out)) hb); clear HB ; have HB := n0_; clear n0_; clear hb hbox hg; have hcw2BKS_0 : w2.cell? ⟨gs, 0, none⟩ = some (.int .i64 a0) := (blk_cell BKS.out 0).trans rfl; have hcw2BKS_1 : w2.cell? ⟨gs, 1, none⟩ = some (.int .i64 a1) := (blk_cell BKS.out 1).trans rfl; have hcw2BKS_2 : w2.cell? ⟨gs, 2, none⟩ = some (.slice A2 costs.length c2) := (blk_cell BKS.out 2).trans rfl; have hcw2BKS_3 : w2.cell? ⟨gs, 3, none⟩ = some (.slice A3 shut.length c3) := (blk_cell BKS.out 3).trans rfl; have hfw2BKS_0 := blk_frozen BKS.out 0; have hfw2BKS_1 := blk_frozen BKS.out 1; have hfw2BKS_2 := blk_frozen BKS.out 2; have hfw2BKS_3 := blk_frozen BKS.out 3) | (go_at_call 18; refine (HK1.out _ _ (by repeat (first | (with_reducible first | exact HB.out | apply below_alloc | apply pw_below_drewN | apply below_drew1) | exact HB.out)) HT1.out).mono ?_; rintro e w3 ⟨rfl, hb⟩; have n0_ := Aside0.mk (below_step (by repeat (first | (with_reducible first | exact HB.out | apply below_alloc | apply pw_below_drewN | apply below_drew1) | exact HB.out)) hb); have n1_ := Aside0.mk (blk_below (g := gs) (o := .cells #[.int .i64 a0, .int .i64 a1, .slice A2 costs.length c2, .slice A3 shut.length c3] 31 (0, 0)) (by (with_reducible repeat (first | refine blk_drewN ?_ _ | refine blk_drew ?_ | refine blk_alloc ?_ _)); exact BKS.out) hb); clear HB BKS; have HB := n0_; have BKS := n1_; clear n0_ n1_; clear hb; have hcw3BKS_0 : w3.cell? ⟨gs, 0, none⟩ = some (.int .i64 a0) := (blk_cell BKS.out 0).trans rfl; have hcw3BKS_1 : w3.cell? ⟨gs, 1, none⟩ = some (.int .i64 a1) := (blk_cell BKS.out 1).trans rfl; have hcw3BKS_2 : w3.cell? ⟨gs, 2, none⟩ = some (.slice A2 costs.length c2) := (blk_cell BKS.out 2).trans rfl; have hcw3BKS_3 : w3.cell? ⟨gs, 3, none⟩ = some (.slice A3 shut.length c3) := (blk_cell BKS.out 3).trans rfl; have hfw3BKS_0 := blk_frozen BKS.out 0; have hfw3BKS_1 := blk_frozen BKS.out 1; have hfw3BKS_2 := blk_frozen BKS.out 2; have hfw3BKS_3 := blk_frozen BKS.out 3) | (go_at_call 19; (with_reducible refine (HK2.out _ from_ true (by repeat (first | (with_reducible first | exact HB.out | apply below_alloc | apply pw_below_drewN | apply below_drew1) | exact HB.out)) HT2.out).mono ?_); rintro e w4 ⟨rfl, hb⟩; have n0_ := Aside0.mk (below_step (by repeat (first | (with_reducible first | exact HB.out | apply below_alloc | apply pw_below_drewN | apply below_drew1) | exact HB.out)) hb); have n1_ := Aside0.mk (blk_below (g := gs) (o := .cells #[.int .i64 a0, .int .i64 a1, .slice A2 costs.length c2, .slice A3 shut.length c3] 31 (0, 0)) (by (with_reducible repeat (first | refine blk_drewN ?_ _ | refine blk_drew ?_ | refine blk_alloc ?_ _)); exact BKS.out) hb); clear HB BKS; have HB := n0_; have BKS := n1_; clear n0_ n1_; clear hb; have hcw4BKS_0 : w4.cell? ⟨gs, 0, none⟩ = some (.int .i64 a0) := (blk_cell BKS.out 0).trans rfl; have hcw4BKS_1 : w4.cell? ⟨gs, 1, none⟩ = some (.int .i64 a1) := (blk_cell BKS.out 1).trans rfl; have hcw4BKS_2 : w4.cell? ⟨gs, 2, none⟩ = some (.slice A2 costs.length c2) := (blk_cell BKS.out 2).trans rfl; have hcw4BKS_3 : w4.cell? ⟨gs, 3, none⟩ = some (.slice A3 shut.length c3) := (blk_cell BKS.out 3).trans rfl; have hfw4BKS_0 := blk_frozen BKS.out 0; have hfw4BKS_1 := blk_frozen BKS.out 1; have hfw4BKS_2 := blk_frozen BKS.out 2; have hfw4BKS_3 := blk_frozen BKS.out 3) | (go_at_call 19; (with_reducible refine (HK2.out _ to_ false (by repeat (first | (with_reducible first | exact HB.out | apply below_alloc | apply pw_below_drewN | apply below_drew1) | exact HB.out)) HT3.out).mono ?_); rintro e w4 ⟨rfl, hb⟩; have n0_ := Aside0.mk (below_step (by repeat (first | (with_reducible first | exact HB.out | apply below_alloc | apply pw_below_drewN | apply below_drew1) | exact HB.out)) hb); have n1_ := Aside0.mk (blk_below (g := gs) (o := .cells #[.int .i64 a0, .int .i64 a1, .slice A2 costs.length c2, .slice A3 shut.length c3] 31 (0, 0)) (by (with_reducible repeat (first | refine blk_drewN ?_ _ | refine blk_drew ?_ | refine blk_alloc ?_ _)); exact BKS.out) hb); clear HB BKS; have HB := n0_; have BKS := n1_; clear n0_ n1_; clear hb; have hcw4BKS_0 : w4.cell? ⟨gs, 0, none⟩ = some (.int .i64 a0) := (blk_cell BKS.out 0).trans rfl; have hcw4BKS_1 : w4.cell? ⟨gs, 1, none⟩ = some (.int .i64 a1) := (blk_cell BKS.out 1).trans rfl; have hcw4BKS_2 : w4.cell? ⟨gs, 2, none⟩ = some (.slice A2 costs.length c2) := (blk_cell BKS.out 2).trans rfl; have hcw4BKS_3 : w4.cell? ⟨gs, 3, none⟩ = some (.slice A3 shut.length c3) := (blk_cell BKS.out 3).trans rfl; have hfw4BKS_0 := blk_frozen BKS.out 0; have hfw4BKS_1 := blk_frozen BKS.out 1; have hfw4BKS_2 := blk_frozen BKS.out 2; have hfw4BKS_3 := blk_frozen BKS.out 3))
    go_ret2
    exact ⟨by first | rfl | (simp; done) | (simp [*]; done), (by repeat (first | (with_reducible first | exact HB.out | apply below_alloc | apply pw_below_drewN | apply below_drew1) | exact HB.out))⟩
  | true =>
  rw [if_pos rfl] at h
  obtain ⟨t4, ht4, h⟩ := Option.bind_eq_some_iff.mp h
  have HT4 := Aside0.mk ht4
  clear ht4
  cases t4 with
  | false =>
    rw [if_neg (by decide)] at h
    obtain ⟨rfl, rfl⟩ := Prod.mk.inj (Option.some.inj h)
    clear h
    go_enter Try.func7, Try.ntmps7
    go_wp2_with (first | ((with_reducible refine gate_dst (N := 4) rfl ?_); refine box_event ?hg (N := 4) ?hd (cs := #[.int .i64 a0, .int .i64 a1, .slice A2 costs.length c2, .slice A3 shut.length c3]) (t := 31) ?hr ?_; (case hd => rfl); (case hg => rfl); (case hr => first | (go_simp; done) | (go_simp; rfl)); intro gs hg w2 hbox hb; have GBKS := Aside0.mk (show w.heap.size ≤ gs by rw [hg]; exact below_size (by repeat (first | (with_reducible first | exact HB.out | apply below_alloc | apply pw_below_drewN | apply below_drew1) | exact HB.out))); have BKS := Aside0.mk hbox; have n0_ := Aside0.mk (below_step (by repeat (first | (with_reducible first | exact HB.out | apply below_alloc | apply pw_below_drewN | apply below_drew1) | exact HB.out)) hb); clear HB ; have HB := n0_; clear n0_; clear hb hbox hg; have hcw2BKS_0 : w2.cell? ⟨gs, 0, none⟩ = some (.int .i64 a0) := (blk_cell BKS.out 0).trans rfl; have hcw2BKS_1 : w2.cell? ⟨gs, 1, none⟩ = some (.int .i64 a1) := (blk_cell BKS.out 1).trans rfl; have hcw2BKS_2 : w2.cell? ⟨gs, 2, none⟩ = some (.slice A2 costs.length c2) := (blk_cell BKS.out 2).trans rfl; have hcw2BKS_3 : w2.cell? ⟨gs, 3, none⟩ = some (.slice A3 shut.length c3) := (blk_cell BKS.out 3).trans rfl; have hfw2BKS_0 := blk_frozen BKS.out 0; have hfw2BKS_1 := blk_frozen BKS.out 1; have hfw2BKS_2 := blk_frozen BKS.out 2; have hfw2BKS_3 := blk_frozen BKS.out 3) | (go_at_call 18; refine (HK1.out _ _ (by repeat (first | (with_reducible first | exact HB.out | apply below_alloc | apply pw_below_drewN | apply below_drew1) | exact HB.out)) HT1.out).mono ?_; rintro e w3 ⟨rfl, hb⟩; have n0_ := Aside0.mk (below_step (by repeat (first | (with_reducible first | exact HB.out | apply below_alloc | apply pw_below_drewN | apply below_drew1) | exact HB.out)) hb); have n1_ := Aside0.mk (blk_below (g := gs) (o := .cells #[.int .i64 a0, .int .i64 a1, .slice A2 costs.length c2, .slice A3 shut.length c3] 31 (0, 0)) (by (with_reducible repeat (first | refine blk_drewN ?_ _ | refine blk_drew ?_ | refine blk_alloc ?_ _)); exact BKS.out) hb); clear HB BKS; have HB := n0_; have BKS := n1_; clear n0_ n1_; clear hb; have hcw3BKS_0 : w3.cell? ⟨gs, 0, none⟩ = some (.int .i64 a0) := (blk_cell BKS.out 0).trans rfl; have hcw3BKS_1 : w3.cell? ⟨gs, 1, none⟩ = some (.int .i64 a1) := (blk_cell BKS.out 1).trans rfl; have hcw3BKS_2 : w3.cell? ⟨gs, 2, none⟩ = some (.slice A2 costs.length c2) := (blk_cell BKS.out 2).trans rfl; have hcw3BKS_3 : w3.cell? ⟨gs, 3, none⟩ = some (.slice A3 shut.length c3) := (blk_cell BKS.out 3).trans rfl; have hfw3BKS_0 := blk_frozen BKS.out 0; have hfw3BKS_1 := blk_frozen BKS.out 1; have hfw3BKS_2 := blk_frozen BKS.out 2; have hfw3BKS_3 := blk_frozen BKS.out 3) | (go_at_call 19; (with_reducible refine (HK2.out _ from_ true (by repeat (first | (with_reducible first | exact HB.out | apply below_alloc | apply pw_below_drewN | apply below_drew1) | exact HB.out)) HT2.out).mono ?_); rintro e w4 ⟨rfl, hb⟩; have n0_ := Aside0.mk (below_step (by repeat (first | (with_reducible first | exact HB.out | apply below_alloc | apply pw_below_drewN | apply below_drew1) | exact HB.out)) hb); have n1_ := Aside0.mk (blk_below (g := gs) (o := .cells #[.int .i64 a0, .int .i64 a1, .slice A2 costs.length c2, .slice A3 shut.length c3] 31 (0, 0)) (by (with_reducible repeat (first | refine blk_drewN ?_ _ | refine blk_drew ?_ | refine blk_alloc ?_ _)); exact BKS.out) hb); clear HB BKS; have HB := n0_; have BKS := n1_; clear n0_ n1_; clear hb; have hcw4BKS_0 : w4.cell? ⟨gs, 0, none⟩ = some (.int .i64 a0) := (blk_cell BKS.out 0).trans rfl; have hcw4BKS_1 : w4.cell? ⟨gs, 1, none⟩ = some (.int .i64 a1) := (blk_cell BKS.out 1).trans rfl; have hcw4BKS_2 : w4.cell? ⟨gs, 2, none⟩ = some (.slice A2 costs.length c2) := (blk_cell BKS.out 2).trans rfl; have hcw4BKS_3 : w4.cell? ⟨gs, 3, none⟩ = some (.slice A3 shut.length c3) := (blk_cell BKS.out 3).trans rfl; have hfw4BKS_0 := blk_frozen BKS.out 0; have hfw4BKS_1 := blk_frozen BKS.out 1; have hfw4BKS_2 := blk_frozen BKS.out 2; have hfw4BKS_3 := blk_frozen BKS.out 3) | (go_at_call 19; (with_reducible refine (HK2.out _ to_ true (by repeat (first | (with_reducible first | exact HB.out | apply below_alloc | apply pw_below_drewN | apply below_drew1) | exact HB.out)) HT3.out).mono ?_); rintro e w4 ⟨rfl, hb⟩; have n0_ := Aside0.mk (below_step (by repeat (first | (with_reducible first | exact HB.out | apply below_alloc | apply pw_below_drewN | apply below_drew1) | exact HB.out)) hb); have n1_ := Aside0.mk (blk_below (g := gs) (o := .cells #[.int .i64 a0, .int .i64 a1, .slice A2 costs.length c2, .slice A3 shut.length c3] 31 (0, 0)) (by (with_reducible repeat (first | refine blk_drewN ?_ _ | refine blk_drew ?_ | refine blk_alloc ?_ _)); exact BKS.out) hb); clear HB BKS; have HB := n0_; have BKS := n1_; clear n0_ n1_; clear hb; have hcw4BKS_0 : w4.cell? ⟨gs, 0, none⟩ = some (.int .i64 a0) := (blk_cell BKS.out 0).trans rfl; have hcw4BKS_1 : w4.cell? ⟨gs, 1, none⟩ = some (.int .i64 a1) := (blk_cell BKS.out 1).trans rfl; have hcw4BKS_2 : w4.cell? ⟨gs, 2, none⟩ = some (.slice A2 costs.length c2) := (blk_cell BKS.out 2).trans rfl; have hcw4BKS_3 : w4.cell? ⟨gs, 3, none⟩ = some (.slice A3 shut.length c3) := (blk_cell BKS.out 3).trans rfl; have hfw4BKS_0 := blk_frozen BKS.out 0; have hfw4BKS_1 := blk_frozen BKS.out 1; have hfw4BKS_2 := blk_frozen BKS.out 2; have hfw4BKS_3 := blk_frozen BKS.out 3) | (go_at_call 20; refine (impl_in.calls _ _ _ _ _ HT4.out).mono ?_; rintro e w5 ⟨rfl, ⟨nd5, rfl⟩⟩))
    go_ret2
    exact ⟨by first | rfl | (simp; done) | (simp [*]; done), (by repeat (first | (with_reducible first | exact HB.out | apply below_alloc | apply pw_below_drewN | apply below_drew1) | exact HB.out))⟩
  | true =>
  rw [if_pos rfl] at h
  by_cases hg : costs.length ≤ 1000000 ∧ most ≤ 200 ∧ 0 ≤ to_ ∧ to_ < (costs.length : Int)
  · rw [if_pos hg] at h
    obtain ⟨t5, ht5, h⟩ := Option.bind_eq_some_iff.mp h
    have HT5 := Aside0.mk ht5
    have HN := Aside0.mk hg
    have HF := Aside0.mk (impl_Quickest.may_in ht5)
    have HXF : Aside0 ((Lit.int .i64 from_).wf = true) := ⟨Mp.wf_of (by have := HF.out; have := HN.out.1; omega)⟩
    have HXT : Aside0 ((Lit.int .i64 to_).wf = true) := ⟨Mp.wf_of (by have := HN.out; omega)⟩
    have HV := Aside0.mk h
    clear h ht5 hg
    go_enter Try.func7, Try.ntmps7
    go_upto_if 41 with (first | ((with_reducible refine gate_dst (N := 4) rfl ?_); refine box_event ?hg (N := 4) ?hd (cs := #[.int .i64 a0, .int .i64 a1, .slice A2 costs.length c2, .slice A3 shut.length c3]) (t := 31) ?hr ?_; (case hd => rfl); (case hg => rfl); (case hr => first | (go_simp; done) | (go_simp; rfl)); intro gs hg w2 hbox hb; have GBKS := Aside0.mk (show w.heap.size ≤ gs by rw [hg]; exact below_size (by repeat (first | (with_reducible first | exact HB.out | apply below_alloc | apply pw_below_drewN | apply below_drew1) | exact HB.out))); have BKS := Aside0.mk hbox; have n0_ := Aside0.mk (below_step (by repeat (first | (with_reducible first | exact HB.out | apply below_alloc | apply pw_below_drewN | apply below_drew1) | exact HB.out)) hb); clear HB ; have HB := n0_; clear n0_; clear hb hbox hg; have hcw2BKS_0 : w2.cell? ⟨gs, 0, none⟩ = some (.int .i64 a0) := (blk_cell BKS.out 0).trans rfl; have hcw2BKS_1 : w2.cell? ⟨gs, 1, none⟩ = some (.int .i64 a1) := (blk_cell BKS.out 1).trans rfl; have hcw2BKS_2 : w2.cell? ⟨gs, 2, none⟩ = some (.slice A2 costs.length c2) := (blk_cell BKS.out 2).trans rfl; have hcw2BKS_3 : w2.cell? ⟨gs, 3, none⟩ = some (.slice A3 shut.length c3) := (blk_cell BKS.out 3).trans rfl; have hfw2BKS_0 := blk_frozen BKS.out 0; have hfw2BKS_1 := blk_frozen BKS.out 1; have hfw2BKS_2 := blk_frozen BKS.out 2; have hfw2BKS_3 := blk_frozen BKS.out 3) | (go_at_call 18; refine (HK1.out _ _ (by repeat (first | (with_reducible first | exact HB.out | apply below_alloc | apply pw_below_drewN | apply below_drew1) | exact HB.out)) HT1.out).mono ?_; rintro e w3 ⟨rfl, hb⟩; have n0_ := Aside0.mk (below_step (by repeat (first | (with_reducible first | exact HB.out | apply below_alloc | apply pw_below_drewN | apply below_drew1) | exact HB.out)) hb); have n1_ := Aside0.mk (blk_below (g := gs) (o := .cells #[.int .i64 a0, .int .i64 a1, .slice A2 costs.length c2, .slice A3 shut.length c3] 31 (0, 0)) (by (with_reducible repeat (first | refine blk_drewN ?_ _ | refine blk_drew ?_ | refine blk_alloc ?_ _)); exact BKS.out) hb); clear HB BKS; have HB := n0_; have BKS := n1_; clear n0_ n1_; clear hb; have hcw3BKS_0 : w3.cell? ⟨gs, 0, none⟩ = some (.int .i64 a0) := (blk_cell BKS.out 0).trans rfl; have hcw3BKS_1 : w3.cell? ⟨gs, 1, none⟩ = some (.int .i64 a1) := (blk_cell BKS.out 1).trans rfl; have hcw3BKS_2 : w3.cell? ⟨gs, 2, none⟩ = some (.slice A2 costs.length c2) := (blk_cell BKS.out 2).trans rfl; have hcw3BKS_3 : w3.cell? ⟨gs, 3, none⟩ = some (.slice A3 shut.length c3) := (blk_cell BKS.out 3).trans rfl; have hfw3BKS_0 := blk_frozen BKS.out 0; have hfw3BKS_1 := blk_frozen BKS.out 1; have hfw3BKS_2 := blk_frozen BKS.out 2; have hfw3BKS_3 := blk_frozen BKS.out 3) | (go_at_call 19; (with_reducible refine (HK2.out _ from_ true (by repeat (first | (with_reducible first | exact HB.out | apply below_alloc | apply pw_below_drewN | apply below_drew1) | exact HB.out)) HT2.out).mono ?_); rintro e w4 ⟨rfl, hb⟩; have n0_ := Aside0.mk (below_step (by repeat (first | (with_reducible first | exact HB.out | apply below_alloc | apply pw_below_drewN | apply below_drew1) | exact HB.out)) hb); have n1_ := Aside0.mk (blk_below (g := gs) (o := .cells #[.int .i64 a0, .int .i64 a1, .slice A2 costs.length c2, .slice A3 shut.length c3] 31 (0, 0)) (by (with_reducible repeat (first | refine blk_drewN ?_ _ | refine blk_drew ?_ | refine blk_alloc ?_ _)); exact BKS.out) hb); clear HB BKS; have HB := n0_; have BKS := n1_; clear n0_ n1_; clear hb; have hcw4BKS_0 : w4.cell? ⟨gs, 0, none⟩ = some (.int .i64 a0) := (blk_cell BKS.out 0).trans rfl; have hcw4BKS_1 : w4.cell? ⟨gs, 1, none⟩ = some (.int .i64 a1) := (blk_cell BKS.out 1).trans rfl; have hcw4BKS_2 : w4.cell? ⟨gs, 2, none⟩ = some (.slice A2 costs.length c2) := (blk_cell BKS.out 2).trans rfl; have hcw4BKS_3 : w4.cell? ⟨gs, 3, none⟩ = some (.slice A3 shut.length c3) := (blk_cell BKS.out 3).trans rfl; have hfw4BKS_0 := blk_frozen BKS.out 0; have hfw4BKS_1 := blk_frozen BKS.out 1; have hfw4BKS_2 := blk_frozen BKS.out 2; have hfw4BKS_3 := blk_frozen BKS.out 3) | (go_at_call 19; (with_reducible refine (HK2.out _ to_ true (by repeat (first | (with_reducible first | exact HB.out | apply below_alloc | apply pw_below_drewN | apply below_drew1) | exact HB.out)) HT3.out).mono ?_); rintro e w4 ⟨rfl, hb⟩; have n0_ := Aside0.mk (below_step (by repeat (first | (with_reducible first | exact HB.out | apply below_alloc | apply pw_below_drewN | apply below_drew1) | exact HB.out)) hb); have n1_ := Aside0.mk (blk_below (g := gs) (o := .cells #[.int .i64 a0, .int .i64 a1, .slice A2 costs.length c2, .slice A3 shut.length c3] 31 (0, 0)) (by (with_reducible repeat (first | refine blk_drewN ?_ _ | refine blk_drew ?_ | refine blk_alloc ?_ _)); exact BKS.out) hb); clear HB BKS; have HB := n0_; have BKS := n1_; clear n0_ n1_; clear hb; have hcw4BKS_0 : w4.cell? ⟨gs, 0, none⟩ = some (.int .i64 a0) := (blk_cell BKS.out 0).trans rfl; have hcw4BKS_1 : w4.cell? ⟨gs, 1, none⟩ = some (.int .i64 a1) := (blk_cell BKS.out 1).trans rfl; have hcw4BKS_2 : w4.cell? ⟨gs, 2, none⟩ = some (.slice A2 costs.length c2) := (blk_cell BKS.out 2).trans rfl; have hcw4BKS_3 : w4.cell? ⟨gs, 3, none⟩ = some (.slice A3 shut.length c3) := (blk_cell BKS.out 3).trans rfl; have hfw4BKS_0 := blk_frozen BKS.out 0; have hfw4BKS_1 := blk_frozen BKS.out 1; have hfw4BKS_2 := blk_frozen BKS.out 2; have hfw4BKS_3 := blk_frozen BKS.out 3) | (go_at_call 20; refine (impl_in.calls _ _ _ _ _ HT4.out).mono ?_; rintro e w5 ⟨rfl, ⟨nd5, rfl⟩⟩) | ((with_reducible refine gate_dst (N := 38) rfl ?_); refine Mp.makeO (K := 3) (E := 4) (T := 46) rfl (N := 38) rfl rfl ?_; intro bm hbm w6 hset hb; have Gbm := Aside0.mk (show w.heap.size ≤ bm by rw [hbm]; exact below_size (by repeat (first | (with_reducible first | exact HB.out | apply below_alloc | apply pw_below_drewN | apply below_drew1) | exact HB.out))); have n0_ := Aside0.mk (below_step (by repeat (first | (with_reducible first | exact HB.out | apply below_alloc | apply pw_below_drewN | apply below_drew1) | exact HB.out)) hb); have n1_ := Aside0.mk (blk_below (g := gs) (o := .cells #[.int .i64 a0, .int .i64 a1, .slice A2 costs.length c2, .slice A3 shut.length c3] 31 (0, 0)) (by (with_reducible repeat (first | refine blk_drewN ?_ _ | refine blk_drew ?_ | refine blk_alloc ?_ _)); exact BKS.out) hb); clear HB BKS; have HB := n0_; have BKS := n1_; clear n0_ n1_; have AT := Aside0.mk hset; clear hset hbm hb; have hcw6BKS_0 : w6.cell? ⟨gs, 0, none⟩ = some (.int .i64 a0) := (blk_cell BKS.out 0).trans rfl; have hcw6BKS_1 : w6.cell? ⟨gs, 1, none⟩ = some (.int .i64 a1) := (blk_cell BKS.out 1).trans rfl; have hcw6BKS_2 : w6.cell? ⟨gs, 2, none⟩ = some (.slice A2 costs.length c2) := (blk_cell BKS.out 2).trans rfl; have hcw6BKS_3 : w6.cell? ⟨gs, 3, none⟩ = some (.slice A3 shut.length c3) := (blk_cell BKS.out 3).trans rfl; have hfw6BKS_0 := blk_frozen BKS.out 0; have hfw6BKS_1 := blk_frozen BKS.out 1; have hfw6BKS_2 := blk_frozen BKS.out 2; have hfw6BKS_3 := blk_frozen BKS.out 3) | (go_at_fn 21; refine (HKM.out _ gs _ _ _ (by repeat (first | (with_reducible first | exact HB.out | apply below_alloc | apply pw_below_drewN | apply below_drew1) | exact HB.out)) (by (with_reducible repeat (first | refine blk_drewN ?_ _ | refine blk_drew ?_ | refine blk_alloc ?_ _)); exact BKS.out) HT5.out).mono ?_; rintro e w7 ⟨rfl, hb⟩; have tAT_ := Aside0.mk (AT.out.below hb); clear AT; have AT := tAT_; clear tAT_; have n0_ := Aside0.mk (below_step (by repeat (first | (with_reducible first | exact HB.out | apply below_alloc | apply pw_below_drewN | apply below_drew1) | exact HB.out)) hb); have n1_ := Aside0.mk (blk_below (g := gs) (o := .cells #[.int .i64 a0, .int .i64 a1, .slice A2 costs.length c2, .slice A3 shut.length c3] 31 (0, 0)) (by (with_reducible repeat (first | refine blk_drewN ?_ _ | refine blk_drew ?_ | refine blk_alloc ?_ _)); exact BKS.out) hb); clear HB BKS; have HB := n0_; have BKS := n1_; clear n0_ n1_; clear hb; have hcw7BKS_0 : w7.cell? ⟨gs, 0, none⟩ = some (.int .i64 a0) := (blk_cell BKS.out 0).trans rfl; have hcw7BKS_1 : w7.cell? ⟨gs, 1, none⟩ = some (.int .i64 a1) := (blk_cell BKS.out 1).trans rfl; have hcw7BKS_2 : w7.cell? ⟨gs, 2, none⟩ = some (.slice A2 costs.length c2) := (blk_cell BKS.out 2).trans rfl; have hcw7BKS_3 : w7.cell? ⟨gs, 3, none⟩ = some (.slice A3 shut.length c3) := (blk_cell BKS.out 3).trans rfl; have hfw7BKS_0 := blk_frozen BKS.out 0; have hfw7BKS_1 := blk_frozen BKS.out 1; have hfw7BKS_2 := blk_frozen BKS.out 2; have hfw7BKS_3 := blk_frozen BKS.out 3))
    go_cut [42] (fun v42 wc => ∃ A : List Int, Aside0 (impl_Quickest.loop k a0 a1 costs shut to_ most k 0 A = some (r1, r2)) ∧ Aside0 (∀ x, A.contains x = true → 0 ≤ x ∧ x < (costs.length : Int)) ∧ Aside0 (Mp.OnIs Try.prog 3 4 wc bm costs.length A) ∧ Aside0 (wc.heap[gs]? = some (.cells #[.int .i64 a0, .int .i64 a1, .slice A2 costs.length c2, .slice A3 shut.length c3] 31 (0, 0))) ∧ Aside0 (Below w.heap.size w wc))
    case first =>
      cases t5 with
      | true =>
        go_wp2_with (first | (at_mapUpdate; (try (refine gate_guard (by rfl) ?_; dsimp only)); refine Mp.putO (K := 3) (E := 4) (T := 46) AT.out rfl _ _ _ rfl Try.underlying3 Try.underlying46 Try.underlying4 (by unfold maxLen; have := HN.out; omega) rfl from_ rfl rfl HXF.out ?_; intro w8 hset hgr; have n0_ := Aside0.mk (pw_below_grown (by repeat (first | (with_reducible first | exact HB.out | apply below_alloc | apply pw_below_drewN | apply below_drew1) | exact HB.out)) (some bm) (below_size (by repeat (first | (with_reducible first | exact HB.out | apply below_alloc | apply pw_below_drewN | apply below_drew1) | exact HB.out))) hgr (fun k e => by cases e; exact Gbm.out)); have n1_ := Aside0.mk (blk_grown (g := gs) (o := .cells #[.int .i64 a0, .int .i64 a1, .slice A2 costs.length c2, .slice A3 shut.length c3] 31 (0, 0)) (by (with_reducible repeat (first | refine blk_drewN ?_ _ | refine blk_drew ?_ | refine blk_alloc ?_ _)); exact BKS.out) hgr (AT.out.ne (by (with_reducible repeat (first | refine blk_drewN ?_ _ | refine blk_drew ?_ | refine blk_alloc ?_ _)); exact BKS.out))); have n2_ := Aside0.mk hset; clear HB BKS AT  hset hgr; have HB := n0_; have BKS := n1_; have AT := n2_;  clear n0_ n1_ n2_ ; have hcw8BKS_0 : w8.cell? ⟨gs, 0, none⟩ = some (.int .i64 a0) := (blk_cell BKS.out 0).trans rfl; have hcw8BKS_1 : w8.cell? ⟨gs, 1, none⟩ = some (.int .i64 a1) := (blk_cell BKS.out 1).trans rfl; have hcw8BKS_2 : w8.cell? ⟨gs, 2, none⟩ = some (.slice A2 costs.length c2) := (blk_cell BKS.out 2).trans rfl; have hcw8BKS_3 : w8.cell? ⟨gs, 3, none⟩ = some (.slice A3 shut.length c3) := (blk_cell BKS.out 3).trans rfl; have hfw8BKS_0 := blk_frozen BKS.out 0; have hfw8BKS_1 := blk_frozen BKS.out 1; have hfw8BKS_2 := blk_frozen BKS.out 2; have hfw8BKS_3 := blk_frozen BKS.out 3))
        go_meet
        case rel =>
          have hk : ∀ x, [from_].contains x = true → 0 ≤ x ∧ x < (costs.length : Int) := fun x hx => by
            rw [List.contains_eq_mem, decide_eq_true_iff, List.mem_singleton] at hx
            subst hx; exact HF.out
          exact ⟨[from_], HV, ⟨hk⟩, ⟨AT.out.tight Try.underlying3 hk⟩, BKS, HB⟩
      | false =>
        go_wp2
        go_meet
        case rel =>
          exact ⟨[], HV, ⟨fun x hx => by simp at hx⟩, ⟨AT.out.mono (Nat.zero_le _)⟩, BKS, HB⟩
    case rest =>
      clear HV AT BKS HB HT1 HT2 HT3 HT4 HT5
      obtain ⟨A0, HV, HKE, AT, BKS, HB⟩ := hcut
      go_wp2
      go_loopg [11, 12] k (fun gg v11 v12 wr => ∃ (bm : Nat) (step : Int) (A : List Int) (m : Nat), v11 = .map (some bm) ∧ v12 = .int .i64 step ∧ Aside0 (m ≤ gg) ∧ Aside0 (impl_Quickest.loop k a0 a1 costs shut to_ most m step A = some (r1, r2)) ∧ Aside0 (∀ x, A.contains x = true → 0 ≤ x ∧ x < (costs.length : Int)) ∧ Aside0 (Mp.OnIs Try.prog 3 4 wr bm costs.length A) ∧ Aside0 (w.heap.size ≤ bm) ∧ Aside0 (wr.heap[gs]? = some (.cells #[.int .i64 a0, .int .i64 a1, .slice A2 costs.length c2, .slice A3 shut.length c3] 31 (0, 0))) ∧ Aside0 (Below w.heap.size w wr))
      case atStart => exact ⟨bm, 0, A0, k, rfl, rfl, ⟨Nat.le_refl _⟩, HV, HKE, AT, Gbm, BKS, HB⟩
      case round =>
        clear HV HKE AT BKS HB Gbm
        clear bm
        obtain ⟨bm, step, A, m, rfl, rfl, HM, HV, HKE, AT, Gbm, BKS, HB⟩ := hrel
        cases m with
        | zero => exact absurd HV.out (by simp [impl_Quickest.loop])
        | succ m =>
        have hv := HV.out
        clear HV
        unfold impl_Quickest.loop at hv
        cases hc : A.contains to_ with
        | true =>
          rw [hc, if_pos rfl] at hv
          obtain ⟨rfl, rfl⟩ := Prod.mk.inj (Option.some.inj hv)
          have HC := Aside0.mk hc
          clear hc hv
          go_wp2_with (first | (at_lookup; (try (refine gate_guard (by rfl) ?_; dsimp only)); refine Mp.look (K := 3) (E := 4) (T := 46) AT.out.set rfl _ _ rfl Try.underlying3 Try.underlying46 Try.underlying4 (by kernel_rfl) rfl to_ rfl HXT.out ?_; rw [HC.out]))
          go_ret2
          exact ⟨by first | rfl | (simp; done) | (simp [*]; done), (by repeat (first | (with_reducible first | exact HB.out | apply below_alloc | apply pw_below_drewN | apply below_drew1) | exact HB.out))⟩
        | false =>
          rw [hc, if_neg (by decide)] at hv
          have HC := Aside0.mk hc
          clear hc
          by_cases hs : step = most
          · rw [if_pos hs] at hv
            obtain ⟨rfl, rfl⟩ := Prod.mk.inj (Option.some.inj hv)
            have s0 : (step == most) = true := beq_iff_eq.2 hs
            have s1 : decide (step = most) = true := decide_eq_true hs
            clear hs hv
            go_wp2_with (first | (at_lookup; (try (refine gate_guard (by rfl) ?_; dsimp only)); refine Mp.look (K := 3) (E := 4) (T := 46) AT.out.set rfl _ _ rfl Try.underlying3 Try.underlying46 Try.underlying4 (by kernel_rfl) rfl to_ rfl HXT.out ?_; rw [HC.out]))
            go_ret2
            exact ⟨by first | rfl | (simp; done) | (simp [*]; done), (by repeat (first | (with_reducible first | exact HB.out | apply below_alloc | apply pw_below_drewN | apply below_drew1) | exact HB.out))⟩
          · rw [if_neg hs] at hv
            obtain ⟨NB, hB, hv⟩ := Option.bind_eq_some_iff.1 hv
            have s0 : (step == most) = false := beq_eq_false_iff_ne.2 hs
            have s1 : decide (step = most) = false := decide_eq_false hs
            have HV := Aside0.mk hv
            have HQ := Aside0.mk (impl_Quickest.round_spec _ _ _ _ _ hB)
            clear hs hv hB
            have hcrBKS_0 : wr.cell? ⟨gs, 0, none⟩ = some (.int .i64 a0) := (blk_cell BKS.out 0).trans rfl; have hcrBKS_1 : wr.cell? ⟨gs, 1, none⟩ = some (.int .i64 a1) := (blk_cell BKS.out 1).trans rfl; have hcrBKS_2 : wr.cell? ⟨gs, 2, none⟩ = some (.slice A2 costs.length c2) := (blk_cell BKS.out 2).trans rfl; have hcrBKS_3 : wr.cell? ⟨gs, 3, none⟩ = some (.slice A3 shut.length c3) := (blk_cell BKS.out 3).trans rfl; have hfrBKS_0 := blk_frozen BKS.out 0; have hfrBKS_1 := blk_frozen BKS.out 1; have hfrBKS_2 := blk_frozen BKS.out 2; have hfrBKS_3 := blk_frozen BKS.out 3
            go_wp2_with (first | (at_lookup; (try (refine gate_guard (by rfl) ?_; dsimp only)); refine Mp.look (K := 3) (E := 4) (T := 46) AT.out.set rfl _ _ rfl Try.underlying3 Try.underlying46 Try.underlying4 (by kernel_rfl) rfl to_ rfl HXT.out ?_; rw [HC.out]) | ((with_reducible refine gate_dst (N := 53) rfl ?_); refine Mp.makeO (K := 3) (E := 4) (T := 46) rfl (N := 53) rfl rfl ?_; intro bt hbm w9 hset hb; have HBM := Aside0.mk (show bm ≠ bt by rw [hbm]; exact Nat.ne_of_lt AT.out.lt); have Gbt := Aside0.mk (show w.heap.size ≤ bt by rw [hbm]; exact below_size (by repeat (first | (with_reducible first | exact HB.out | apply below_alloc | apply pw_below_drewN | apply below_drew1) | exact HB.out))); have tAT_ := Aside0.mk (AT.out.below hb); clear AT; have AT := tAT_; clear tAT_; have n0_ := Aside0.mk (below_step (by repeat (first | (with_reducible first | exact HB.out | apply below_alloc | apply pw_below_drewN | apply below_drew1) | exact HB.out)) hb); have n1_ := Aside0.mk (blk_below (g := gs) (o := .cells #[.int .i64 a0, .int .i64 a1, .slice A2 costs.length c2, .slice A3 shut.length c3] 31 (0, 0)) (by (with_reducible repeat (first | refine blk_drewN ?_ _ | refine blk_drew ?_ | refine blk_alloc ?_ _)); exact BKS.out) hb); clear HB BKS; have HB := n0_; have BKS := n1_; clear n0_ n1_; have TH := Aside0.mk hset; clear hset hbm hb; have hcw9BKS_0 : w9.cell? ⟨gs, 0, none⟩ = some (.int .i64 a0) := (blk_cell BKS.out 0).trans rfl; have hcw9BKS_1 : w9.cell? ⟨gs, 1, none⟩ = some (.int .i64 a1) := (blk_cell BKS.out 1).trans rfl; have hcw9BKS_2 : w9.cell? ⟨gs, 2, none⟩ = some (.slice A2 costs.length c2) := (blk_cell BKS.out 2).trans rfl; have hcw9BKS_3 : w9.cell? ⟨gs, 3, none⟩ = some (.slice A3 shut.length c3) := (blk_cell BKS.out 3).trans rfl; have hfw9BKS_0 := blk_frozen BKS.out 0; have hfw9BKS_1 := blk_frozen BKS.out 1; have hfw9BKS_2 := blk_frozen BKS.out 2; have hfw9BKS_3 := blk_frozen BKS.out 3) | (at_range; refine impl_Quickest.rangeO (K := 3) (E := 4) (T := 46) AT.out rfl _ rfl Try.underlying3 Try.underlying46 rfl ?_; intro rr hrr w10 cnt hgo hgr; have n0_ := Aside0.mk (pw_below_grown (by repeat (first | (with_reducible first | exact HB.out | apply below_alloc | apply pw_below_drewN | apply below_drew1) | exact HB.out)) none (below_size (by repeat (first | (with_reducible first | exact HB.out | apply below_alloc | apply pw_below_drewN | apply below_drew1) | exact HB.out))) hgr (fun k e => by cases e)); have n1_ := Aside0.mk (blk_grown (g := gs) (o := .cells #[.int .i64 a0, .int .i64 a1, .slice A2 costs.length c2, .slice A3 shut.length c3] 31 (0, 0)) (by (with_reducible repeat (first | refine blk_drewN ?_ _ | refine blk_drew ?_ | refine blk_alloc ?_ _)); exact BKS.out) hgr (by simp)); have n2_ := Aside0.mk (TH.out.kept hgr (by simp)); have Grr := Aside0.mk (show w.heap.size ≤ rr by rw [hrr]; exact below_size (by repeat (first | (with_reducible first | exact HB.out | apply below_alloc | apply pw_below_drewN | apply below_drew1) | exact HB.out))); have HGR := Aside0.mk (show gs ≠ rr by rw [hrr]; exact Nat.ne_of_lt (blk_lt (by (with_reducible repeat (first | refine blk_drewN ?_ _ | refine blk_drew ?_ | refine blk_alloc ?_ _)); exact BKS.out))); have HBT := Aside0.mk (show bt ≠ rr by rw [hrr]; exact Nat.ne_of_lt TH.out.lt); clear HB BKS TH AT hgr hrr; have HB := n0_; have BKS := n1_; have TH := n2_; clear n0_ n1_ n2_; have GO := Aside0.mk hgo; clear hgo; have hcw10BKS_0 : w10.cell? ⟨gs, 0, none⟩ = some (.int .i64 a0) := (blk_cell BKS.out 0).trans rfl; have hcw10BKS_1 : w10.cell? ⟨gs, 1, none⟩ = some (.int .i64 a1) := (blk_cell BKS.out 1).trans rfl; have hcw10BKS_2 : w10.cell? ⟨gs, 2, none⟩ = some (.slice A2 costs.length c2) := (blk_cell BKS.out 2).trans rfl; have hcw10BKS_3 : w10.cell? ⟨gs, 3, none⟩ = some (.slice A3 shut.length c3) := (blk_cell BKS.out 3).trans rfl; have hfw10BKS_0 := blk_frozen BKS.out 0; have hfw10BKS_1 := blk_frozen BKS.out 1; have hfw10BKS_2 := blk_frozen BKS.out 2; have hfw10BKS_3 := blk_frozen BKS.out 3))
            go_frame
            go_loopg [56] cnt (fun gg _ wr => ∃ (S acc : List Int) (cn : Nat), Aside0 (cn ≤ gg) ∧ Aside0 (Mp.Going Try.prog 3 4 wr bm rr costs.length A S cn) ∧ Aside0 (Mp.OnIs Try.prog 3 4 wr bt costs.length acc) ∧ Aside0 (∀ x ∈ S, A.contains x = true) ∧ Aside0 (∀ x, x ∈ acc ↔ ∃ p ∈ S, ∃ qs, impl_Quickest.nx k a0 a1 costs shut p = some qs ∧ x ∈ qs ++ [p] ∧ impl_Quickest.may k a0 a1 costs shut x (wrap64 (step + 1)) = some true) ∧ Aside0 (wr.heap[gs]? = some (.cells #[.int .i64 a0, .int .i64 a1, .slice A2 costs.length c2, .slice A3 shut.length c3] 31 (0, 0))) ∧ Aside0 (Below w.heap.size w wr))
            case atStart => exact ⟨[], [], cnt, ⟨Nat.le_refl _⟩, GO, ⟨TH.out.mono (Nat.zero_le _)⟩, ⟨fun x hx => by simp at hx⟩, ⟨fun x => by simp⟩, BKS, HB⟩
            case round =>
              clear GO TH BKS HB
              obtain ⟨S, acc, cn, HCN, GO, TH, HSA, HAC, BKS, HB⟩ := hrel
              have hcuBKS_0 : wr.cell? ⟨gs, 0, none⟩ = some (.int .i64 a0) := (blk_cell BKS.out 0).trans rfl; have hcuBKS_1 : wr.cell? ⟨gs, 1, none⟩ = some (.int .i64 a1) := (blk_cell BKS.out 1).trans rfl; have hcuBKS_2 : wr.cell? ⟨gs, 2, none⟩ = some (.slice A2 costs.length c2) := (blk_cell BKS.out 2).trans rfl; have hcuBKS_3 : wr.cell? ⟨gs, 3, none⟩ = some (.slice A3 shut.length c3) := (blk_cell BKS.out 3).trans rfl; have hfuBKS_0 := blk_frozen BKS.out 0; have hfuBKS_1 := blk_frozen BKS.out 1; have hfuBKS_2 := blk_frozen BKS.out 2; have hfuBKS_3 := blk_frozen BKS.out 3
              go_wp2_with (first | (at_next; refine Mp.nextO (K := 3) (E := 4) GO.out rfl _ rfl Try.underlying3 Try.underlying4 rfl ?_ ?_; (intro hdone; have HDN := Aside0.mk hdone; clear hdone); rotate_left; (intro x c w11 cn1 hwx hxA hxS hgo hlt hgr hsz hen; have n0_ := Aside0.mk (pw_below_grown (by repeat (first | (with_reducible first | exact HB.out | apply below_alloc | apply pw_below_drewN | apply below_drew1) | exact HB.out)) (some rr) (below_size (by repeat (first | (with_reducible first | exact HB.out | apply below_alloc | apply pw_below_drewN | apply below_drew1) | exact HB.out))) hgr (fun k e => by cases e; exact Grr.out)); have n1_ := Aside0.mk (blk_grown (g := gs) (o := .cells #[.int .i64 a0, .int .i64 a1, .slice A2 costs.length c2, .slice A3 shut.length c3] 31 (0, 0)) (by (with_reducible repeat (first | refine blk_drewN ?_ _ | refine blk_drew ?_ | refine blk_alloc ?_ _)); exact BKS.out) hgr (fun e => HGR.out (Option.some.inj e))); have n2_ := Aside0.mk (TH.out.kept hgr (fun e => HBT.out (Option.some.inj e))); clear HB BKS TH GO; have HB := n0_; have BKS := n1_; have TH := n2_; clear n0_ n1_ n2_; have GO := Aside0.mk hgo; have hcvBKS_0 : w11.cell? ⟨gs, 0, none⟩ = some (.int .i64 a0) := (blk_cell BKS.out 0).trans rfl; have hcvBKS_1 : w11.cell? ⟨gs, 1, none⟩ = some (.int .i64 a1) := (blk_cell BKS.out 1).trans rfl; have hcvBKS_2 : w11.cell? ⟨gs, 2, none⟩ = some (.slice A2 costs.length c2) := (blk_cell BKS.out 2).trans rfl; have hcvBKS_3 : w11.cell? ⟨gs, 3, none⟩ = some (.slice A3 shut.length c3) := (blk_cell BKS.out 3).trans rfl; have hfvBKS_0 := blk_frozen BKS.out 0; have hfvBKS_1 := blk_frozen BKS.out 1; have hfvBKS_2 := blk_frozen BKS.out 2; have hfvBKS_3 := blk_frozen BKS.out 3; obtain ⟨qs, hqs, hmq⟩ := HQ.out.1 x (impl_Quickest.contains_iff.1 hxA); obtain ⟨ac1, hac1⟩ := impl_Quickest.adds_def (fun q => impl_Quickest.may k a0 a1 costs shut q (wrap64 (step + 1))) (qs ++ [x]) acc hmq; have hsp := (impl_Quickest.adds_spec _ _ _ _ hac1).2; have HXA := Aside0.mk hxA; have HXS := Aside0.mk hxS; have HQS := Aside0.mk hqs; have HQL := Aside0.mk (impl_Quickest.nx_of hqs).2; have HLT := Aside0.mk hlt; have HSP := Aside0.mk hsp; have HAD := Aside0.mk hac1; clear hxA hxS hwx hqs hmq hac1 hlt hgr hsz hgo hsp); rotate_right))
              · go_roundg m
                case measure => have := HM.out; omega
                case rel =>
                  have hsame : ∀ x, NB.contains x = acc.contains x := fun x => by
                    rw [Bool.eq_iff_iff, impl_Quickest.contains_iff, impl_Quickest.contains_iff, HQ.out.2 x, HAC.out x]
                    constructor
                    · rintro (h | ⟨p, hp, h⟩)
                      · simp at h
                      · exact ⟨p, impl_Quickest.contains_iff.1 (HDN.out p (impl_Quickest.contains_iff.2 hp)), h⟩
                    · rintro ⟨p, hp, h⟩
                      exact .inr ⟨p, impl_Quickest.contains_iff.1 (HSA.out p hp), h⟩
                  exact ⟨bt, wrap64 (step + 1), NB, m, rfl, rfl, ⟨Nat.le_refl _⟩, HV, ⟨fun x hx => by
                    have h1 := (HAC.out x).1 (impl_Quickest.contains_iff.1 (by rw [← hsame x]; exact hx))
                    obtain ⟨p, _, qs, _, _, h2⟩ := h1
                    exact impl_Quickest.may_in h2⟩, ⟨TH.out.same hsame⟩, Gbt, BKS, HB⟩
              · go_wp2_with (first | (go_at_call 23; refine (HK3.out _ x qs (by repeat (first | (with_reducible first | exact HB.out | apply below_alloc | apply pw_below_drewN | apply below_drew1) | exact HB.out)) HQS.out).mono ?_; rintro e w12 ⟨v12, rfl, hr12, hb12⟩; have HQ12 := Aside0.mk hr12; have HBQ := Aside0.mk hb12; clear hr12 hb12) | ((with_reducible refine gate_builtin (b := .append) (xs := #[.tmp 62, .tmp 64]) rfl ?_); at_builtin; refine Kd.R_append (Kd.int .i64) _ rfl (.tmp 62) (.tmp 64) 22 3 (.int .i64 0) 8 rfl Try.underlying22 info3 rfl (by decide) (by omega) v12 qs x [.int .i64 x] (fun _ => True) (fun _ => False) rfl rfl ?aP (fun _ hk => hk.elim) ?aF HQ12.out HBQ.out (below_size HBQ.out) ?aL ?_; (case aP => exact rfl); (case aF => exact (fun _ _ => trivial)); (case aL => have := HQL.out; omega); intro v13 w13 ho hb hg hat; clear hg hat HQ12 HBQ; obtain ⟨l, hl⟩ : ∃ l, l = qs ++ [x] := ⟨_, rfl⟩; rw [← hl] at ho; have HLL := Aside0.mk hl; clear hl; obtain ⟨A13, c13, rfl⟩ := Kd.R_slice ho; have HW := Aside0.mk (below_size (by repeat (first | (with_reducible first | exact HB.out | apply below_alloc | apply pw_below_drewN | apply below_drew1) | exact HB.out))); have tGO_ := Aside0.mk (GO.out.below hb); clear GO; have GO := tGO_; clear tGO_; have tTH_ := Aside0.mk (TH.out.below hb); clear TH; have TH := tTH_; clear tTH_; have n0_ := Aside0.mk (below_step (by repeat (first | (with_reducible first | exact HB.out | apply below_alloc | apply pw_below_drewN | apply below_drew1) | exact HB.out)) hb); have n1_ := Aside0.mk (blk_below (g := gs) (o := .cells #[.int .i64 a0, .int .i64 a1, .slice A2 costs.length c2, .slice A3 shut.length c3] 31 (0, 0)) (by (with_reducible repeat (first | refine blk_drewN ?_ _ | refine blk_drew ?_ | refine blk_alloc ?_ _)); exact BKS.out) hb); clear HB BKS; have HB := n0_; have BKS := n1_; clear n0_ n1_; clear hb; have HROW : Aside0 (Kd.R (Kd.int .i64) 3 w13 w.heap.size (fun k => k ≠ bt) (.slice A13 l.length c13) l) := Aside0.mk (Kd.R_lower (Kd.R_mono (Kd.R_bound ho) (fun k hk => by obtain ⟨_, _, _, q, _, cells, hc⟩ := hk; rintro rfl; exact TH.out.ne hc rfl)) HW.out); clear ho HW; have hcw13BKS_0 : w13.cell? ⟨gs, 0, none⟩ = some (.int .i64 a0) := (blk_cell BKS.out 0).trans rfl; have hcw13BKS_1 : w13.cell? ⟨gs, 1, none⟩ = some (.int .i64 a1) := (blk_cell BKS.out 1).trans rfl; have hcw13BKS_2 : w13.cell? ⟨gs, 2, none⟩ = some (.slice A2 costs.length c2) := (blk_cell BKS.out 2).trans rfl; have hcw13BKS_3 : w13.cell? ⟨gs, 3, none⟩ = some (.slice A3 shut.length c3) := (blk_cell BKS.out 3).trans rfl; have hfw13BKS_0 := blk_frozen BKS.out 0; have hfw13BKS_1 := blk_frozen BKS.out 1; have hfw13BKS_2 := blk_frozen BKS.out 2; have hfw13BKS_3 := blk_frozen BKS.out 3))
                have HK0 : Aside0 (∀ y, acc.contains y = true → 0 ≤ y ∧ y < (costs.length : Int)) := ⟨fun y hy => by
                  obtain ⟨p, _, q, _, _, h2⟩ := (HAC.out y).1 (impl_Quickest.contains_iff.1 hy)
                  exact impl_Quickest.may_in h2⟩
                clear hen
                go_loopg [67] l.length (fun gg v67 wr => ∃ (j : Int) (ac : List Int), v67 = .int .i64 j ∧ Aside0 (0 ≤ j ∧ j ≤ l.length ∧ l.length - j.toNat ≤ gg) ∧ Aside0 (impl_Quickest.adds (fun q => impl_Quickest.may k a0 a1 costs shut q (wrap64 (step + 1))) (l.drop j.toNat) ac = some ac1) ∧ Aside0 (∀ y, ac.contains y = true → 0 ≤ y ∧ y < (costs.length : Int)) ∧ Aside0 (Mp.OnIs Try.prog 3 4 wr bt costs.length ac) ∧ Aside0 (Mp.Going Try.prog 3 4 wr bm rr costs.length A (x :: S) cn1) ∧ Aside0 (Kd.R (Kd.int .i64) 3 wr w.heap.size (fun k => k ≠ bt) (.slice A13 l.length c13) l) ∧ Aside0 (wr.heap[gs]? = some (.cells #[.int .i64 a0, .int .i64 a1, .slice A2 costs.length c2, .slice A3 shut.length c3] 31 (0, 0))) ∧ Aside0 (Below w.heap.size w wr))
                case atStart => exact ⟨0, acc, rfl, ⟨by omega⟩, ⟨by rw [HLL.out]; exact HAD.out⟩, HK0, TH, GO, HROW, BKS, HB⟩
                case round =>
                  clear TH GO HROW BKS HB HAD HK0
                  obtain ⟨j, ac, rfl, HJ, HAD, HKA, TH, GO, HROW, BKS, HB⟩ := hrel
                  have hcxBKS_0 : wr.cell? ⟨gs, 0, none⟩ = some (.int .i64 a0) := (blk_cell BKS.out 0).trans rfl; have hcxBKS_1 : wr.cell? ⟨gs, 1, none⟩ = some (.int .i64 a1) := (blk_cell BKS.out 1).trans rfl; have hcxBKS_2 : wr.cell? ⟨gs, 2, none⟩ = some (.slice A2 costs.length c2) := (blk_cell BKS.out 2).trans rfl; have hcxBKS_3 : wr.cell? ⟨gs, 3, none⟩ = some (.slice A3 shut.length c3) := (blk_cell BKS.out 3).trans rfl; have hfxBKS_0 := blk_frozen BKS.out 0; have hfxBKS_1 := blk_frozen BKS.out 1; have hfxBKS_2 := blk_frozen BKS.out 2; have hfxBKS_3 := blk_frozen BKS.out 3
                  by_cases hjl : j < (l.length : Int)
                  · have hj0 : 0 ≤ j := HJ.out.1
                    obtain ⟨ad2, e2_, hx2⟩ := Kd.at_int (Kd.R_reads' HROW.out).2.2 j hj0 hjl
                    cases e2_
                    have hdr : l.drop j.toNat = rd l j :: l.drop (j.toNat + 1) := by
                      rw [List.drop_eq_getElem_cons (by omega)]
                      congr 1
                      simp [rd, List.getD, show j.toNat < l.length by omega]
                    have hs := HAD.out
                    rw [hdr] at hs
                    clear hdr HAD
                    unfold impl_Quickest.adds at hs
                    obtain ⟨t, ht, hs⟩ := Option.bind_eq_some_iff.1 hs
                    have HT : Aside0 (impl_Quickest.may k a0 a1 costs shut (rd l j) (wrap64 (step + 1)) = some t) := ⟨ht⟩
                    have HIN := Aside0.mk (impl_Quickest.may_in HT.out)
                    have HWF : Aside0 ((Lit.int .i64 (rd l j)).wf = true) := ⟨Mp.wf_of (by have := HIN.out; have := HN.out.1; omega)⟩
                    have hlen : l.length ≤ 1000001 := by rw [HLL.out, List.length_append]; have := HQL.out; simp; omega
                    have hw2 : wrap64 (j + 1) = j + 1 := by unfold wrap64; omega
                    have HW2 := Aside0.mk hw2
                    have HLT2 := Aside0.mk (show j.toNat < l.length ∧ (j + 1).toNat = j.toNat + 1 by omega)
                    clear hw2 hlen ht
                    generalize hqq : rd l j = q at hx2 hs HT HIN HWF
                    clear hqq
                    have d0 : decide (j < (l.length : Int)) = true := decide_eq_true hjl
                    have d1 : decide (0 ≤ j) = true := decide_eq_true hj0
                    replace hjl := eq_true hjl
                    replace hj0 := eq_true hj0
                    cases t with
                    | true =>
                      rw [if_pos rfl] at hs
                      have HS3 := Aside0.mk hs
                      clear hs
                      go_wp2_with (first | (go_at_fn 21; refine (HKM.out _ gs _ _ _ (by repeat (first | (with_reducible first | exact HB.out | apply below_alloc | apply pw_below_drewN | apply below_drew1) | exact HB.out)) (by (with_reducible repeat (first | refine blk_drewN ?_ _ | refine blk_drew ?_ | refine blk_alloc ?_ _)); exact BKS.out) HT.out).mono ?_; rintro e w14 ⟨rfl, hb⟩; have tGO_ := Aside0.mk (GO.out.below hb); clear GO; have GO := tGO_; clear tGO_; have tTH_ := Aside0.mk (TH.out.below hb); clear TH; have TH := tTH_; clear tTH_; have tr_ := Aside0.mk (Kd.R_below HROW.out hb); clear HROW; have HROW := tr_; clear tr_; have n0_ := Aside0.mk (below_step (by repeat (first | (with_reducible first | exact HB.out | apply below_alloc | apply pw_below_drewN | apply below_drew1) | exact HB.out)) hb); have n1_ := Aside0.mk (blk_below (g := gs) (o := .cells #[.int .i64 a0, .int .i64 a1, .slice A2 costs.length c2, .slice A3 shut.length c3] 31 (0, 0)) (by (with_reducible repeat (first | refine blk_drewN ?_ _ | refine blk_drew ?_ | refine blk_alloc ?_ _)); exact BKS.out) hb); clear HB BKS; have HB := n0_; have BKS := n1_; clear n0_ n1_; clear hb; have hcw14BKS_0 : w14.cell? ⟨gs, 0, none⟩ = some (.int .i64 a0) := (blk_cell BKS.out 0).trans rfl; have hcw14BKS_1 : w14.cell? ⟨gs, 1, none⟩ = some (.int .i64 a1) := (blk_cell BKS.out 1).trans rfl; have hcw14BKS_2 : w14.cell? ⟨gs, 2, none⟩ = some (.slice A2 costs.length c2) := (blk_cell BKS.out 2).trans rfl; have hcw14BKS_3 : w14.cell? ⟨gs, 3, none⟩ = some (.slice A3 shut.length c3) := (blk_cell BKS.out 3).trans rfl; have hfw14BKS_0 := blk_frozen BKS.out 0; have hfw14BKS_1 := blk_frozen BKS.out 1; have hfw14BKS_2 := blk_frozen BKS.out 2; have hfw14BKS_3 := blk_frozen BKS.out 3) | (at_mapUpdate; (try (refine gate_guard (by rfl) ?_; dsimp only)); refine Mp.putO (K := 3) (E := 4) (T := 46) TH.out rfl _ _ _ rfl Try.underlying3 Try.underlying46 Try.underlying4 (by unfold maxLen; have := HN.out; omega) rfl q rfl rfl HWF.out ?_; intro w15 hset hgr; have n0_ := Aside0.mk (pw_below_grown (by repeat (first | (with_reducible first | exact HB.out | apply below_alloc | apply pw_below_drewN | apply below_drew1) | exact HB.out)) (some bt) (below_size (by repeat (first | (with_reducible first | exact HB.out | apply below_alloc | apply pw_below_drewN | apply below_drew1) | exact HB.out))) hgr (fun k e => by cases e; exact Gbt.out)); have n1_ := Aside0.mk (blk_grown (g := gs) (o := .cells #[.int .i64 a0, .int .i64 a1, .slice A2 costs.length c2, .slice A3 shut.length c3] 31 (0, 0)) (by (with_reducible repeat (first | refine blk_drewN ?_ _ | refine blk_drew ?_ | refine blk_alloc ?_ _)); exact BKS.out) hgr (TH.out.ne (by (with_reducible repeat (first | refine blk_drewN ?_ _ | refine blk_drew ?_ | refine blk_alloc ?_ _)); exact BKS.out))); have tGO_ := Aside0.mk (GO.out.kept hgr (fun e => HBM.out (Option.some.inj e)) (fun e => HBT.out (Option.some.inj e).symm)); have tHROW_ := Aside0.mk (Kd.R_grown HROW.out hgr (fun k hk e => hk (Option.some.inj e))); have n2_ := Aside0.mk hset; clear HB BKS TH GO HROW hset hgr; have HB := n0_; have BKS := n1_; have TH := n2_; have GO := tGO_; have HROW := tHROW_;  clear n0_ n1_ n2_ tGO_ tHROW_; have hcw15BKS_0 : w15.cell? ⟨gs, 0, none⟩ = some (.int .i64 a0) := (blk_cell BKS.out 0).trans rfl; have hcw15BKS_1 : w15.cell? ⟨gs, 1, none⟩ = some (.int .i64 a1) := (blk_cell BKS.out 1).trans rfl; have hcw15BKS_2 : w15.cell? ⟨gs, 2, none⟩ = some (.slice A2 costs.length c2) := (blk_cell BKS.out 2).trans rfl; have hcw15BKS_3 : w15.cell? ⟨gs, 3, none⟩ = some (.slice A3 shut.length c3) := (blk_cell BKS.out 3).trans rfl; have hfw15BKS_0 := blk_frozen BKS.out 0; have hfw15BKS_1 := blk_frozen BKS.out 1; have hfw15BKS_2 := blk_frozen BKS.out 2; have hfw15BKS_3 := blk_frozen BKS.out 3))
                      go_roundg (l.length - (j + 1).toNat)
                      case measure => have := HJ.out; have := HLT2.out; omega
                      case rel =>
                        have hk : ∀ y, (q :: ac).contains y = true → 0 ≤ y ∧ y < (costs.length : Int) := fun y hy => by
                          rw [impl_Quickest.contains_iff, List.mem_cons] at hy
                          rcases hy with rfl | hy
                          · exact HIN.out
                          · exact HKA.out y (impl_Quickest.contains_iff.2 hy)
                        exact ⟨j + 1, q :: ac, (by first | rfl | (rw [HW2.out]) | (simp [HW2.out])), ⟨by have := HJ.out; have := HLT2.out; omega⟩, ⟨by rw [HLT2.out.2]; exact HS3.out⟩, ⟨hk⟩, ⟨TH.out.tight Try.underlying3 hk⟩, GO, HROW, BKS, HB⟩
                    | false =>
                      rw [if_neg (by decide)] at hs
                      have HS3 := Aside0.mk hs
                      clear hs
                      go_wp2_with (first | (go_at_fn 21; refine (HKM.out _ gs _ _ _ (by repeat (first | (with_reducible first | exact HB.out | apply below_alloc | apply pw_below_drewN | apply below_drew1) | exact HB.out)) (by (with_reducible repeat (first | refine blk_drewN ?_ _ | refine blk_drew ?_ | refine blk_alloc ?_ _)); exact BKS.out) HT.out).mono ?_; rintro e w14 ⟨rfl, hb⟩; have tGO_ := Aside0.mk (GO.out.below hb); clear GO; have GO := tGO_; clear tGO_; have tTH_ := Aside0.mk (TH.out.below hb); clear TH; have TH := tTH_; clear tTH_; have tr_ := Aside0.mk (Kd.R_below HROW.out hb); clear HROW; have HROW := tr_; clear tr_; have n0_ := Aside0.mk (below_step (by repeat (first | (with_reducible first | exact HB.out | apply below_alloc | apply pw_below_drewN | apply below_drew1) | exact HB.out)) hb); have n1_ := Aside0.mk (blk_below (g := gs) (o := .cells #[.int .i64 a0, .int .i64 a1, .slice A2 costs.length c2, .slice A3 shut.length c3] 31 (0, 0)) (by (with_reducible repeat (first | refine blk_drewN ?_ _ | refine blk_drew ?_ | refine blk_alloc ?_ _)); exact BKS.out) hb); clear HB BKS; have HB := n0_; have BKS := n1_; clear n0_ n1_; clear hb; have hcw14BKS_0 : w14.cell? ⟨gs, 0, none⟩ = some (.int .i64 a0) := (blk_cell BKS.out 0).trans rfl; have hcw14BKS_1 : w14.cell? ⟨gs, 1, none⟩ = some (.int .i64 a1) := (blk_cell BKS.out 1).trans rfl; have hcw14BKS_2 : w14.cell? ⟨gs, 2, none⟩ = some (.slice A2 costs.length c2) := (blk_cell BKS.out 2).trans rfl; have hcw14BKS_3 : w14.cell? ⟨gs, 3, none⟩ = some (.slice A3 shut.length c3) := (blk_cell BKS.out 3).trans rfl; have hfw14BKS_0 := blk_frozen BKS.out 0; have hfw14BKS_1 := blk_frozen BKS.out 1; have hfw14BKS_2 := blk_frozen BKS.out 2; have hfw14BKS_3 := blk_frozen BKS.out 3))
                      go_roundg (l.length - (j + 1).toNat)
                      case measure => have := HJ.out; have := HLT2.out; omega
                      case rel => exact ⟨j + 1, ac, (by first | rfl | (rw [HW2.out]) | (simp [HW2.out])), ⟨by have := HJ.out; have := HLT2.out; omega⟩, ⟨by rw [HLT2.out.2]; exact HS3.out⟩, HKA, TH, GO, HROW, BKS, HB⟩
                  · have d0 : decide (j < (l.length : Int)) = false := decide_eq_false hjl
                    have hjj : j.toNat = l.length := by have := HJ.out; omega
                    have hs := HAD.out
                    rw [hjj, List.drop_of_length_le (Nat.le_refl _)] at hs
                    unfold impl_Quickest.adds at hs
                    obtain rfl := Option.some.inj hs
                    clear hs hjj hjl
                    go_wp2
                    go_roundg cn1
                    case measure => have := HLT.out; have := HCN.out; omega
                    case rel =>
                      refine ⟨x :: S, ac, cn1, ⟨Nat.le_refl _⟩, GO, TH, ⟨fun y hy => ?_⟩, ⟨fun y => ?_⟩, BKS, HB⟩
                      · rcases List.mem_cons.1 hy with rfl | hy
                        · exact HXA.out
                        · exact HSA.out y hy
                      · rw [HSP.out y, HAC.out y]
                        constructor
                        · rintro (⟨p, hp, h⟩ | h)
                          · exact ⟨p, List.mem_cons_of_mem _ hp, h⟩
                          · exact ⟨x, List.mem_cons_self, qs, HQS.out, h⟩
                        · rintro ⟨p, hp, q, hq, h⟩
                          rcases List.mem_cons.1 hp with rfl | hp
                          · have e := HQS.out
                            rw [hq] at e
                            obtain rfl := Option.some.inj e
                            exact .inr h
                          · exact .inl ⟨p, hp, q, hq, h⟩
  · rw [if_neg hg] at h; cases h


end Go.Proofs.Ythbmpegaogfibaa.PE
