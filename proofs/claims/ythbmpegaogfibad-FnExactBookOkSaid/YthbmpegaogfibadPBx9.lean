/- What Go's functions that the laws reach come to: laid by a program of this session over the print's words. -/
import Derived.Test.YthbmpegaogfibadPBx0
import Derived.Test.YthbmpegaogfibadPBx6
import Derived.Test.YthbmpegaogfibadPBx7
import Derived.Test.YthbmpegaogfibadPBx8
namespace Go.Proofs.Ythbmpegaogfibad.PB
open Go.RowKit Go.Proofs.YthbmpegaogfibadW.PrintWords Go.Proofs.YthbmpegaogfibadW.PrintLast Go.Proofs.YthbmpegaogfibadW.PrintMore
attribute [local go_sem] max2_int min2_int max_two min_two max_three min_three max_four min_four   -- for this text's walks alone
set_option linter.unusedVariables false
set_option linter.unusedSimpArgs false

/-! ### slices.IndexFunc and slices.ContainsFunc of strings at a predicate that only reads: functions 26, 20 -/
theorem impl_BookOk.setCell {P : Program} {K E : TypeId} {w : World} {b n : Nat} {acc : List Int} (h : Mp.SetIs P K E w b n acc) {p : Addr} (hp : some p.block ≠ some b) (u : Value) : Mp.SetIs P K E (w.setCell p u) b n acc := by
  obtain ⟨D, h1, h2⟩ := h
  exact ⟨D, h1.setCell (fun e => hp (by rw [e])) u, h2⟩
set_option maxHeartbeats 4000000 in
set_option maxRecDepth 100000 in
theorem impl_BookOk.idxQ (g : Nat) (lb : Array Value) (p : ByteArray → Bool) (A0 : Option Addr) (c0 : Nat) (l0 : List (ByteArray)) (w : World) (eg : ∀ args w, (callFunc g args).run Try.prog w = .ok (.enter g args) w)
    (hp : ∀ (W : World) (x : ByteArray), x ∈ l0 → Drawn0 w W → Calls Try.prog g (#[.string x] ++ lb) W fun e w' => e = .returned (.bool (p x)) ∧ Drawn0 W w')
    (hr0 : Kd.C Kd.string w A0 l0.length l0) :
    Calls Try.prog 26 #[.slice A0 l0.length c0, .func (.func g) #[] lb] w fun e w' => e = .returned (.int .i64 (Gv.idxP p l0)) ∧ Drawn0 w w' := by
  have hn : l0.length ≤ 9223372036854775807 := hr0.2.1
  have HR := Aside0.mk hr0
  have HP := Aside0.mk hp
  clear hr0 hp
  go_enter Try.func26, Try.ntmps26
  go_wp2
  go_loopg [5, 8] l0.length (fun gg _ s8 wr => ∃ i : Int, s8 = .int .i64 i ∧ Aside0 (0 ≤ i ∧ i ≤ l0.length ∧ l0.length - i.toNat ≤ gg) ∧ Aside0 (Drawn0 w wr) ∧ Aside0 (∀ j : Nat, j < i.toNat → ∀ x, l0[j]? = some x → p x = false))
  case atStart => exact ⟨0, rfl, ⟨by omega⟩, ⟨Drawn0.refl w⟩, ⟨fun j hj => absurd hj (Nat.not_lt_zero _)⟩⟩
  case round =>
    obtain ⟨i, rfl, HI, BW, AA⟩ := hrel
    by_cases hlt : i < (l0.length : Int)
    · have h0 : 0 ≤ i := HI.out.1
      obtain ⟨ad, e_, hx0⟩ := Kd.at_string (Kd.C_below HR.out BW.out.below) i h0 hlt
      cases e_
      have hm : l0[i.toNat]? = some (rdOf ByteArray.empty l0 i) := by
        have hl : i.toNat < l0.length := by omega
        rw [List.getElem?_eq_getElem hl]; simp [rdOf, List.getD, hl]
      have hcall := HP.out wr (rdOf ByteArray.empty l0 i) (List.mem_of_getElem? hm) BW.out
      have HM := Aside0.mk hm
      clear hm
      have hw1 : wrap64 (i + 1) = i + 1 := by unfold wrap64; omega
      have HW := Aside0.mk hw1
      clear hw1
      have c0b : decide (i < (l0.length : Int)) = true := decide_eq_true hlt
      have c1b : decide (0 ≤ i) = true := decide_eq_true h0
      have HLT := Aside0.mk (show i.toNat < l0.length ∧ (i + 1).toNat = i.toNat + 1 by omega)
      replace h0 := eq_true h0
      replace hlt := eq_true hlt
      cases hq : p (rdOf ByteArray.empty l0 i) with
      | true =>
        rw [hq] at hcall
        have HQ := Aside0.mk hq
        clear hq
        go_wp2_with (go_at_fn g; refine hcall.mono ?_; rintro e w' ⟨rfl, ⟨nd, rfl⟩⟩)
        go_ret
        exact ⟨by rw [Gv.idxP_hit p l0 i.toNat _ HM.out HQ.out AA.out]; rw [Int.toNat_of_nonneg HI.out.1]; first | done | rfl, by repeat (first | exact BW.out | apply Drawn0.step)⟩
      | false =>
        rw [hq] at hcall
        have HQ := Aside0.mk hq
        clear hq
        go_wp2_with (go_at_fn g; refine hcall.mono ?_; rintro e w' ⟨rfl, ⟨nd, rfl⟩⟩)
        go_roundg (l0.length - (i + 1).toNat)
        case measure => have := HI.out; have := HLT.out; omega
        case rel =>
          refine ⟨i + 1, (by first | rfl | (rw [HW.out]) | (simp [HW.out])), ⟨by have := HI.out; have := HLT.out; omega⟩, ⟨by repeat (first | exact BW.out | apply Drawn0.step)⟩, ⟨fun j hj x hx => ?_⟩⟩
          have h2 := HLT.out
          by_cases ej : j = i.toNat
          · subst ej
            have h3 := HM.out
            rw [hx] at h3
            rw [Option.some.inj h3]; exact HQ.out
          · exact AA.out j (by omega) x hx
    · have c0b : decide (i < (l0.length : Int)) = false := decide_eq_false hlt
      have HLT := Aside0.mk hlt
      clear hlt
      go_wp2
      go_ret
      exact ⟨by rw [Gv.idxP_miss p l0 (fun x hx => by
        obtain ⟨j, hj⟩ := List.getElem?_of_mem hx
        have h1 := (List.getElem?_eq_some_iff.1 hj).1
        have := HI.out; have := HLT.out
        exact AA.out j (by omega) x hj)]; first | done | rfl, by repeat (first | exact BW.out | apply Drawn0.step)⟩
set_option maxHeartbeats 4000000 in
set_option maxRecDepth 100000 in
theorem impl_BookOk.anyQ (g : Nat) (lb : Array Value) (p : ByteArray → Bool) (A0 : Option Addr) (c0 : Nat) (l0 : List (ByteArray)) (w : World) (eg : ∀ args w, (callFunc g args).run Try.prog w = .ok (.enter g args) w)
    (hp : ∀ (W : World) (x : ByteArray), x ∈ l0 → Drawn0 w W → Calls Try.prog g (#[.string x] ++ lb) W fun e w' => e = .returned (.bool (p x)) ∧ Drawn0 W w')
    (hr0 : Kd.C Kd.string w A0 l0.length l0) :
    Calls Try.prog 20 #[.slice A0 l0.length c0, .func (.func g) #[] lb] w fun e w' => e = .returned (.bool (l0.any p)) ∧ Drawn0 w w' := by
  have hcon := impl_BookOk.idxQ g lb p A0 c0 l0 w eg hp hr0
  rw [← Gv.idxP_any p l0]
  clear hp hr0
  generalize Gv.idxP p l0 = r at hcon ⊢
  go_enter Try.func20, Try.ntmps20
  go_wp2_with (go_at_call 26; refine hcon.mono ?_; rintro e w' ⟨rfl, ⟨nd, rfl⟩⟩)
  go_ret
  exact ⟨rfl, by repeat (first | exact Drawn0.refl _ | apply Drawn0.step)⟩
/-! ### impl_BookOk: function 7 -/
def impl_BookOk.inb (x a b : Int) : Bool := decide (a ≤ x) && decide (x ≤ b)
theorem impl_BookOk.in_eq (a b c : Int) : impl_in.f a b c = some (impl_BookOk.inb a b c) := by
  unfold impl_in.f impl_BookOk.inb
  by_cases h : a ≥ b
  · rw [if_pos h]; simp [show b ≤ a from h]
  · rw [if_neg h]; simp [show ¬ b ≤ a from h]
theorem impl_BookOk.id_eq (b : Int) : impl_idRight.f b = some (impl_BookOk.inb b 1 1000000) := by
  simp only [impl_idRight.f, impl_BookOk.in_eq, Option.bind_some]
/-- Is a bill's head wrong? -/
def impl_BookOk.hdr (a1 a2 a3 a4 a5 a6 a7 : Bool) : Bool := !a1 || (a2 || (!a3 || (!a4 || (!a5 || (a6 || a7)))))
def impl_BookOk.bad (nm eo : ByteArray → Bool) (i pv : Int) (x : S38) : Bool := impl_BookOk.hdr (impl_BookOk.inb x.f0 1 1000000) (decide (0 < i) && decide (pv ≥ x.f0)) (nm x.f1) (eo x.f2) (impl_BookOk.inb x.f3 1 5) ((x.f4.length : Int) != x.f3) (x.f4.any fun s => !eo s)
def impl_BookOk.bills (nm eo : ByteArray → Bool) (l : List S38) : Nat → Int → Bool
  | 0, _ => true
  | m + 1, i => !impl_BookOk.bad nm eo i (rd_T38 l (i - 1)).f0 (rd_T38 l i) && impl_BookOk.bills nm eo l m (i + 1)
def impl_BookOk.freed (l : List S38) (fr : List Int) : Nat → Int → Bool
  | 0, _ => true
  | m + 1, i => ((l.any fun x => x.f0 == rd fr i) && !(decide (0 < i) && decide (rd fr (i - 1) ≥ rd fr i))) && impl_BookOk.freed l fr m (i + 1)
def impl_BookOk.wfB (x : Int) : Bool := decide (-9223372036854775808 ≤ x) && decide (x ≤ 9223372036854775807)
def impl_BookOk.whole (k : Nat) (x : S38) : Bool := (impl_nameOk.f k x.f1).isSome && ((impl_emptyOrName.f k x.f2).isSome && x.f4.all fun s => (impl_emptyOrName.f k s).isSome)
def impl_BookOk.nm (k : Nat) (s : ByteArray) : Bool := impl_nameOk.f k s == some true
def impl_BookOk.eo (k : Nat) (s : ByteArray) : Bool := impl_emptyOrName.f k s == some true
def impl_BookOk.f (k : Nat) (l : List S38) (fr : List Int) : Option Bool := if l.all (impl_BookOk.whole k) = true ∧ fr.all impl_BookOk.wfB = true then some (if (l.length : Int) > 30 then false else impl_BookOk.bills (impl_BookOk.nm k) (impl_BookOk.eo k) l l.length 0 && impl_BookOk.freed l fr fr.length 0) else none
def impl_BookOk.acc (l : List S38) (i : Nat) : List Int := ((l.take i).map fun x => x.f0).reverse
theorem impl_BookOk.acc_next (l : List S38) (i : Nat) (h : i < l.length) : impl_BookOk.acc l (i + 1) = l[i].f0 :: impl_BookOk.acc l i := by
  unfold impl_BookOk.acc
  rw [List.take_add_one, List.getElem?_eq_getElem h]
  simp only [Option.toList_some, List.map_append, List.map_cons, List.map_nil, List.reverse_append, List.reverse_cons, List.reverse_nil, List.nil_append, List.singleton_append]
theorem impl_BookOk.acc_has (l : List S38) (y : Int) : (impl_BookOk.acc l l.length).contains y = l.any fun x => x.f0 == y := by
  unfold impl_BookOk.acc
  rw [List.take_length, Bool.eq_iff_iff]
  simp only [List.contains_eq_mem, decide_eq_true_iff, List.mem_reverse, List.mem_map, List.any_eq_true, beq_iff_eq]
theorem impl_BookOk.isSome_eo {k : Nat} {s : ByteArray} (h : (impl_emptyOrName.f k s).isSome = true) : impl_emptyOrName.f k s = some (impl_BookOk.eo k s) := by
  obtain ⟨b, hb⟩ := Option.isSome_iff_exists.1 h
  unfold impl_BookOk.eo
  rw [hb]; cases b <;> rfl
theorem impl_BookOk.isSome_nm {k : Nat} {s : ByteArray} (h : (impl_nameOk.f k s).isSome = true) : impl_nameOk.f k s = some (impl_BookOk.nm k s) := by
  obtain ⟨b, hb⟩ := Option.isSome_iff_exists.1 h
  unfold impl_BookOk.nm
  rw [hb]; cases b <;> rfl
theorem impl_BookOk.nm_next {k : Nat} {s : ByteArray} (h : (impl_nameOk.f k s).isSome = true) : (impl_nameOk.f (k + 1) s).isSome = true ∧ impl_BookOk.nm (k + 1) s = impl_BookOk.nm k s := by
  have h1 := impl_BookOk.isSome_nm h
  have h2 := impl_nameOk.mono s k _ h1
  exact ⟨by rw [h2]; rfl, by unfold impl_BookOk.nm at h2 ⊢; rw [h2]; cases (impl_nameOk.f k s == some true) <;> rfl⟩
theorem impl_BookOk.eo_next {k : Nat} {s : ByteArray} (h : (impl_emptyOrName.f k s).isSome = true) : (impl_emptyOrName.f (k + 1) s).isSome = true ∧ impl_BookOk.eo (k + 1) s = impl_BookOk.eo k s := by
  have h1 := impl_BookOk.isSome_eo h
  have h2 := impl_emptyOrName.mono s k _ h1
  exact ⟨by rw [h2]; rfl, by unfold impl_BookOk.eo at h2 ⊢; rw [h2]; cases (impl_emptyOrName.f k s == some true) <;> rfl⟩
theorem impl_BookOk.bills_congr (nm eo nm' eo' : ByteArray → Bool) (l : List S38) (h : ∀ x ∈ l, nm' x.f1 = nm x.f1 ∧ eo' x.f2 = eo x.f2 ∧ ∀ s ∈ x.f4, eo' s = eo s) : ∀ (m : Nat) (i : Int), 0 ≤ i → i + m = (l.length : Int) → impl_BookOk.bills nm' eo' l m i = impl_BookOk.bills nm eo l m i
  | 0, _, _, _ => rfl
  | m + 1, i, h0, hm => by
    have hmem : rd_T38 l i ∈ l := by
      have hi : i.toNat < l.length := by omega
      have : l[i.toNat] = rd_T38 l i := by simp [rd_T38, List.getD, hi]
      rw [← this]; exact List.getElem_mem _
    obtain ⟨h1, h2, h3⟩ := h _ hmem
    rw [impl_BookOk.bills, impl_BookOk.bills, impl_BookOk.bills_congr nm eo nm' eo' l h m (i + 1) (by omega) (by omega)]
    unfold impl_BookOk.bad
    rw [h1, h2, Gv.any_congr (p := fun s => !eo' s) (q := fun s => !eo s) fun s hs => by rw [h3 s hs]]
theorem impl_BookOk.mono : ∀ a0 a1 k, LeO (impl_BookOk.f k a0 a1) (impl_BookOk.f (k + 1) a0 a1) := by
  intro l fr k r h
  unfold impl_BookOk.f at h ⊢
  by_cases hg : l.all (impl_BookOk.whole k) = true ∧ fr.all impl_BookOk.wfB = true
  · rw [if_pos hg] at h
    have hw : ∀ x ∈ l, impl_BookOk.whole (k + 1) x = true ∧ (impl_BookOk.nm (k + 1) x.f1 = impl_BookOk.nm k x.f1 ∧ impl_BookOk.eo (k + 1) x.f2 = impl_BookOk.eo k x.f2 ∧ ∀ s ∈ x.f4, impl_BookOk.eo (k + 1) s = impl_BookOk.eo k s) := fun x hx => by
      have h1 := List.all_eq_true.1 hg.1 x hx
      simp only [impl_BookOk.whole, Bool.and_eq_true] at h1
      obtain ⟨e1, e2, e3⟩ := h1
      have n1 := impl_BookOk.nm_next e1
      have n2 := impl_BookOk.eo_next e2
      refine ⟨?_, n1.2, n2.2, fun s hs => (impl_BookOk.eo_next (List.all_eq_true.1 e3 s hs)).2⟩
      simp only [impl_BookOk.whole, Bool.and_eq_true]
      exact ⟨n1.1, n2.1, List.all_eq_true.2 fun s hs => (impl_BookOk.eo_next (List.all_eq_true.1 e3 s hs)).1⟩
    rw [if_pos ⟨List.all_eq_true.2 fun x hx => (hw x hx).1, hg.2⟩, ← h, impl_BookOk.bills_congr (impl_BookOk.nm k) (impl_BookOk.eo k) _ _ l (fun x hx => (hw x hx).2) l.length 0 (Int.le_refl _) (by omega)]
  · rw [if_neg hg] at h; cases h
set_option maxHeartbeats 8000000 in
set_option maxRecDepth 100000 in
theorem impl_BookOk.calls (k : Nat) (A0 : Option Addr) (c0 : Nat) (l : List (S38)) (A1 : Option Addr) (c1 : Nat) (fr : List Int) (r : Bool) (w : World) (hr0 : Kd.C k38 w A0 l.length l) (hc0 : l.length ≤ c0) (hr1 : Kd.C (Kd.int .i64) w A1 fr.length fr) (hc1 : fr.length ≤ c1) (h : impl_BookOk.f k l fr = some r) :
    Calls Try.prog 7 #[.agg #[.slice A0 l.length c0, .slice A1 fr.length c1]] w fun e w' => e = .returned (.bool r) ∧ Below w.heap.size w w' := by
  have hu30 := Try.underlying30
  have hu38 := Try.underlying38
  have hu28 := Try.underlying28
  have hu23 := Try.underlying23
  have hu36 := Try.underlying36
  unfold impl_BookOk.f at h
  by_cases hg : l.all (impl_BookOk.whole k) = true ∧ fr.all impl_BookOk.wfB = true
  · rw [if_pos hg] at h
    have h := Option.some.inj h
    have HG := Aside0.mk hg
    have HR0 := Aside0.mk hr0
    have HR1 := Aside0.mk hr1
    clear hr0 hc0 hr1 hc1 hg
    have HB := Aside0.mk (Below.refl w.heap.size w)
    by_cases hn : (l.length : Int) > 30
    · rw [if_pos hn] at h
      subst h
      have e0 : decide ((l.length : Int) > 30) = true := decide_eq_true hn
      have e1 : decide (30 < (l.length : Int)) = true := decide_eq_true hn
      clear hn
      go_enter Try.func7, Try.ntmps7
      go_wp2_with (first | ((with_reducible refine gate_dst (N := 1) rfl ?_); refine box_event ?hg (N := 1) ?hd (cs := #[.slice A0 l.length c0, .slice A1 fr.length c1]) (t := 30) ?hr ?_; (case hd => rfl); (case hg => rfl); (case hr => first | (go_simp; done) | (go_simp; rfl)); intro gs hg w2 hbox hb; have GBKS := Aside0.mk (show w.heap.size ≤ gs by rw [hg]; exact below_size (by repeat (first | (with_reducible first | exact HB.out | apply below_alloc | apply pw_below_drewN | apply below_drew1) | exact HB.out))); have BKS := Aside0.mk hbox; have n0_ := Aside0.mk (below_step (by repeat (first | (with_reducible first | exact HB.out | apply below_alloc | apply pw_below_drewN | apply below_drew1) | exact HB.out)) hb); clear HB ; have HB := n0_; clear n0_; clear hb hbox hg; have hcw2BKS_0 : w2.cell? ⟨gs, 0, none⟩ = some (.slice A0 l.length c0) := (blk_cell BKS.out 0).trans rfl; have hcw2BKS_1 : w2.cell? ⟨gs, 1, none⟩ = some (.slice A1 fr.length c1) := (blk_cell BKS.out 1).trans rfl; have hfw2BKS_0 := blk_frozen BKS.out 0; have hfw2BKS_1 := blk_frozen BKS.out 1))
      go_ret
      exact ⟨by first | rfl | (simp; done) | (simp [*]; done), (by repeat (first | (with_reducible first | exact HB.out | apply below_alloc | apply pw_below_drewN | apply below_drew1) | exact HB.out))⟩
    · rw [if_neg hn] at h
      have e0 : decide ((l.length : Int) > 30) = false := decide_eq_false hn
      have e1 : decide (30 < (l.length : Int)) = false := decide_eq_false hn
      have HN := Aside0.mk (show l.length ≤ 30 by omega)
      have HV := Aside0.mk h
      clear hn h
      go_enter Try.func7, Try.ntmps7
      go_wp2_with (first | ((with_reducible refine gate_dst (N := 1) rfl ?_); refine box_event ?hg (N := 1) ?hd (cs := #[.slice A0 l.length c0, .slice A1 fr.length c1]) (t := 30) ?hr ?_; (case hd => rfl); (case hg => rfl); (case hr => first | (go_simp; done) | (go_simp; rfl)); intro gs hg w2 hbox hb; have GBKS := Aside0.mk (show w.heap.size ≤ gs by rw [hg]; exact below_size (by repeat (first | (with_reducible first | exact HB.out | apply below_alloc | apply pw_below_drewN | apply below_drew1) | exact HB.out))); have BKS := Aside0.mk hbox; have n0_ := Aside0.mk (below_step (by repeat (first | (with_reducible first | exact HB.out | apply below_alloc | apply pw_below_drewN | apply below_drew1) | exact HB.out)) hb); clear HB ; have HB := n0_; clear n0_; clear hb hbox hg; have hcw2BKS_0 : w2.cell? ⟨gs, 0, none⟩ = some (.slice A0 l.length c0) := (blk_cell BKS.out 0).trans rfl; have hcw2BKS_1 : w2.cell? ⟨gs, 1, none⟩ = some (.slice A1 fr.length c1) := (blk_cell BKS.out 1).trans rfl; have hfw2BKS_0 := blk_frozen BKS.out 0; have hfw2BKS_1 := blk_frozen BKS.out 1) | ((with_reducible refine gate_dst (N := 12) rfl ?_); refine Mp.make (K := 3) (E := 4) (T := 44) rfl (N := 12) rfl rfl ?_; intro bm hbm w3 hset hb; have Gbm := Aside0.mk (show w.heap.size ≤ bm by rw [hbm]; exact below_size (by repeat (first | (with_reducible first | exact HB.out | apply below_alloc | apply pw_below_drewN | apply below_drew1) | exact HB.out))); have n0_ := Aside0.mk (below_step (by repeat (first | (with_reducible first | exact HB.out | apply below_alloc | apply pw_below_drewN | apply below_drew1) | exact HB.out)) hb); have n1_ := Aside0.mk (blk_below (g := gs) (o := .cells #[.slice A0 l.length c0, .slice A1 fr.length c1] 30 (0, 0)) (by (with_reducible repeat (first | refine blk_drewN ?_ _ | refine blk_drew ?_ | refine blk_alloc ?_ _)); exact BKS.out) hb); clear HB BKS; have HB := n0_; have BKS := n1_; clear n0_ n1_; have SM := Aside0.mk hset; clear hset hbm hb; have hcw3BKS_0 : w3.cell? ⟨gs, 0, none⟩ = some (.slice A0 l.length c0) := (blk_cell BKS.out 0).trans rfl; have hcw3BKS_1 : w3.cell? ⟨gs, 1, none⟩ = some (.slice A1 fr.length c1) := (blk_cell BKS.out 1).trans rfl; have hfw3BKS_0 := blk_frozen BKS.out 0; have hfw3BKS_1 := blk_frozen BKS.out 1))
      clear e0 e1
      go_loopg [16] l.length (fun gg v16 wr => ∃ (i : Int) (acc : List Int), v16 = .int .i64 i ∧ Aside0 (0 ≤ i ∧ i ≤ l.length ∧ l.length - i.toNat ≤ gg) ∧ Aside0 ((impl_BookOk.bills (impl_BookOk.nm k) (impl_BookOk.eo k) l (l.length - i.toNat) i && impl_BookOk.freed l fr fr.length 0) = r) ∧ Aside0 (acc = impl_BookOk.acc l i.toNat) ∧ Aside0 (Mp.SetIs Try.prog 3 4 wr bm i.toNat acc) ∧ Aside0 (wr.heap[gs]? = some (.cells #[.slice A0 l.length c0, .slice A1 fr.length c1] 30 (0, 0))) ∧ Aside0 (Below w.heap.size w wr))
      case atStart => exact ⟨0, [], rfl, ⟨by omega⟩, HV, ⟨rfl⟩, SM, BKS, HB⟩
      case round =>
        clear HV SM BKS HB
        obtain ⟨i, acc, rfl, HI, HV, HAC, SM, BKS, HB⟩ := hrel
        have hcrBKS_0 : wr.cell? ⟨gs, 0, none⟩ = some (.slice A0 l.length c0) := (blk_cell BKS.out 0).trans rfl; have hcrBKS_1 : wr.cell? ⟨gs, 1, none⟩ = some (.slice A1 fr.length c1) := (blk_cell BKS.out 1).trans rfl; have hfrBKS_0 := blk_frozen BKS.out 0; have hfrBKS_1 := blk_frozen BKS.out 1
        by_cases hlt : i < (l.length : Int)
        · have h0 : 0 ≤ i := HI.out.1
          have HLT := Aside0.mk (show i.toNat < l.length ∧ (i + 1).toNat = i.toNat + 1 ∧ l.length - i.toNat = (l.length - (i + 1).toNat) + 1 by omega)
          have hw1 : wrap64 (i + 1) = i + 1 := by unfold wrap64; have := HN.out; omega
          have HW := Aside0.mk hw1
          clear hw1
          have hv := HV.out
          rw [HLT.out.2.2, impl_BookOk.bills] at hv
          clear HV
          have hmem : rd_T38 l i ∈ l := by
            have : l[i.toNat]'(HLT.out.1) = rd_T38 l i := by simp [rd_T38, List.getD, HLT.out.1]
            rw [← this]; exact List.getElem_mem _
          have hwh := List.all_eq_true.1 HG.out.1 _ hmem
          simp only [impl_BookOk.whole, Bool.and_eq_true] at hwh
          have H3 := Aside0.mk (impl_BookOk.isSome_nm hwh.1)
          have H4 := Aside0.mk (impl_BookOk.isSome_eo hwh.2.1)
          have HH := Aside0.mk hwh.2.2
          clear hmem hwh
          have HPV : Aside0 (0 < i → w.cell? ((A0.getD ⟨0, 0, none⟩).add ((i - 1).toNat * 5)) = some (.int .i64 (rd_T38 l (i - 1)).f0)) := ⟨fun hi => by
            obtain ⟨ad, A4, c4, e, hx, _⟩ := at_T38 HR0.out (i - 1) (by omega) (by omega)
            subst e; exact hx⟩
          obtain ⟨ad, A4, c4, e_, hx0, hx1, hx2, hx3, hx4, hl4, hi4⟩ := at_T38 HR0.out i h0 hlt
          cases e_
          rw [show ((some ad : Option Addr).getD ⟨0, 0, none⟩) = ad from rfl] at HPV
          replace hx0 := pw_cell_below HB.out hx0
          replace hx1 := pw_cell_below HB.out hx1
          replace hx2 := pw_cell_below HB.out hx2
          replace hx3 := pw_cell_below HB.out hx3
          replace hx4 := pw_cell_below HB.out hx4
          have HI4 := Aside0.mk hi4
          have hbad : impl_BookOk.bad (impl_BookOk.nm k) (impl_BookOk.eo k) i (rd_T38 l (i - 1)).f0 (rd_T38 l i) = impl_BookOk.hdr (impl_BookOk.inb (rd_T38 l i).f0 1 1000000) (decide (0 < i) && decide ((rd_T38 l (i - 1)).f0 ≥ (rd_T38 l i).f0)) (impl_BookOk.nm k (rd_T38 l i).f1) (impl_BookOk.eo k (rd_T38 l i).f2) (impl_BookOk.inb (rd_T38 l i).f3 1 5) (((rd_T38 l i).f4.length : Int) != (rd_T38 l i).f3) ((rd_T38 l i).f4.any fun s => !impl_BookOk.eo k s) := rfl
          rw [hbad] at hv
          have hget : l[i.toNat]'(HLT.out.1) = rd_T38 l i := by simp [rd_T38, List.getD, HLT.out.1]
          have HACN : Aside0 ((rd_T38 l i).f0 :: acc = impl_BookOk.acc l (i + 1).toNat) := ⟨by rw [HLT.out.2.1, impl_BookOk.acc_next l i.toNat HLT.out.1, hget, HAC.out]⟩
          clear hbad hl4 hi4 hget HAC
          generalize (rd_T38 l i).f0 = f0 at hx0 hv HACN
          generalize (rd_T38 l i).f1 = f1 at hx1 hv H3
          generalize (rd_T38 l i).f2 = f2 at hx2 hv H4
          generalize (rd_T38 l i).f3 = f3 at hx3 hv
          generalize (rd_T38 l i).f4 = f4 at hx4 hv HI4 HH
          generalize (rd_T38 l (i - 1)).f0 = pv at hv HPV
          have H1 := Aside0.mk (impl_BookOk.id_eq f0)
          have H5 := Aside0.mk (impl_BookOk.in_eq f3 1 5)
          have HWF : Aside0 (impl_BookOk.inb f0 1 1000000 = true → (Lit.int .i64 f0).wf = true) := ⟨fun h => Mp.wf_of (by unfold impl_BookOk.inb at h; simp at h; omega)⟩
          have H7 : Aside0 ((f4.any fun s => !impl_BookOk.eo k s) = (f4.any fun s => !impl_BookOk.eo k s)) := ⟨rfl⟩
          have HCF : Aside0 (∀ W : World, Below w.heap.size w W → Calls Try.prog 20 #[.slice A4 f4.length c4, .func (.func 21) #[] #[]] W fun e w' => e = .returned (.bool (f4.any fun s => !impl_BookOk.eo k s)) ∧ Drawn0 W w') := ⟨fun W hb => impl_BookOk.anyQ 21 #[] (fun s => !impl_BookOk.eo k s) A4 c4 f4 W (enters_of Try.func21 (by kernel_rfl) rfl) (fun W2 x hx hd => impl_BookOk_1.calls k x _ W2 (by
            simp only [impl_BookOk_1.f, impl_BookOk.isSome_eo (List.all_eq_true.1 HH.out x hx), Option.bind_some])) (Kd.C_below HI4.out hb)⟩
          generalize impl_BookOk.inb f0 1 1000000 = a1 at hv H1 HWF
          generalize impl_BookOk.nm k f1 = a3 at hv H3
          generalize impl_BookOk.eo k f2 = a4 at hv H4
          generalize impl_BookOk.inb f3 1 5 = a5 at hv H5
          generalize hqa : (f4.any fun s => !impl_BookOk.eo k s) = a7 at hv H7 HCF
          have HV := Aside0.mk hv
          clear hv hqa HH HI4 H7
          have d0 : decide (i < (l.length : Int)) = true := decide_eq_true hlt
          have d1 : decide (0 ≤ i) = true := decide_eq_true h0
          have h0' := h0
          have hlt' := hlt
          replace h0 := eq_true h0
          replace hlt := eq_true hlt
          go_upto_region 7 with (first | ((with_reducible refine gate_dst (N := 5) rfl ?_); refine box_event ?hg (N := 5) ?hd (cs := #[.int .i64 0, .string ⟨#[]⟩, .string ⟨#[]⟩, .int .i64 0, .slice none 0 0]) (t := 38) ?hr ?_; (case hd => rfl); (case hg => rfl); (case hr => first | (go_simp; done) | (go_simp; rfl)); intro gd hg w4 hbox hb; have GBKD := Aside0.mk (show w.heap.size ≤ gd by rw [hg]; exact below_size (by repeat (first | (with_reducible first | exact HB.out | apply below_alloc | apply pw_below_drewN | apply below_drew1) | exact HB.out))); have BKD := Aside0.mk hbox; have tS_ := Aside0.mk (SM.out.below hb); clear SM; have SM := tS_; clear tS_; have n0_ := Aside0.mk (below_step (by repeat (first | (with_reducible first | exact HB.out | apply below_alloc | apply pw_below_drewN | apply below_drew1) | exact HB.out)) hb); have n1_ := Aside0.mk (blk_below (g := gs) (o := .cells #[.slice (some ad) l.length c0, .slice A1 fr.length c1] 30 (0, 0)) (by (with_reducible repeat (first | refine blk_drewN ?_ _ | refine blk_drew ?_ | refine blk_alloc ?_ _)); exact BKS.out) hb); clear HB BKS; have HB := n0_; have BKS := n1_; clear n0_ n1_; clear hb hbox hg; have hcw4BKS_0 : w4.cell? ⟨gs, 0, none⟩ = some (.slice (some ad) l.length c0) := (blk_cell BKS.out 0).trans rfl; have hcw4BKS_1 : w4.cell? ⟨gs, 1, none⟩ = some (.slice A1 fr.length c1) := (blk_cell BKS.out 1).trans rfl; have hcw4BKD_0 : w4.cell? ⟨gd, 0, none⟩ = some (.int .i64 0) := (blk_cell BKD.out 0).trans rfl; have hcw4BKD_1 : w4.cell? ⟨gd, 1, none⟩ = some (.string ⟨#[]⟩) := (blk_cell BKD.out 1).trans rfl; have hcw4BKD_2 : w4.cell? ⟨gd, 2, none⟩ = some (.string ⟨#[]⟩) := (blk_cell BKD.out 2).trans rfl; have hcw4BKD_3 : w4.cell? ⟨gd, 3, none⟩ = some (.int .i64 0) := (blk_cell BKD.out 3).trans rfl; have hcw4BKD_4 : w4.cell? ⟨gd, 4, none⟩ = some (.slice none 0 0) := (blk_cell BKD.out 4).trans rfl; have hfw4BKS_0 := blk_frozen BKS.out 0; have hfw4BKS_1 := blk_frozen BKS.out 1; have hfw4BKD_0 := blk_frozen BKD.out 0; have hfw4BKD_1 := blk_frozen BKD.out 1; have hfw4BKD_2 := blk_frozen BKD.out 2; have hfw4BKD_3 := blk_frozen BKD.out 3; have hfw4BKD_4 := blk_frozen BKD.out 4) | ((with_reducible refine gate_store (t := 38) (p := 5) rfl ?_); refine store_event (t := 38) (p := 5) (v := ?vo_w5) (w1 := (((((w4.setCell ⟨gd, 0, none⟩ (.int .i64 f0)).setCell ⟨gd, 1, none⟩ (.string f1)).setCell ⟨gd, 2, none⟩ (.string f2)).setCell ⟨gd, 3, none⟩ (.int .i64 f3)).setCell ⟨gd, 4, none⟩ (.slice A4 f4.length c4))) ?hg ?ho ?hn ?hr ?_; (case ho => rfl); (case hg => rfl); (case hn => rfl); (case hr => first | (go_simp; done) | (go_simp; rfl)); intro w5 hw; have tS_ : Aside0 (Mp.SetIs Try.prog 3 4 w5 bm i.toNat acc) := Aside0.mk (by rw [hw]; exact (impl_BookOk.setCell (impl_BookOk.setCell (impl_BookOk.setCell (impl_BookOk.setCell (impl_BookOk.setCell SM.out (p := ⟨gd, 0, none⟩) (SM.out.ne BKD.out) (.int .i64 f0)) (p := ⟨gd, 1, none⟩) (SM.out.ne BKD.out) (.string f1)) (p := ⟨gd, 2, none⟩) (SM.out.ne BKD.out) (.string f2)) (p := ⟨gd, 3, none⟩) (SM.out.ne BKD.out) (.int .i64 f3)) (p := ⟨gd, 4, none⟩) (SM.out.ne BKD.out) (.slice A4 f4.length c4))); clear SM; have SM := tS_; clear tS_; have n0_ : Aside0 (w5.heap[gd]? = some (.cells #[.int .i64 f0, .string f1, .string f2, .int .i64 f3, .slice A4 f4.length c4] 38 (0, 0))) := Aside0.mk (by rw [hw]; exact (blk_put (cs := #[.int .i64 f0, .string f1, .string f2, .int .i64 f3, .slice none 0 0]) (cs' := #[.int .i64 f0, .string f1, .string f2, .int .i64 f3, .slice A4 f4.length c4]) (blk_put (cs := #[.int .i64 f0, .string f1, .string f2, .int .i64 0, .slice none 0 0]) (cs' := #[.int .i64 f0, .string f1, .string f2, .int .i64 f3, .slice none 0 0]) (blk_put (cs := #[.int .i64 f0, .string f1, .string ⟨#[]⟩, .int .i64 0, .slice none 0 0]) (cs' := #[.int .i64 f0, .string f1, .string f2, .int .i64 0, .slice none 0 0]) (blk_put (cs := #[.int .i64 f0, .string ⟨#[]⟩, .string ⟨#[]⟩, .int .i64 0, .slice none 0 0]) (cs' := #[.int .i64 f0, .string f1, .string ⟨#[]⟩, .int .i64 0, .slice none 0 0]) (blk_put (cs := #[.int .i64 0, .string ⟨#[]⟩, .string ⟨#[]⟩, .int .i64 0, .slice none 0 0]) (cs' := #[.int .i64 f0, .string ⟨#[]⟩, .string ⟨#[]⟩, .int .i64 0, .slice none 0 0]) BKD.out 0 (.int .i64 f0) rfl) 1 (.string f1) rfl) 2 (.string f2) rfl) 3 (.int .i64 f3) rfl) 4 (.slice A4 f4.length c4) rfl)); have n1_ : Aside0 (Below w.heap.size w w5) := Aside0.mk (by rw [hw]; exact (below_set (below_set (below_set (below_set (below_set HB.out GBKD.out) GBKD.out) GBKD.out) GBKD.out) GBKD.out)); have n2_ : Aside0 (w5.heap[gs]? = some (.cells #[.slice (some ad) l.length c0, .slice A1 fr.length c1] 30 (0, 0))) := Aside0.mk (by rw [hw]; exact (blk_far (blk_far (blk_far (blk_far (blk_far BKS.out (p := ⟨gd, 0, none⟩) (blk_ne BKS.out BKD.out (by decide)) (.int .i64 f0)) (p := ⟨gd, 1, none⟩) (blk_ne BKS.out BKD.out (by decide)) (.string f1)) (p := ⟨gd, 2, none⟩) (blk_ne BKS.out BKD.out (by decide)) (.string f2)) (p := ⟨gd, 3, none⟩) (blk_ne BKS.out BKD.out (by decide)) (.int .i64 f3)) (p := ⟨gd, 4, none⟩) (blk_ne BKS.out BKD.out (by decide)) (.slice A4 f4.length c4))); clear HB BKD BKS hw; have BKD := n0_; have HB := n1_; have BKS := n2_; clear n0_ n1_ n2_; have hcw5BKS_0 : w5.cell? ⟨gs, 0, none⟩ = some (.slice (some ad) l.length c0) := (blk_cell BKS.out 0).trans rfl; have hcw5BKS_1 : w5.cell? ⟨gs, 1, none⟩ = some (.slice A1 fr.length c1) := (blk_cell BKS.out 1).trans rfl; have hcw5BKD_0 : w5.cell? ⟨gd, 0, none⟩ = some (.int .i64 f0) := (blk_cell BKD.out 0).trans rfl; have hcw5BKD_1 : w5.cell? ⟨gd, 1, none⟩ = some (.string f1) := (blk_cell BKD.out 1).trans rfl; have hcw5BKD_2 : w5.cell? ⟨gd, 2, none⟩ = some (.string f2) := (blk_cell BKD.out 2).trans rfl; have hcw5BKD_3 : w5.cell? ⟨gd, 3, none⟩ = some (.int .i64 f3) := (blk_cell BKD.out 3).trans rfl; have hcw5BKD_4 : w5.cell? ⟨gd, 4, none⟩ = some (.slice A4 f4.length c4) := (blk_cell BKD.out 4).trans rfl; have hfw5BKS_0 := blk_frozen BKS.out 0; have hfw5BKS_1 := blk_frozen BKS.out 1; have hfw5BKD_0 := blk_frozen BKD.out 0; have hfw5BKD_1 := blk_frozen BKD.out 1; have hfw5BKD_2 := blk_frozen BKD.out 2; have hfw5BKD_3 := blk_frozen BKD.out 3; have hfw5BKD_4 := blk_frozen BKD.out 4))
          have HPV2 : Aside0 (0 < i → w5.cell? (ad.add ((i - 1).toNat * 5)) = some (.int .i64 pv)) := ⟨fun h => pw_cell_below HB.out (HPV.out h)⟩
          clear HPV hx0 hx1 hx2 hx3 hx4
          have HCQ : Aside0 (∀ W : World, Drawn0 w5 W → Calls Try.prog 20 #[.slice A4 f4.length c4, .func (.func 21) #[] #[]] W fun e w' => e = .returned (.bool a7) ∧ Drawn0 W w') := ⟨fun W hd => HCF.out W (below_step HB.out hd.below)⟩
          clear HCF
          go_cut [71] (fun v71 wc => v71 = .bool (impl_BookOk.hdr a1 (decide (0 < i) && decide (pv ≥ f0)) a3 a4 a5 ((f4.length : Int) != f3) a7) ∧ Aside0 (Mp.SetIs Try.prog 3 4 wc bm i.toNat acc) ∧ Aside0 (wc.heap[gs]? = some (.cells #[.slice (some ad) l.length c0, .slice A1 fr.length c1] 30 (0, 0))) ∧ Aside0 (wc.heap[gd]? = some (.cells #[.int .i64 f0, .string f1, .string f2, .int .i64 f3, .slice A4 f4.length c4] 38 (0, 0))) ∧ Aside0 (Below w.heap.size w wc))
          case first =>
            cases a1 with
            | false =>
              go_quiet (first | (go_at_call 16; (with_reducible refine (impl_idRight.calls _ _ _ H1.out).mono ?_); rintro e w' ⟨rfl, ⟨⟨nd, rfl⟩⟩⟩; (first | exact ⟨rfl, _, World.drewN_drewN _ _ _⟩ | exact ⟨rfl, _, Eq.trans (World.drewN_drewN _ _ _) (congrArg (World.drewN _) (Nat.add_assoc _ _ _))⟩ | exact ⟨rfl, _, rfl⟩)) | (go_at_call 17; (with_reducible refine (impl_nameOk.calls _ _ _ _ H3.out).mono ?_); rintro e w' ⟨rfl, ⟨⟨nd, rfl⟩⟩⟩; (first | exact ⟨rfl, _, World.drewN_drewN _ _ _⟩ | exact ⟨rfl, _, Eq.trans (World.drewN_drewN _ _ _) (congrArg (World.drewN _) (Nat.add_assoc _ _ _))⟩ | exact ⟨rfl, _, rfl⟩)) | (go_at_call 18; (with_reducible refine (impl_emptyOrName.calls _ _ _ _ H4.out).mono ?_); rintro e w' ⟨rfl, ⟨⟨nd, rfl⟩⟩⟩; (first | exact ⟨rfl, _, World.drewN_drewN _ _ _⟩ | exact ⟨rfl, _, Eq.trans (World.drewN_drewN _ _ _) (congrArg (World.drewN _) (Nat.add_assoc _ _ _))⟩ | exact ⟨rfl, _, rfl⟩)) | (go_at_call 19; (with_reducible refine (impl_in.calls _ _ _ _ _ H5.out).mono ?_); rintro e w' ⟨rfl, ⟨⟨nd, rfl⟩⟩⟩; (first | exact ⟨rfl, _, World.drewN_drewN _ _ _⟩ | exact ⟨rfl, _, Eq.trans (World.drewN_drewN _ _ _) (congrArg (World.drewN _) (Nat.add_assoc _ _ _))⟩ | exact ⟨rfl, _, rfl⟩)) | (go_at_call 20; (with_reducible refine (HCQ.out _ (by repeat (first | exact Drawn0.refl _ | apply Drawn0.step))).mono ?_); rintro e w' ⟨rfl, ⟨⟨nd, rfl⟩⟩⟩; (first | exact ⟨rfl, _, World.drewN_drewN _ _ _⟩ | exact ⟨rfl, _, Eq.trans (World.drewN_drewN _ _ _) (congrArg (World.drewN _) (Nat.add_assoc _ _ _))⟩ | exact ⟨rfl, _, rfl⟩)))
              try go_wp2
              go_meet
              case rel => exact ⟨by first | rfl | simp [impl_BookOk.hdr, *], SM, ⟨(by (with_reducible repeat (first | refine blk_drewN ?_ _ | refine blk_drew ?_ | refine blk_alloc ?_ _)); exact BKS.out)⟩, ⟨(by (with_reducible repeat (first | refine blk_drewN ?_ _ | refine blk_drew ?_ | refine blk_alloc ?_ _)); exact BKD.out)⟩, ⟨(by repeat (first | (with_reducible first | exact HB.out | apply below_alloc | apply pw_below_drewN | apply below_drew1) | exact HB.out))⟩⟩
            | true =>
              by_cases h2 : 0 < i
              · have e20 : decide (0 < i) = true := decide_eq_true h2
                have e21 : decide (i > 0) = true := decide_eq_true h2
                have hpx := HPV2.out h2
                have hpy : w5.cell? (ad.add ((i.toNat - 1) * 5)) = some (.int .i64 pv) := by rw [show i.toNat - 1 = (i - 1).toNat by omega]; exact hpx
                have g0 : (0 : Int) ≤ i - 1 := by omega
                have g1 : i - 1 < (l.length : Int) := by omega
                have g2 : IntKind.i64.wrap (i - 1) = i - 1 := by rw [IntKind.wrap_i64]; have := HN.out; omega
                have g3 : 1 ≤ i := by omega
                have g4 : i < (l.length : Int) + 1 := by omega
                clear HPV2
                by_cases h2b : pv ≥ f0
                · have e2 : decide (pv ≥ f0) = true := decide_eq_true h2b
                  have e2b : decide (f0 ≤ pv) = true := decide_eq_true h2b
                  clear h2b
                  go_quiet (first | (go_at_call 16; (with_reducible refine (impl_idRight.calls _ _ _ H1.out).mono ?_); rintro e w' ⟨rfl, ⟨⟨nd, rfl⟩⟩⟩; (first | exact ⟨rfl, _, World.drewN_drewN _ _ _⟩ | exact ⟨rfl, _, Eq.trans (World.drewN_drewN _ _ _) (congrArg (World.drewN _) (Nat.add_assoc _ _ _))⟩ | exact ⟨rfl, _, rfl⟩)) | (go_at_call 17; (with_reducible refine (impl_nameOk.calls _ _ _ _ H3.out).mono ?_); rintro e w' ⟨rfl, ⟨⟨nd, rfl⟩⟩⟩; (first | exact ⟨rfl, _, World.drewN_drewN _ _ _⟩ | exact ⟨rfl, _, Eq.trans (World.drewN_drewN _ _ _) (congrArg (World.drewN _) (Nat.add_assoc _ _ _))⟩ | exact ⟨rfl, _, rfl⟩)) | (go_at_call 18; (with_reducible refine (impl_emptyOrName.calls _ _ _ _ H4.out).mono ?_); rintro e w' ⟨rfl, ⟨⟨nd, rfl⟩⟩⟩; (first | exact ⟨rfl, _, World.drewN_drewN _ _ _⟩ | exact ⟨rfl, _, Eq.trans (World.drewN_drewN _ _ _) (congrArg (World.drewN _) (Nat.add_assoc _ _ _))⟩ | exact ⟨rfl, _, rfl⟩)) | (go_at_call 19; (with_reducible refine (impl_in.calls _ _ _ _ _ H5.out).mono ?_); rintro e w' ⟨rfl, ⟨⟨nd, rfl⟩⟩⟩; (first | exact ⟨rfl, _, World.drewN_drewN _ _ _⟩ | exact ⟨rfl, _, Eq.trans (World.drewN_drewN _ _ _) (congrArg (World.drewN _) (Nat.add_assoc _ _ _))⟩ | exact ⟨rfl, _, rfl⟩)) | (go_at_call 20; (with_reducible refine (HCQ.out _ (by repeat (first | exact Drawn0.refl _ | apply Drawn0.step))).mono ?_); rintro e w' ⟨rfl, ⟨⟨nd, rfl⟩⟩⟩; (first | exact ⟨rfl, _, World.drewN_drewN _ _ _⟩ | exact ⟨rfl, _, Eq.trans (World.drewN_drewN _ _ _) (congrArg (World.drewN _) (Nat.add_assoc _ _ _))⟩ | exact ⟨rfl, _, rfl⟩)))
                  try go_wp2
                  go_meet
                  case rel => exact ⟨by first | rfl | simp [impl_BookOk.hdr, *], SM, ⟨(by (with_reducible repeat (first | refine blk_drewN ?_ _ | refine blk_drew ?_ | refine blk_alloc ?_ _)); exact BKS.out)⟩, ⟨(by (with_reducible repeat (first | refine blk_drewN ?_ _ | refine blk_drew ?_ | refine blk_alloc ?_ _)); exact BKD.out)⟩, ⟨(by repeat (first | (with_reducible first | exact HB.out | apply below_alloc | apply pw_below_drewN | apply below_drew1) | exact HB.out))⟩⟩
                · have e2 : decide (pv ≥ f0) = false := decide_eq_false h2b
                  have e2b : decide (f0 ≤ pv) = false := decide_eq_false h2b
                  clear h2b
                  cases a3 with
                  | false =>
                    go_quiet (first | (go_at_call 16; (with_reducible refine (impl_idRight.calls _ _ _ H1.out).mono ?_); rintro e w' ⟨rfl, ⟨⟨nd, rfl⟩⟩⟩; (first | exact ⟨rfl, _, World.drewN_drewN _ _ _⟩ | exact ⟨rfl, _, Eq.trans (World.drewN_drewN _ _ _) (congrArg (World.drewN _) (Nat.add_assoc _ _ _))⟩ | exact ⟨rfl, _, rfl⟩)) | (go_at_call 17; (with_reducible refine (impl_nameOk.calls _ _ _ _ H3.out).mono ?_); rintro e w' ⟨rfl, ⟨⟨nd, rfl⟩⟩⟩; (first | exact ⟨rfl, _, World.drewN_drewN _ _ _⟩ | exact ⟨rfl, _, Eq.trans (World.drewN_drewN _ _ _) (congrArg (World.drewN _) (Nat.add_assoc _ _ _))⟩ | exact ⟨rfl, _, rfl⟩)) | (go_at_call 18; (with_reducible refine (impl_emptyOrName.calls _ _ _ _ H4.out).mono ?_); rintro e w' ⟨rfl, ⟨⟨nd, rfl⟩⟩⟩; (first | exact ⟨rfl, _, World.drewN_drewN _ _ _⟩ | exact ⟨rfl, _, Eq.trans (World.drewN_drewN _ _ _) (congrArg (World.drewN _) (Nat.add_assoc _ _ _))⟩ | exact ⟨rfl, _, rfl⟩)) | (go_at_call 19; (with_reducible refine (impl_in.calls _ _ _ _ _ H5.out).mono ?_); rintro e w' ⟨rfl, ⟨⟨nd, rfl⟩⟩⟩; (first | exact ⟨rfl, _, World.drewN_drewN _ _ _⟩ | exact ⟨rfl, _, Eq.trans (World.drewN_drewN _ _ _) (congrArg (World.drewN _) (Nat.add_assoc _ _ _))⟩ | exact ⟨rfl, _, rfl⟩)) | (go_at_call 20; (with_reducible refine (HCQ.out _ (by repeat (first | exact Drawn0.refl _ | apply Drawn0.step))).mono ?_); rintro e w' ⟨rfl, ⟨⟨nd, rfl⟩⟩⟩; (first | exact ⟨rfl, _, World.drewN_drewN _ _ _⟩ | exact ⟨rfl, _, Eq.trans (World.drewN_drewN _ _ _) (congrArg (World.drewN _) (Nat.add_assoc _ _ _))⟩ | exact ⟨rfl, _, rfl⟩)))
                    try go_wp2
                    go_meet
                    case rel => exact ⟨by first | rfl | simp [impl_BookOk.hdr, *], SM, ⟨(by (with_reducible repeat (first | refine blk_drewN ?_ _ | refine blk_drew ?_ | refine blk_alloc ?_ _)); exact BKS.out)⟩, ⟨(by (with_reducible repeat (first | refine blk_drewN ?_ _ | refine blk_drew ?_ | refine blk_alloc ?_ _)); exact BKD.out)⟩, ⟨(by repeat (first | (with_reducible first | exact HB.out | apply below_alloc | apply pw_below_drewN | apply below_drew1) | exact HB.out))⟩⟩
                  | true =>
                    cases a4 with
                    | false =>
                      go_quiet (first | (go_at_call 16; (with_reducible refine (impl_idRight.calls _ _ _ H1.out).mono ?_); rintro e w' ⟨rfl, ⟨⟨nd, rfl⟩⟩⟩; (first | exact ⟨rfl, _, World.drewN_drewN _ _ _⟩ | exact ⟨rfl, _, Eq.trans (World.drewN_drewN _ _ _) (congrArg (World.drewN _) (Nat.add_assoc _ _ _))⟩ | exact ⟨rfl, _, rfl⟩)) | (go_at_call 17; (with_reducible refine (impl_nameOk.calls _ _ _ _ H3.out).mono ?_); rintro e w' ⟨rfl, ⟨⟨nd, rfl⟩⟩⟩; (first | exact ⟨rfl, _, World.drewN_drewN _ _ _⟩ | exact ⟨rfl, _, Eq.trans (World.drewN_drewN _ _ _) (congrArg (World.drewN _) (Nat.add_assoc _ _ _))⟩ | exact ⟨rfl, _, rfl⟩)) | (go_at_call 18; (with_reducible refine (impl_emptyOrName.calls _ _ _ _ H4.out).mono ?_); rintro e w' ⟨rfl, ⟨⟨nd, rfl⟩⟩⟩; (first | exact ⟨rfl, _, World.drewN_drewN _ _ _⟩ | exact ⟨rfl, _, Eq.trans (World.drewN_drewN _ _ _) (congrArg (World.drewN _) (Nat.add_assoc _ _ _))⟩ | exact ⟨rfl, _, rfl⟩)) | (go_at_call 19; (with_reducible refine (impl_in.calls _ _ _ _ _ H5.out).mono ?_); rintro e w' ⟨rfl, ⟨⟨nd, rfl⟩⟩⟩; (first | exact ⟨rfl, _, World.drewN_drewN _ _ _⟩ | exact ⟨rfl, _, Eq.trans (World.drewN_drewN _ _ _) (congrArg (World.drewN _) (Nat.add_assoc _ _ _))⟩ | exact ⟨rfl, _, rfl⟩)) | (go_at_call 20; (with_reducible refine (HCQ.out _ (by repeat (first | exact Drawn0.refl _ | apply Drawn0.step))).mono ?_); rintro e w' ⟨rfl, ⟨⟨nd, rfl⟩⟩⟩; (first | exact ⟨rfl, _, World.drewN_drewN _ _ _⟩ | exact ⟨rfl, _, Eq.trans (World.drewN_drewN _ _ _) (congrArg (World.drewN _) (Nat.add_assoc _ _ _))⟩ | exact ⟨rfl, _, rfl⟩)))
                      try go_wp2
                      go_meet
                      case rel => exact ⟨by first | rfl | simp [impl_BookOk.hdr, *], SM, ⟨(by (with_reducible repeat (first | refine blk_drewN ?_ _ | refine blk_drew ?_ | refine blk_alloc ?_ _)); exact BKS.out)⟩, ⟨(by (with_reducible repeat (first | refine blk_drewN ?_ _ | refine blk_drew ?_ | refine blk_alloc ?_ _)); exact BKD.out)⟩, ⟨(by repeat (first | (with_reducible first | exact HB.out | apply below_alloc | apply pw_below_drewN | apply below_drew1) | exact HB.out))⟩⟩
                    | true =>
                      cases a5 with
                      | false =>
                        go_quiet (first | (go_at_call 16; (with_reducible refine (impl_idRight.calls _ _ _ H1.out).mono ?_); rintro e w' ⟨rfl, ⟨⟨nd, rfl⟩⟩⟩; (first | exact ⟨rfl, _, World.drewN_drewN _ _ _⟩ | exact ⟨rfl, _, Eq.trans (World.drewN_drewN _ _ _) (congrArg (World.drewN _) (Nat.add_assoc _ _ _))⟩ | exact ⟨rfl, _, rfl⟩)) | (go_at_call 17; (with_reducible refine (impl_nameOk.calls _ _ _ _ H3.out).mono ?_); rintro e w' ⟨rfl, ⟨⟨nd, rfl⟩⟩⟩; (first | exact ⟨rfl, _, World.drewN_drewN _ _ _⟩ | exact ⟨rfl, _, Eq.trans (World.drewN_drewN _ _ _) (congrArg (World.drewN _) (Nat.add_assoc _ _ _))⟩ | exact ⟨rfl, _, rfl⟩)) | (go_at_call 18; (with_reducible refine (impl_emptyOrName.calls _ _ _ _ H4.out).mono ?_); rintro e w' ⟨rfl, ⟨⟨nd, rfl⟩⟩⟩; (first | exact ⟨rfl, _, World.drewN_drewN _ _ _⟩ | exact ⟨rfl, _, Eq.trans (World.drewN_drewN _ _ _) (congrArg (World.drewN _) (Nat.add_assoc _ _ _))⟩ | exact ⟨rfl, _, rfl⟩)) | (go_at_call 19; (with_reducible refine (impl_in.calls _ _ _ _ _ H5.out).mono ?_); rintro e w' ⟨rfl, ⟨⟨nd, rfl⟩⟩⟩; (first | exact ⟨rfl, _, World.drewN_drewN _ _ _⟩ | exact ⟨rfl, _, Eq.trans (World.drewN_drewN _ _ _) (congrArg (World.drewN _) (Nat.add_assoc _ _ _))⟩ | exact ⟨rfl, _, rfl⟩)) | (go_at_call 20; (with_reducible refine (HCQ.out _ (by repeat (first | exact Drawn0.refl _ | apply Drawn0.step))).mono ?_); rintro e w' ⟨rfl, ⟨⟨nd, rfl⟩⟩⟩; (first | exact ⟨rfl, _, World.drewN_drewN _ _ _⟩ | exact ⟨rfl, _, Eq.trans (World.drewN_drewN _ _ _) (congrArg (World.drewN _) (Nat.add_assoc _ _ _))⟩ | exact ⟨rfl, _, rfl⟩)))
                        try go_wp2
                        go_meet
                        case rel => exact ⟨by first | rfl | simp [impl_BookOk.hdr, *], SM, ⟨(by (with_reducible repeat (first | refine blk_drewN ?_ _ | refine blk_drew ?_ | refine blk_alloc ?_ _)); exact BKS.out)⟩, ⟨(by (with_reducible repeat (first | refine blk_drewN ?_ _ | refine blk_drew ?_ | refine blk_alloc ?_ _)); exact BKD.out)⟩, ⟨(by repeat (first | (with_reducible first | exact HB.out | apply below_alloc | apply pw_below_drewN | apply below_drew1) | exact HB.out))⟩⟩
                      | true =>
                        by_cases h6 : (f4.length : Int) = f3
                        · have e60 : ((f4.length : Int) == f3) = true := beq_iff_eq.2 h6
                          have e61 : ((f4.length : Int) != f3) = false := bne_eq_false_iff_eq.2 h6
                          clear h6
                          go_quiet (first | (go_at_call 16; (with_reducible refine (impl_idRight.calls _ _ _ H1.out).mono ?_); rintro e w' ⟨rfl, ⟨⟨nd, rfl⟩⟩⟩; (first | exact ⟨rfl, _, World.drewN_drewN _ _ _⟩ | exact ⟨rfl, _, Eq.trans (World.drewN_drewN _ _ _) (congrArg (World.drewN _) (Nat.add_assoc _ _ _))⟩ | exact ⟨rfl, _, rfl⟩)) | (go_at_call 17; (with_reducible refine (impl_nameOk.calls _ _ _ _ H3.out).mono ?_); rintro e w' ⟨rfl, ⟨⟨nd, rfl⟩⟩⟩; (first | exact ⟨rfl, _, World.drewN_drewN _ _ _⟩ | exact ⟨rfl, _, Eq.trans (World.drewN_drewN _ _ _) (congrArg (World.drewN _) (Nat.add_assoc _ _ _))⟩ | exact ⟨rfl, _, rfl⟩)) | (go_at_call 18; (with_reducible refine (impl_emptyOrName.calls _ _ _ _ H4.out).mono ?_); rintro e w' ⟨rfl, ⟨⟨nd, rfl⟩⟩⟩; (first | exact ⟨rfl, _, World.drewN_drewN _ _ _⟩ | exact ⟨rfl, _, Eq.trans (World.drewN_drewN _ _ _) (congrArg (World.drewN _) (Nat.add_assoc _ _ _))⟩ | exact ⟨rfl, _, rfl⟩)) | (go_at_call 19; (with_reducible refine (impl_in.calls _ _ _ _ _ H5.out).mono ?_); rintro e w' ⟨rfl, ⟨⟨nd, rfl⟩⟩⟩; (first | exact ⟨rfl, _, World.drewN_drewN _ _ _⟩ | exact ⟨rfl, _, Eq.trans (World.drewN_drewN _ _ _) (congrArg (World.drewN _) (Nat.add_assoc _ _ _))⟩ | exact ⟨rfl, _, rfl⟩)) | (go_at_call 20; (with_reducible refine (HCQ.out _ (by repeat (first | exact Drawn0.refl _ | apply Drawn0.step))).mono ?_); rintro e w' ⟨rfl, ⟨⟨nd, rfl⟩⟩⟩; (first | exact ⟨rfl, _, World.drewN_drewN _ _ _⟩ | exact ⟨rfl, _, Eq.trans (World.drewN_drewN _ _ _) (congrArg (World.drewN _) (Nat.add_assoc _ _ _))⟩ | exact ⟨rfl, _, rfl⟩)))
                          try go_wp2
                          go_meet
                          case rel => exact ⟨by first | rfl | simp [impl_BookOk.hdr, *], SM, ⟨(by (with_reducible repeat (first | refine blk_drewN ?_ _ | refine blk_drew ?_ | refine blk_alloc ?_ _)); exact BKS.out)⟩, ⟨(by (with_reducible repeat (first | refine blk_drewN ?_ _ | refine blk_drew ?_ | refine blk_alloc ?_ _)); exact BKD.out)⟩, ⟨(by repeat (first | (with_reducible first | exact HB.out | apply below_alloc | apply pw_below_drewN | apply below_drew1) | exact HB.out))⟩⟩
                        · have e60 : ((f4.length : Int) == f3) = false := beq_eq_false_iff_ne.2 h6
                          have e61 : ((f4.length : Int) != f3) = true := bne_iff_ne.2 h6
                          clear h6
                          go_quiet (first | (go_at_call 16; (with_reducible refine (impl_idRight.calls _ _ _ H1.out).mono ?_); rintro e w' ⟨rfl, ⟨⟨nd, rfl⟩⟩⟩; (first | exact ⟨rfl, _, World.drewN_drewN _ _ _⟩ | exact ⟨rfl, _, Eq.trans (World.drewN_drewN _ _ _) (congrArg (World.drewN _) (Nat.add_assoc _ _ _))⟩ | exact ⟨rfl, _, rfl⟩)) | (go_at_call 17; (with_reducible refine (impl_nameOk.calls _ _ _ _ H3.out).mono ?_); rintro e w' ⟨rfl, ⟨⟨nd, rfl⟩⟩⟩; (first | exact ⟨rfl, _, World.drewN_drewN _ _ _⟩ | exact ⟨rfl, _, Eq.trans (World.drewN_drewN _ _ _) (congrArg (World.drewN _) (Nat.add_assoc _ _ _))⟩ | exact ⟨rfl, _, rfl⟩)) | (go_at_call 18; (with_reducible refine (impl_emptyOrName.calls _ _ _ _ H4.out).mono ?_); rintro e w' ⟨rfl, ⟨⟨nd, rfl⟩⟩⟩; (first | exact ⟨rfl, _, World.drewN_drewN _ _ _⟩ | exact ⟨rfl, _, Eq.trans (World.drewN_drewN _ _ _) (congrArg (World.drewN _) (Nat.add_assoc _ _ _))⟩ | exact ⟨rfl, _, rfl⟩)) | (go_at_call 19; (with_reducible refine (impl_in.calls _ _ _ _ _ H5.out).mono ?_); rintro e w' ⟨rfl, ⟨⟨nd, rfl⟩⟩⟩; (first | exact ⟨rfl, _, World.drewN_drewN _ _ _⟩ | exact ⟨rfl, _, Eq.trans (World.drewN_drewN _ _ _) (congrArg (World.drewN _) (Nat.add_assoc _ _ _))⟩ | exact ⟨rfl, _, rfl⟩)) | (go_at_call 20; (with_reducible refine (HCQ.out _ (by repeat (first | exact Drawn0.refl _ | apply Drawn0.step))).mono ?_); rintro e w' ⟨rfl, ⟨⟨nd, rfl⟩⟩⟩; (first | exact ⟨rfl, _, World.drewN_drewN _ _ _⟩ | exact ⟨rfl, _, Eq.trans (World.drewN_drewN _ _ _) (congrArg (World.drewN _) (Nat.add_assoc _ _ _))⟩ | exact ⟨rfl, _, rfl⟩)))
                          try go_wp2
                          go_meet
                          case rel => exact ⟨by first | rfl | simp [impl_BookOk.hdr, *], SM, ⟨(by (with_reducible repeat (first | refine blk_drewN ?_ _ | refine blk_drew ?_ | refine blk_alloc ?_ _)); exact BKS.out)⟩, ⟨(by (with_reducible repeat (first | refine blk_drewN ?_ _ | refine blk_drew ?_ | refine blk_alloc ?_ _)); exact BKD.out)⟩, ⟨(by repeat (first | (with_reducible first | exact HB.out | apply below_alloc | apply pw_below_drewN | apply below_drew1) | exact HB.out))⟩⟩
              · have e20 : decide (0 < i) = false := decide_eq_false h2
                have e21 : decide (i > 0) = false := decide_eq_false h2
                cases a3 with
                | false =>
                  go_quiet (first | (go_at_call 16; (with_reducible refine (impl_idRight.calls _ _ _ H1.out).mono ?_); rintro e w' ⟨rfl, ⟨⟨nd, rfl⟩⟩⟩; (first | exact ⟨rfl, _, World.drewN_drewN _ _ _⟩ | exact ⟨rfl, _, Eq.trans (World.drewN_drewN _ _ _) (congrArg (World.drewN _) (Nat.add_assoc _ _ _))⟩ | exact ⟨rfl, _, rfl⟩)) | (go_at_call 17; (with_reducible refine (impl_nameOk.calls _ _ _ _ H3.out).mono ?_); rintro e w' ⟨rfl, ⟨⟨nd, rfl⟩⟩⟩; (first | exact ⟨rfl, _, World.drewN_drewN _ _ _⟩ | exact ⟨rfl, _, Eq.trans (World.drewN_drewN _ _ _) (congrArg (World.drewN _) (Nat.add_assoc _ _ _))⟩ | exact ⟨rfl, _, rfl⟩)) | (go_at_call 18; (with_reducible refine (impl_emptyOrName.calls _ _ _ _ H4.out).mono ?_); rintro e w' ⟨rfl, ⟨⟨nd, rfl⟩⟩⟩; (first | exact ⟨rfl, _, World.drewN_drewN _ _ _⟩ | exact ⟨rfl, _, Eq.trans (World.drewN_drewN _ _ _) (congrArg (World.drewN _) (Nat.add_assoc _ _ _))⟩ | exact ⟨rfl, _, rfl⟩)) | (go_at_call 19; (with_reducible refine (impl_in.calls _ _ _ _ _ H5.out).mono ?_); rintro e w' ⟨rfl, ⟨⟨nd, rfl⟩⟩⟩; (first | exact ⟨rfl, _, World.drewN_drewN _ _ _⟩ | exact ⟨rfl, _, Eq.trans (World.drewN_drewN _ _ _) (congrArg (World.drewN _) (Nat.add_assoc _ _ _))⟩ | exact ⟨rfl, _, rfl⟩)) | (go_at_call 20; (with_reducible refine (HCQ.out _ (by repeat (first | exact Drawn0.refl _ | apply Drawn0.step))).mono ?_); rintro e w' ⟨rfl, ⟨⟨nd, rfl⟩⟩⟩; (first | exact ⟨rfl, _, World.drewN_drewN _ _ _⟩ | exact ⟨rfl, _, Eq.trans (World.drewN_drewN _ _ _) (congrArg (World.drewN _) (Nat.add_assoc _ _ _))⟩ | exact ⟨rfl, _, rfl⟩)))
                  try go_wp2
                  go_meet
                  case rel => exact ⟨by first | rfl | simp [impl_BookOk.hdr, *], SM, ⟨(by (with_reducible repeat (first | refine blk_drewN ?_ _ | refine blk_drew ?_ | refine blk_alloc ?_ _)); exact BKS.out)⟩, ⟨(by (with_reducible repeat (first | refine blk_drewN ?_ _ | refine blk_drew ?_ | refine blk_alloc ?_ _)); exact BKD.out)⟩, ⟨(by repeat (first | (with_reducible first | exact HB.out | apply below_alloc | apply pw_below_drewN | apply below_drew1) | exact HB.out))⟩⟩
                | true =>
                  cases a4 with
                  | false =>
                    go_quiet (first | (go_at_call 16; (with_reducible refine (impl_idRight.calls _ _ _ H1.out).mono ?_); rintro e w' ⟨rfl, ⟨⟨nd, rfl⟩⟩⟩; (first | exact ⟨rfl, _, World.drewN_drewN _ _ _⟩ | exact ⟨rfl, _, Eq.trans (World.drewN_drewN _ _ _) (congrArg (World.drewN _) (Nat.add_assoc _ _ _))⟩ | exact ⟨rfl, _, rfl⟩)) | (go_at_call 17; (with_reducible refine (impl_nameOk.calls _ _ _ _ H3.out).mono ?_); rintro e w' ⟨rfl, ⟨⟨nd, rfl⟩⟩⟩; (first | exact ⟨rfl, _, World.drewN_drewN _ _ _⟩ | exact ⟨rfl, _, Eq.trans (World.drewN_drewN _ _ _) (congrArg (World.drewN _) (Nat.add_assoc _ _ _))⟩ | exact ⟨rfl, _, rfl⟩)) | (go_at_call 18; (with_reducible refine (impl_emptyOrName.calls _ _ _ _ H4.out).mono ?_); rintro e w' ⟨rfl, ⟨⟨nd, rfl⟩⟩⟩; (first | exact ⟨rfl, _, World.drewN_drewN _ _ _⟩ | exact ⟨rfl, _, Eq.trans (World.drewN_drewN _ _ _) (congrArg (World.drewN _) (Nat.add_assoc _ _ _))⟩ | exact ⟨rfl, _, rfl⟩)) | (go_at_call 19; (with_reducible refine (impl_in.calls _ _ _ _ _ H5.out).mono ?_); rintro e w' ⟨rfl, ⟨⟨nd, rfl⟩⟩⟩; (first | exact ⟨rfl, _, World.drewN_drewN _ _ _⟩ | exact ⟨rfl, _, Eq.trans (World.drewN_drewN _ _ _) (congrArg (World.drewN _) (Nat.add_assoc _ _ _))⟩ | exact ⟨rfl, _, rfl⟩)) | (go_at_call 20; (with_reducible refine (HCQ.out _ (by repeat (first | exact Drawn0.refl _ | apply Drawn0.step))).mono ?_); rintro e w' ⟨rfl, ⟨⟨nd, rfl⟩⟩⟩; (first | exact ⟨rfl, _, World.drewN_drewN _ _ _⟩ | exact ⟨rfl, _, Eq.trans (World.drewN_drewN _ _ _) (congrArg (World.drewN _) (Nat.add_assoc _ _ _))⟩ | exact ⟨rfl, _, rfl⟩)))
                    try go_wp2
                    go_meet
                    case rel => exact ⟨by first | rfl | simp [impl_BookOk.hdr, *], SM, ⟨(by (with_reducible repeat (first | refine blk_drewN ?_ _ | refine blk_drew ?_ | refine blk_alloc ?_ _)); exact BKS.out)⟩, ⟨(by (with_reducible repeat (first | refine blk_drewN ?_ _ | refine blk_drew ?_ | refine blk_alloc ?_ _)); exact BKD.out)⟩, ⟨(by repeat (first | (with_reducible first | exact HB.out | apply below_alloc | apply pw_below_drewN | apply below_drew1) | exact HB.out))⟩⟩
                  | true =>
                    cases a5 with
                    | false =>
                      go_quiet (first | (go_at_call 16; (with_reducible refine (impl_idRight.calls _ _ _ H1.out).mono ?_); rintro e w' ⟨rfl, ⟨⟨nd, rfl⟩⟩⟩; (first | exact ⟨rfl, _, World.drewN_drewN _ _ _⟩ | exact ⟨rfl, _, Eq.trans (World.drewN_drewN _ _ _) (congrArg (World.drewN _) (Nat.add_assoc _ _ _))⟩ | exact ⟨rfl, _, rfl⟩)) | (go_at_call 17; (with_reducible refine (impl_nameOk.calls _ _ _ _ H3.out).mono ?_); rintro e w' ⟨rfl, ⟨⟨nd, rfl⟩⟩⟩; (first | exact ⟨rfl, _, World.drewN_drewN _ _ _⟩ | exact ⟨rfl, _, Eq.trans (World.drewN_drewN _ _ _) (congrArg (World.drewN _) (Nat.add_assoc _ _ _))⟩ | exact ⟨rfl, _, rfl⟩)) | (go_at_call 18; (with_reducible refine (impl_emptyOrName.calls _ _ _ _ H4.out).mono ?_); rintro e w' ⟨rfl, ⟨⟨nd, rfl⟩⟩⟩; (first | exact ⟨rfl, _, World.drewN_drewN _ _ _⟩ | exact ⟨rfl, _, Eq.trans (World.drewN_drewN _ _ _) (congrArg (World.drewN _) (Nat.add_assoc _ _ _))⟩ | exact ⟨rfl, _, rfl⟩)) | (go_at_call 19; (with_reducible refine (impl_in.calls _ _ _ _ _ H5.out).mono ?_); rintro e w' ⟨rfl, ⟨⟨nd, rfl⟩⟩⟩; (first | exact ⟨rfl, _, World.drewN_drewN _ _ _⟩ | exact ⟨rfl, _, Eq.trans (World.drewN_drewN _ _ _) (congrArg (World.drewN _) (Nat.add_assoc _ _ _))⟩ | exact ⟨rfl, _, rfl⟩)) | (go_at_call 20; (with_reducible refine (HCQ.out _ (by repeat (first | exact Drawn0.refl _ | apply Drawn0.step))).mono ?_); rintro e w' ⟨rfl, ⟨⟨nd, rfl⟩⟩⟩; (first | exact ⟨rfl, _, World.drewN_drewN _ _ _⟩ | exact ⟨rfl, _, Eq.trans (World.drewN_drewN _ _ _) (congrArg (World.drewN _) (Nat.add_assoc _ _ _))⟩ | exact ⟨rfl, _, rfl⟩)))
                      try go_wp2
                      go_meet
                      case rel => exact ⟨by first | rfl | simp [impl_BookOk.hdr, *], SM, ⟨(by (with_reducible repeat (first | refine blk_drewN ?_ _ | refine blk_drew ?_ | refine blk_alloc ?_ _)); exact BKS.out)⟩, ⟨(by (with_reducible repeat (first | refine blk_drewN ?_ _ | refine blk_drew ?_ | refine blk_alloc ?_ _)); exact BKD.out)⟩, ⟨(by repeat (first | (with_reducible first | exact HB.out | apply below_alloc | apply pw_below_drewN | apply below_drew1) | exact HB.out))⟩⟩
                    | true =>
                      by_cases h6 : (f4.length : Int) = f3
                      · have e60 : ((f4.length : Int) == f3) = true := beq_iff_eq.2 h6
                        have e61 : ((f4.length : Int) != f3) = false := bne_eq_false_iff_eq.2 h6
                        clear h6
                        go_quiet (first | (go_at_call 16; (with_reducible refine (impl_idRight.calls _ _ _ H1.out).mono ?_); rintro e w' ⟨rfl, ⟨⟨nd, rfl⟩⟩⟩; (first | exact ⟨rfl, _, World.drewN_drewN _ _ _⟩ | exact ⟨rfl, _, Eq.trans (World.drewN_drewN _ _ _) (congrArg (World.drewN _) (Nat.add_assoc _ _ _))⟩ | exact ⟨rfl, _, rfl⟩)) | (go_at_call 17; (with_reducible refine (impl_nameOk.calls _ _ _ _ H3.out).mono ?_); rintro e w' ⟨rfl, ⟨⟨nd, rfl⟩⟩⟩; (first | exact ⟨rfl, _, World.drewN_drewN _ _ _⟩ | exact ⟨rfl, _, Eq.trans (World.drewN_drewN _ _ _) (congrArg (World.drewN _) (Nat.add_assoc _ _ _))⟩ | exact ⟨rfl, _, rfl⟩)) | (go_at_call 18; (with_reducible refine (impl_emptyOrName.calls _ _ _ _ H4.out).mono ?_); rintro e w' ⟨rfl, ⟨⟨nd, rfl⟩⟩⟩; (first | exact ⟨rfl, _, World.drewN_drewN _ _ _⟩ | exact ⟨rfl, _, Eq.trans (World.drewN_drewN _ _ _) (congrArg (World.drewN _) (Nat.add_assoc _ _ _))⟩ | exact ⟨rfl, _, rfl⟩)) | (go_at_call 19; (with_reducible refine (impl_in.calls _ _ _ _ _ H5.out).mono ?_); rintro e w' ⟨rfl, ⟨⟨nd, rfl⟩⟩⟩; (first | exact ⟨rfl, _, World.drewN_drewN _ _ _⟩ | exact ⟨rfl, _, Eq.trans (World.drewN_drewN _ _ _) (congrArg (World.drewN _) (Nat.add_assoc _ _ _))⟩ | exact ⟨rfl, _, rfl⟩)) | (go_at_call 20; (with_reducible refine (HCQ.out _ (by repeat (first | exact Drawn0.refl _ | apply Drawn0.step))).mono ?_); rintro e w' ⟨rfl, ⟨⟨nd, rfl⟩⟩⟩; (first | exact ⟨rfl, _, World.drewN_drewN _ _ _⟩ | exact ⟨rfl, _, Eq.trans (World.drewN_drewN _ _ _) (congrArg (World.drewN _) (Nat.add_assoc _ _ _))⟩ | exact ⟨rfl, _, rfl⟩)))
                        try go_wp2
                        go_meet
                        case rel => exact ⟨by first | rfl | simp [impl_BookOk.hdr, *], SM, ⟨(by (with_reducible repeat (first | refine blk_drewN ?_ _ | refine blk_drew ?_ | refine blk_alloc ?_ _)); exact BKS.out)⟩, ⟨(by (with_reducible repeat (first | refine blk_drewN ?_ _ | refine blk_drew ?_ | refine blk_alloc ?_ _)); exact BKD.out)⟩, ⟨(by repeat (first | (with_reducible first | exact HB.out | apply below_alloc | apply pw_below_drewN | apply below_drew1) | exact HB.out))⟩⟩
                      · have e60 : ((f4.length : Int) == f3) = false := beq_eq_false_iff_ne.2 h6
                        have e61 : ((f4.length : Int) != f3) = true := bne_iff_ne.2 h6
                        clear h6
                        go_quiet (first | (go_at_call 16; (with_reducible refine (impl_idRight.calls _ _ _ H1.out).mono ?_); rintro e w' ⟨rfl, ⟨⟨nd, rfl⟩⟩⟩; (first | exact ⟨rfl, _, World.drewN_drewN _ _ _⟩ | exact ⟨rfl, _, Eq.trans (World.drewN_drewN _ _ _) (congrArg (World.drewN _) (Nat.add_assoc _ _ _))⟩ | exact ⟨rfl, _, rfl⟩)) | (go_at_call 17; (with_reducible refine (impl_nameOk.calls _ _ _ _ H3.out).mono ?_); rintro e w' ⟨rfl, ⟨⟨nd, rfl⟩⟩⟩; (first | exact ⟨rfl, _, World.drewN_drewN _ _ _⟩ | exact ⟨rfl, _, Eq.trans (World.drewN_drewN _ _ _) (congrArg (World.drewN _) (Nat.add_assoc _ _ _))⟩ | exact ⟨rfl, _, rfl⟩)) | (go_at_call 18; (with_reducible refine (impl_emptyOrName.calls _ _ _ _ H4.out).mono ?_); rintro e w' ⟨rfl, ⟨⟨nd, rfl⟩⟩⟩; (first | exact ⟨rfl, _, World.drewN_drewN _ _ _⟩ | exact ⟨rfl, _, Eq.trans (World.drewN_drewN _ _ _) (congrArg (World.drewN _) (Nat.add_assoc _ _ _))⟩ | exact ⟨rfl, _, rfl⟩)) | (go_at_call 19; (with_reducible refine (impl_in.calls _ _ _ _ _ H5.out).mono ?_); rintro e w' ⟨rfl, ⟨⟨nd, rfl⟩⟩⟩; (first | exact ⟨rfl, _, World.drewN_drewN _ _ _⟩ | exact ⟨rfl, _, Eq.trans (World.drewN_drewN _ _ _) (congrArg (World.drewN _) (Nat.add_assoc _ _ _))⟩ | exact ⟨rfl, _, rfl⟩)) | (go_at_call 20; (with_reducible refine (HCQ.out _ (by repeat (first | exact Drawn0.refl _ | apply Drawn0.step))).mono ?_); rintro e w' ⟨rfl, ⟨⟨nd, rfl⟩⟩⟩; (first | exact ⟨rfl, _, World.drewN_drewN _ _ _⟩ | exact ⟨rfl, _, Eq.trans (World.drewN_drewN _ _ _) (congrArg (World.drewN _) (Nat.add_assoc _ _ _))⟩ | exact ⟨rfl, _, rfl⟩)))
                        try go_wp2
                        go_meet
                        case rel => exact ⟨by first | rfl | simp [impl_BookOk.hdr, *], SM, ⟨(by (with_reducible repeat (first | refine blk_drewN ?_ _ | refine blk_drew ?_ | refine blk_alloc ?_ _)); exact BKS.out)⟩, ⟨(by (with_reducible repeat (first | refine blk_drewN ?_ _ | refine blk_drew ?_ | refine blk_alloc ?_ _)); exact BKD.out)⟩, ⟨(by repeat (first | (with_reducible first | exact HB.out | apply below_alloc | apply pw_below_drewN | apply below_drew1) | exact HB.out))⟩⟩
          case rest =>
            clear SM BKS BKD HB HCQ HPV2
            obtain ⟨e71, SM, BKS, BKD, HB⟩ := hcut
            have hv := HV.out
            clear HV H1 H3 H4 H5
            have hccBKS_0 : wc.cell? ⟨gs, 0, none⟩ = some (.slice (some ad) l.length c0) := (blk_cell BKS.out 0).trans rfl; have hccBKS_1 : wc.cell? ⟨gs, 1, none⟩ = some (.slice A1 fr.length c1) := (blk_cell BKS.out 1).trans rfl; have hccBKD_0 : wc.cell? ⟨gd, 0, none⟩ = some (.int .i64 f0) := (blk_cell BKD.out 0).trans rfl; have hccBKD_1 : wc.cell? ⟨gd, 1, none⟩ = some (.string f1) := (blk_cell BKD.out 1).trans rfl; have hccBKD_2 : wc.cell? ⟨gd, 2, none⟩ = some (.string f2) := (blk_cell BKD.out 2).trans rfl; have hccBKD_3 : wc.cell? ⟨gd, 3, none⟩ = some (.int .i64 f3) := (blk_cell BKD.out 3).trans rfl; have hccBKD_4 : wc.cell? ⟨gd, 4, none⟩ = some (.slice A4 f4.length c4) := (blk_cell BKD.out 4).trans rfl; have hfcBKS_0 := blk_frozen BKS.out 0; have hfcBKS_1 := blk_frozen BKS.out 1; have hfcBKD_0 := blk_frozen BKD.out 0; have hfcBKD_1 := blk_frozen BKD.out 1; have hfcBKD_2 := blk_frozen BKD.out 2; have hfcBKD_3 := blk_frozen BKD.out 3; have hfcBKD_4 := blk_frozen BKD.out 4
            cases hq : impl_BookOk.hdr a1 (decide (0 < i) && decide (pv ≥ f0)) a3 a4 a5 ((f4.length : Int) != f3) a7 with
            | true =>
              rw [hq] at e71 hv
              subst e71
              have hr : r = false := by rw [← hv]; rfl
              subst hr
              clear hv hq
              go_wp2
              go_ret
              exact ⟨by first | rfl | (simp; done) | (simp [*]; done), (by repeat (first | (with_reducible first | exact HB.out | apply below_alloc | apply pw_below_drewN | apply below_drew1) | exact HB.out))⟩
            | false =>
              rw [hq] at e71 hv
              subst e71
              have ha1 : a1 = true := by cases a1 with
                | true => rfl
                | false => simp [impl_BookOk.hdr] at hq
              have HW1 := Aside0.mk (HWF.out ha1)
              have HV : Aside0 ((impl_BookOk.bills (impl_BookOk.nm k) (impl_BookOk.eo k) l (l.length - (i + 1).toNat) (i + 1) && impl_BookOk.freed l fr fr.length 0) = r) := ⟨by rw [← hv]; simp⟩
              clear hv hq ha1 HWF
              go_wp2_with (first | (at_mapUpdate; (try (refine gate_guard (by rfl) ?_; dsimp only)); refine Mp.put (K := 3) (E := 4) (T := 44) SM.out rfl _ _ _ rfl Try.underlying3 Try.underlying44 Try.underlying4 (by unfold maxLen; have := HN.out; have := HLT.out; omega) rfl f0 rfl rfl HW1.out ?_; intro w6 hset hgr; have n0_ := Aside0.mk (pw_below_grown (by repeat (first | (with_reducible first | exact HB.out | apply below_alloc | apply pw_below_drewN | apply below_drew1) | exact HB.out)) (some bm) (below_size (by repeat (first | (with_reducible first | exact HB.out | apply below_alloc | apply pw_below_drewN | apply below_drew1) | exact HB.out))) hgr (fun k e => by cases e; exact Gbm.out)); have n1_ := Aside0.mk (blk_grown (g := gs) (o := .cells #[.slice (some ad) l.length c0, .slice A1 fr.length c1] 30 (0, 0)) (by (with_reducible repeat (first | refine blk_drewN ?_ _ | refine blk_drew ?_ | refine blk_alloc ?_ _)); exact BKS.out) hgr (SM.out.ne (by (with_reducible repeat (first | refine blk_drewN ?_ _ | refine blk_drew ?_ | refine blk_alloc ?_ _)); exact BKS.out))); have n2_ := Aside0.mk hset; clear HB BKS SM BKD hset hgr; have HB := n0_; have BKS := n1_; have SM := n2_; clear n0_ n1_ n2_))
              go_roundg (l.length - (i + 1).toNat)
              case measure => have := HI.out; have := HLT.out; omega
              case rel => exact ⟨i + 1, f0 :: acc, (by first | rfl | (rw [HW.out]) | (simp [HW.out])), ⟨by have := HI.out; have := HLT.out; omega⟩, HV, HACN, ⟨by rw [HLT.out.2.1]; exact SM.out⟩, BKS, HB⟩
        · have hii : i.toNat = l.length := by have := HI.out; omega
          have d0 : decide (i < (l.length : Int)) = false := decide_eq_false hlt
          have hv := HV.out
          rw [hii, Nat.sub_self, impl_BookOk.bills, Bool.true_and] at hv
          have hac : ∀ y, acc.contains y = l.any fun x => x.f0 == y := fun y => by rw [HAC.out, hii]; exact impl_BookOk.acc_has l y
          have HCO := Aside0.mk hac
          have HV := Aside0.mk hv
          clear hv hac hii hlt
          go_wp2
          go_loopg [79] fr.length (fun gg v79 wr => ∃ j : Int, v79 = .int .i64 j ∧ Aside0 (0 ≤ j ∧ j ≤ fr.length ∧ fr.length - j.toNat ≤ gg) ∧ Aside0 (impl_BookOk.freed l fr (fr.length - j.toNat) j = r) ∧ Aside0 (Mp.SetIs Try.prog 3 4 wr bm i.toNat acc) ∧ Aside0 (wr.heap[gs]? = some (.cells #[.slice A0 l.length c0, .slice A1 fr.length c1] 30 (0, 0))) ∧ Aside0 (Below w.heap.size w wr))
          case atStart => exact ⟨0, rfl, ⟨by omega⟩, HV, SM, BKS, HB⟩
          case round =>
            clear HV SM BKS HB
            obtain ⟨j, rfl, HJ, HV, SM, BKS, HB⟩ := hrel
            have hcfBKS_0 : wr.cell? ⟨gs, 0, none⟩ = some (.slice A0 l.length c0) := (blk_cell BKS.out 0).trans rfl; have hcfBKS_1 : wr.cell? ⟨gs, 1, none⟩ = some (.slice A1 fr.length c1) := (blk_cell BKS.out 1).trans rfl; have hffBKS_0 := blk_frozen BKS.out 0; have hffBKS_1 := blk_frozen BKS.out 1
            by_cases hlt : j < (fr.length : Int)
            · have h0 : 0 ≤ j := HJ.out.1
              have HLT := Aside0.mk (show j.toNat < fr.length ∧ (j + 1).toNat = j.toNat + 1 ∧ fr.length - j.toNat = (fr.length - (j + 1).toNat) + 1 by omega)
              have hmx := HR1.out.2.1
              have hw1 : wrap64 (j + 1) = j + 1 := by unfold wrap64; omega
              have HW := Aside0.mk hw1
              clear hw1
              have hv := HV.out
              rw [HLT.out.2.2, impl_BookOk.freed] at hv
              clear HV
              have hmem : rd fr j ∈ fr := by
                have : fr[j.toNat]'(HLT.out.1) = rd fr j := by simp [rd, List.getD, HLT.out.1]
                rw [← this]; exact List.getElem_mem _
              have hwf := List.all_eq_true.1 HG.out.2 _ hmem
              simp only [impl_BookOk.wfB, Bool.and_eq_true, decide_eq_true_eq] at hwf
              have HWF := Aside0.mk (Mp.wf_of hwf)
              clear hmem hwf
              have HPV : Aside0 (0 < j → w.cell? ((A1.getD ⟨0, 0, none⟩).add (j.toNat - 1)) = some (.int .i64 (rd fr (j - 1)))) := ⟨fun hj => by
                obtain ⟨ad, e, hx⟩ := Kd.at_int HR1.out (j - 1) (by omega) (by omega)
                subst e
                rw [show j.toNat - 1 = (j - 1).toNat by omega]; exact hx⟩
              obtain ⟨ad, e_, hx⟩ := Kd.at_int HR1.out j h0 hlt
              cases e_
              rw [show ((some ad : Option Addr).getD ⟨0, 0, none⟩) = ad from rfl] at HPV
              replace hx := pw_cell_below HB.out hx
              have HPV2 : Aside0 (0 < j → wr.cell? (ad.add (j.toNat - 1)) = some (.int .i64 (rd fr (j - 1)))) := ⟨fun h => pw_cell_below HB.out (HPV.out h)⟩
              have HCY := Aside0.mk (HCO.out (rd fr j))
              clear HPV
              generalize rd fr j = y at hx hv HWF HCY
              generalize rd fr (j - 1) = z at HPV2 hv
              generalize (l.any fun x => x.f0 == y) = cy at hv HCY
              have HV := Aside0.mk hv
              clear hv
              have d0 : decide (j < (fr.length : Int)) = true := decide_eq_true hlt
              have d1 : decide (0 ≤ j) = true := decide_eq_true h0
              have h0' := h0
              have hlt' := hlt
              replace h0 := eq_true h0
              replace hlt := eq_true hlt
              cases cy with
              | false =>
                have hr : r = false := by rw [← HV.out]; rfl
                subst hr
                clear HV hmx
                go_wp2_with (first | (at_lookup; (try (refine gate_guard (by rfl) ?_; dsimp only)); refine Mp.look (K := 3) (E := 4) (T := 44) SM.out rfl _ _ rfl Try.underlying3 Try.underlying44 Try.underlying4 (by kernel_rfl) rfl y rfl HWF.out ?_; rw [HCY.out]))
                go_ret
                exact ⟨by first | rfl | (simp; done) | (simp [*]; done), (by repeat (first | (with_reducible first | exact HB.out | apply below_alloc | apply pw_below_drewN | apply below_drew1) | exact HB.out))⟩
              | true =>
              by_cases h2 : 0 < j
              · have e20 : decide (0 < j) = true := decide_eq_true h2
                have e21 : decide (j > 0) = true := decide_eq_true h2
                have hpx := HPV2.out h2
                have g0 : (0 : Int) ≤ j - 1 := by omega
                have g1 : j - 1 < (fr.length : Int) := by omega
                have g3 : 1 ≤ j := by omega
                have g4 : j < (fr.length : Int) + 1 := by omega
                have g2 : IntKind.i64.wrap (j - 1) = j - 1 := by rw [IntKind.wrap_i64]; omega
                have g5 : wrap64 (j - 1) = j - 1 := by unfold wrap64; omega
                by_cases h2b : z ≥ y
                · have e2 : decide (z ≥ y) = true := decide_eq_true h2b
                  have e2b : decide (y ≤ z) = true := decide_eq_true h2b
                  have hr : r = false := by rw [← HV.out, e20, e2]; rfl
                  subst hr
                  clear HV hmx h2b
                  go_wp2_with (first | (at_lookup; (try (refine gate_guard (by rfl) ?_; dsimp only)); refine Mp.look (K := 3) (E := 4) (T := 44) SM.out rfl _ _ rfl Try.underlying3 Try.underlying44 Try.underlying4 (by kernel_rfl) rfl y rfl HWF.out ?_; rw [HCY.out]))
                  go_ret
                  exact ⟨by first | rfl | (simp; done) | (simp [*]; done), (by repeat (first | (with_reducible first | exact HB.out | apply below_alloc | apply pw_below_drewN | apply below_drew1) | exact HB.out))⟩
                · have e2 : decide (z ≥ y) = false := decide_eq_false h2b
                  have e2b : decide (y ≤ z) = false := decide_eq_false h2b
                  have HV2 : Aside0 (impl_BookOk.freed l fr (fr.length - (j + 1).toNat) (j + 1) = r) := ⟨by rw [← HV.out, e20, e2]; rfl⟩
                  clear HV hmx h2b
                  go_wp2_with (first | (at_lookup; (try (refine gate_guard (by rfl) ?_; dsimp only)); refine Mp.look (K := 3) (E := 4) (T := 44) SM.out rfl _ _ rfl Try.underlying3 Try.underlying44 Try.underlying4 (by kernel_rfl) rfl y rfl HWF.out ?_; rw [HCY.out]))
                  go_roundg (fr.length - (j + 1).toNat)
                  case measure => have := HJ.out; have := HLT.out; omega
                  case rel => exact ⟨j + 1, (by first | rfl | (rw [HW.out]) | (simp [HW.out])), ⟨by have := HJ.out; have := HLT.out; omega⟩, HV2, SM, BKS, HB⟩
              · have e20 : decide (0 < j) = false := decide_eq_false h2
                have e21 : decide (j > 0) = false := decide_eq_false h2
                have HV2 : Aside0 (impl_BookOk.freed l fr (fr.length - (j + 1).toNat) (j + 1) = r) := ⟨by rw [← HV.out, e20]; rfl⟩
                clear HV hmx
                go_wp2_with (first | (at_lookup; (try (refine gate_guard (by rfl) ?_; dsimp only)); refine Mp.look (K := 3) (E := 4) (T := 44) SM.out rfl _ _ rfl Try.underlying3 Try.underlying44 Try.underlying4 (by kernel_rfl) rfl y rfl HWF.out ?_; rw [HCY.out]))
                go_roundg (fr.length - (j + 1).toNat)
                case measure => have := HJ.out; have := HLT.out; omega
                case rel => exact ⟨j + 1, (by first | rfl | (rw [HW.out]) | (simp [HW.out])), ⟨by have := HJ.out; have := HLT.out; omega⟩, HV2, SM, BKS, HB⟩
            · have hjj : j.toNat = fr.length := by have := HJ.out; omega
              have d1 : decide (j < (fr.length : Int)) = false := decide_eq_false hlt
              have hv := HV.out
              rw [hjj, Nat.sub_self, impl_BookOk.freed] at hv
              subst hv
              clear hjj hlt HV
              go_wp2
              go_ret
              exact ⟨by first | rfl | (simp; done) | (simp [*]; done), (by repeat (first | (with_reducible first | exact HB.out | apply below_alloc | apply pw_below_drewN | apply below_drew1) | exact HB.out))⟩
  · rw [if_neg hg] at h; cases h


end Go.Proofs.Ythbmpegaogfibad.PB
