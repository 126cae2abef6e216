/- What Go's functions that the laws reach come to: laid by a program of this session over the print's words. -/
import Derived.Test.YthbmpegaogfibacPAx0
namespace Go.Proofs.Ythbmpegaogfibac.PA
open Go.RowKit Go.Proofs.YthbmpegaogfibacW.PrintWords Go.Proofs.YthbmpegaogfibacW.PrintLast Go.Proofs.YthbmpegaogfibacW.PrintMore
attribute [local go_sem] max2_int min2_int max_two min_two max_three min_three max_four min_four   -- for this text's walks alone
set_option linter.unusedVariables false
set_option linter.unusedSimpArgs false


/-! ### impl_Spell_21: function 21, at whatever predicate -/
set_option maxHeartbeats 4000000 in
set_option maxRecDepth 100000 in
theorem impl_Spell_21.callsP (g : Nat) (lb : Array Value) (p : S33 → Bool) (A0 : Option Addr) (c0 : Nat) (l0 : List (S33)) (w : World) (eg : ∀ args w, (callFunc g args).run Try.prog w = .ok (.enter g args) w)
    (hp : ∀ (W : World) (x : S33), x ∈ l0 → Below w.heap.size w W → Calls Try.prog g (#[.agg #[.int .i64 x.f0, .int .i64 x.f1]] ++ lb) W fun e w' => e = .returned (.bool (p x)) ∧ Below W.heap.size W w')
    (hr0 : Kd.C k33 w A0 l0.length l0) :
    Calls Try.prog 21 #[.slice A0 l0.length c0, .func (.func g) #[] lb] w fun e w' => e = .returned (.int .i64 (Gv.idxP p l0)) ∧ Below w.heap.size w w' := by
  have hn : l0.length ≤ 9223372036854775807 := hr0.2.1
  have HR := Aside0.mk hr0
  have HP := Aside0.mk hp
  clear hr0 hp
  have hu33 := Try.underlying33
  go_enter Try.func21, Try.ntmps21
  go_wp2
  go_loopg [5, 8] l0.length (fun gg _ s8 wr => ∃ i : Int, s8 = .int .i64 i ∧ Aside0 (0 ≤ i ∧ i ≤ l0.length ∧ l0.length - i.toNat ≤ gg) ∧ Aside0 (Below w.heap.size w wr) ∧ Aside0 (∀ j : Nat, j < i.toNat → ∀ x, l0[j]? = some x → p x = false))
  case atStart => exact ⟨0, rfl, ⟨by omega⟩, ⟨Below.refl _ w⟩, ⟨fun j hj => absurd hj (Nat.not_lt_zero _)⟩⟩
  case round =>
    obtain ⟨i, rfl, HI, BW, AA⟩ := hrel
    by_cases hlt : i < (l0.length : Int)
    · have h0 : 0 ≤ i := HI.out.1
      obtain ⟨ad, e_, hx0, hx1⟩ := at_T33 (Kd.C_below HR.out BW.out) i h0 hlt
      cases e_
      have hm : l0[i.toNat]? = some (rd_T33 l0 i) := by
        have hl : i.toNat < l0.length := by omega
        rw [List.getElem?_eq_getElem hl]; simp [rd_T33, List.getD, hl]
      have hcall := HP.out wr (rd_T33 l0 i) (List.mem_of_getElem? hm) BW.out
      have HM := Aside0.mk hm
      clear hm
      have hw1 : wrap64 (i + 1) = i + 1 := by unfold wrap64; omega
      have HW := Aside0.mk hw1
      clear hw1
      have c0b : decide (i < (l0.length : Int)) = true := decide_eq_true hlt
      have c1b : decide (0 ≤ i) = true := decide_eq_true h0
      have HLT := Aside0.mk (show i.toNat < l0.length ∧ (i + 1).toNat = i.toNat + 1 by omega)
      replace h0 := eq_true h0
      replace hlt := eq_true hlt
      cases hq : p (rd_T33 l0 i) with
      | true =>
        rw [hq] at hcall
        have HQ := Aside0.mk hq
        clear hq
        go_wp2_with (go_at_fn g; refine hcall.mono ?_; rintro e w' ⟨rfl, hb'⟩)
        go_ret
        exact ⟨by rw [Gv.idxP_hit p l0 i.toNat _ HM.out HQ.out AA.out]; rw [Int.toNat_of_nonneg HI.out.1]; first | done | rfl, below_then BW.out BW.out.size hb'⟩
      | false =>
        rw [hq] at hcall
        have HQ := Aside0.mk hq
        clear hq
        go_wp2_with (go_at_fn g; refine hcall.mono ?_; rintro e w' ⟨rfl, hb'⟩)
        go_roundg (l0.length - (i + 1).toNat)
        case measure => have := HI.out; have := HLT.out; omega
        case rel =>
          refine ⟨i + 1, (by first | rfl | (rw [HW.out]) | (simp [HW.out])), ⟨by have := HI.out; have := HLT.out; omega⟩, ⟨below_then BW.out BW.out.size hb'⟩, ⟨fun j hj x hx => ?_⟩⟩
          have h2 := HLT.out
          by_cases ej : j = i.toNat
          · subst ej
            have h3 := HM.out
            rw [hx] at h3
            rw [Option.some.inj h3]; exact HQ.out
          · exact AA.out j (by omega) x hx
    · have c0b : decide (i < (l0.length : Int)) = false := decide_eq_false hlt
      have HLT := Aside0.mk hlt
      clear hlt
      go_wp2
      go_ret
      exact ⟨by rw [Gv.idxP_miss p l0 (fun x hx => by
        obtain ⟨j, hj⟩ := List.getElem?_of_mem hx
        have h1 := (List.getElem?_eq_some_iff.1 hj).1
        have := HI.out; have := HLT.out
        exact AA.out j (by omega) x hj)]; first | done | rfl, BW.out⟩


/-! ### impl_Spell_16: function 16, at whatever predicate -/
set_option maxHeartbeats 4000000 in
set_option maxRecDepth 100000 in
theorem impl_Spell_16.callsP (g : Nat) (lb : Array Value) (p : S33 → Bool) (A0 : Option Addr) (c0 : Nat) (l0 : List (S33)) (w : World) (eg : ∀ args w, (callFunc g args).run Try.prog w = .ok (.enter g args) w)
    (hp : ∀ (W : World) (x : S33), x ∈ l0 → Below w.heap.size w W → Calls Try.prog g (#[.agg #[.int .i64 x.f0, .int .i64 x.f1]] ++ lb) W fun e w' => e = .returned (.bool (p x)) ∧ Below W.heap.size W w')
    (hr0 : Kd.C k33 w A0 l0.length l0) :
    Calls Try.prog 16 #[.slice A0 l0.length c0, .func (.func g) #[] lb] w fun e w' => e = .returned (.bool (l0.any p)) ∧ Below w.heap.size w w' := by
  have hcon := impl_Spell_21.callsP g lb p A0 c0 l0 w eg hp hr0
  rw [← Gv.idxP_any p l0]
  clear hp hr0
  generalize Gv.idxP p l0 = r at hcon ⊢
  go_enter Try.func16, Try.ntmps16
  go_wp2_with (go_at_call 21; refine hcon.mono ?_; rintro e w' ⟨rfl, hb⟩)
  go_ret
  exact ⟨rfl, hb⟩

/-! ### impl_RestCode_1: function 17 -/
def impl_RestCode_1.f (a0_0 : Int) (a0_1 : Int) : Option (Bool) := some (decide (a0_1 > 30000))
set_option maxHeartbeats 8000000 in
set_option maxRecDepth 100000 in
theorem impl_RestCode_1.calls (a0_0 : Int) (a0_1 : Int) (r : Bool) (w : World) (h : impl_RestCode_1.f a0_0 a0_1 = some r) :
    Calls Try.prog 17 #[.agg #[.int .i64 a0_0, .int .i64 a0_1]] w fun e w' => e = .returned (.bool r) ∧ Below w.heap.size w w' := by
  have hu33 := Try.underlying33
  have HB := Aside0.mk (Below.refl w.heap.size w)
  have H : (some (decide (a0_1 > 30000))) = some r := h
  clear h
  obtain rfl := Option.some.inj H
  go_enter Try.func17, Try.ntmps17
  go_wp2_with (first | ((with_reducible refine gate_dst (N := 1) rfl ?_); refine box_event ?hg (N := 1) ?hd (cs := #[.int .i64 a0_0, .int .i64 a0_1]) (t := 33) ?hr ?_; (case hd => rfl); (case hg => rfl); (case hr => first | (go_simp; done) | (go_simp; rfl)); intro gb145 hg w2 hbox hb; have n0_ := Aside0.mk (below_step (by repeat (first | (with_reducible first | exact HB.out | apply below_alloc | apply pw_below_drewN | apply below_drew1) | exact HB.out)) hb); have n1_ := Aside0.mk (hbox); have n2_ := Aside0.mk ((by rw [hg]; exact (below_size (by repeat (first | (with_reducible first | exact HB.out | apply below_alloc | apply pw_below_drewN | apply below_drew1) | exact HB.out))) : w.heap.size ≤ gb145)); have n3_ := Aside0.mk ((by rw [hg]; exact (below_size (by repeat (first | (with_reducible first | exact HB.out | apply below_alloc | apply pw_below_drewN | apply below_drew1) | exact HB.out))) : w.heap.size ≤ gb145)); clear HB; have HB := n0_; have BK145 := n1_; have GW145 := n2_; have GE145 := n3_; clear n0_ n1_ n2_ n3_; clear hb hbox hg; have hcz3_0 : w2.cell? ⟨gb145, 0, none⟩ = some (.int .i64 a0_0) := (blk_cell BK145.out 0).trans rfl; have hcz3_1 : w2.cell? ⟨gb145, 1, none⟩ = some (.int .i64 a0_1) := (blk_cell BK145.out 1).trans rfl; have hfz3_0 := blk_frozen BK145.out 0; have hfz3_1 := blk_frozen BK145.out 1))
  go_ret
  exact ⟨by first | rfl | (simp [errW_none, errW_some] <;> rfl) | (simp [*, errW_none, errW_some] <;> rfl), by repeat (first | (with_reducible first | exact HB.out | apply below_alloc | apply pw_below_drewN | apply below_drew1 | refine below_set ?_ GE145.out) | exact HB.out)⟩

end Go.Proofs.Ythbmpegaogfibac.PA
