/- What Go's functions that the laws reach come to: laid by a program of this session over the print's words. -/
import Derived.Test.YtlmohamgfindmabPDx0
namespace Go.Proofs.Ytlmohamgfindmab.PD
open Go.RowKit Go.Proofs.YtlmohamgfindmabW.PrintWords Go.Proofs.YtlmohamgfindmabW.PrintLast Go.Proofs.YtlmohamgfindmabW.PrintMore
attribute [local go_sem] max2_int min2_int max_two min_two max_three min_three max_four min_four   -- for this text's walks alone
set_option linter.unusedVariables false
set_option linter.unusedSimpArgs false

/-! ### impl_in: function 73 -/
def impl_in.f (a0 : Int) (a1 : Int) (a2 : Int) : Option (Bool) := if a0 ≥ a1 then (some (decide (a0 ≤ a2))) else (some false)
set_option maxHeartbeats 8000000 in
set_option maxRecDepth 100000 in
theorem impl_in.calls (a0 : Int) (a1 : Int) (a2 : Int) (r : Bool) (w : World) (h : impl_in.f a0 a1 a2 = some r) :
    Calls Try.prog 73 #[.int .i64 a0, .int .i64 a1, .int .i64 a2] w fun e w' => e = .returned (.bool r) ∧ Drawn0 w w' := by
  have H : (if a0 ≥ a1 then (some (decide (a0 ≤ a2))) else (some false)) = some r := h
  clear h
  by_cases c4 : a0 ≥ a1
  · rw [if_pos c4] at H
    have c4b0 : decide (a1 ≤ a0) = true := decide_eq_true c4
    clear c4
    obtain rfl := Option.some.inj H
    go_enter Try.func73, Try.ntmps73
    go_wp2
    go_ret
    exact ⟨by first | rfl | (simp; done) | (simp [*]; done), by repeat (first | exact Drawn0.refl _ | apply Drawn0.step)⟩
  · rw [if_neg c4] at H
    have c4b0 : decide (a1 ≤ a0) = false := decide_eq_false c4
    clear c4
    obtain rfl := Option.some.inj H
    go_enter Try.func73, Try.ntmps73
    go_wp2
    go_ret
    exact ⟨by first | rfl | (simp; done) | (simp [*]; done), by repeat (first | exact Drawn0.refl _ | apply Drawn0.step)⟩


/-! ### slices_IndexFunc_int_int: function 129, at whatever predicate -/
set_option maxHeartbeats 4000000 in
set_option maxRecDepth 100000 in
theorem slices_IndexFunc_int_int.callsP (g : Nat) (lb : Array Value) (p : Int → Bool) (A0 : Option Addr) (c0 : Nat) (l0 : List (Int)) (w : World) (eg : ∀ args w, (callFunc g args).run Try.prog w = .ok (.enter g args) w)
    (hp : ∀ (W : World) (x : Int), x ∈ l0 → Below w.heap.size w W → Calls Try.prog g (#[.int .i64 x] ++ lb) W fun e w' => e = .returned (.bool (p x)) ∧ Below W.heap.size W w')
    (hr0 : Kd.C (Kd.int .i64) w A0 l0.length l0) :
    Calls Try.prog 129 #[.slice A0 l0.length c0, .func (.func g) #[] lb] w fun e w' => e = .returned (.int .i64 (Gv.idxP p l0)) ∧ Below w.heap.size w w' := by
  have hn : l0.length ≤ 9223372036854775807 := hr0.2.1
  have HR := Aside0.mk hr0
  have HP := Aside0.mk hp
  clear hr0 hp
  go_enter Try.func129, Try.ntmps129
  go_wp2
  go_loopg [5, 8] l0.length (fun gg _ s8 wr => ∃ i : Int, s8 = .int .i64 i ∧ Aside0 (0 ≤ i ∧ i ≤ l0.length ∧ l0.length - i.toNat ≤ gg) ∧ Aside0 (Below w.heap.size w wr) ∧ Aside0 (∀ j : Nat, j < i.toNat → ∀ x, l0[j]? = some x → p x = false))
  case atStart => exact ⟨0, rfl, ⟨by omega⟩, ⟨Below.refl _ w⟩, ⟨fun j hj => absurd hj (Nat.not_lt_zero _)⟩⟩
  case round =>
    obtain ⟨i, rfl, HI, BW, AA⟩ := hrel
    by_cases hlt : i < (l0.length : Int)
    · have h0 : 0 ≤ i := HI.out.1
      obtain ⟨ad, e_, hx0⟩ := Kd.at_int (Kd.C_below HR.out BW.out) i h0 hlt
      cases e_
      have hm : l0[i.toNat]? = some (rd l0 i) := by
        have hl : i.toNat < l0.length := by omega
        rw [List.getElem?_eq_getElem hl]; simp [rd, List.getD, hl]
      have hcall := HP.out wr (rd l0 i) (List.mem_of_getElem? hm) BW.out
      have HM := Aside0.mk hm
      clear hm
      have hw1 : wrap64 (i + 1) = i + 1 := by unfold wrap64; omega
      have HW := Aside0.mk hw1
      clear hw1
      have c0b : decide (i < (l0.length : Int)) = true := decide_eq_true hlt
      have c1b : decide (0 ≤ i) = true := decide_eq_true h0
      have HLT := Aside0.mk (show i.toNat < l0.length ∧ (i + 1).toNat = i.toNat + 1 by omega)
      replace h0 := eq_true h0
      replace hlt := eq_true hlt
      cases hq : p (rd l0 i) with
      | true =>
        rw [hq] at hcall
        have HQ := Aside0.mk hq
        clear hq
        go_wp2_with (go_at_fn g; refine hcall.mono ?_; rintro e w' ⟨rfl, hb'⟩)
        go_ret
        exact ⟨by rw [Gv.idxP_hit p l0 i.toNat _ HM.out HQ.out AA.out]; rw [Int.toNat_of_nonneg HI.out.1]; first | done | rfl, below_then BW.out BW.out.size hb'⟩
      | false =>
        rw [hq] at hcall
        have HQ := Aside0.mk hq
        clear hq
        go_wp2_with (go_at_fn g; refine hcall.mono ?_; rintro e w' ⟨rfl, hb'⟩)
        go_roundg (l0.length - (i + 1).toNat)
        case measure => have := HI.out; have := HLT.out; omega
        case rel =>
          refine ⟨i + 1, (by first | rfl | (rw [HW.out]) | (simp [HW.out])), ⟨by have := HI.out; have := HLT.out; omega⟩, ⟨below_then BW.out BW.out.size hb'⟩, ⟨fun j hj x hx => ?_⟩⟩
          have h2 := HLT.out
          by_cases ej : j = i.toNat
          · subst ej
            have h3 := HM.out
            rw [hx] at h3
            rw [Option.some.inj h3]; exact HQ.out
          · exact AA.out j (by omega) x hx
    · have c0b : decide (i < (l0.length : Int)) = false := decide_eq_false hlt
      have HLT := Aside0.mk hlt
      clear hlt
      go_wp2
      go_ret
      exact ⟨by rw [Gv.idxP_miss p l0 (fun x hx => by
        obtain ⟨j, hj⟩ := List.getElem?_of_mem hx
        have h1 := (List.getElem?_eq_some_iff.1 hj).1
        have := HI.out; have := HLT.out
        exact AA.out j (by omega) x hj)]; first | done | rfl, BW.out⟩


/-! ### slices_ContainsFunc_int_int: function 90, at whatever predicate -/
set_option maxHeartbeats 4000000 in
set_option maxRecDepth 100000 in
theorem slices_ContainsFunc_int_int.callsP (g : Nat) (lb : Array Value) (p : Int → Bool) (A0 : Option Addr) (c0 : Nat) (l0 : List (Int)) (w : World) (eg : ∀ args w, (callFunc g args).run Try.prog w = .ok (.enter g args) w)
    (hp : ∀ (W : World) (x : Int), x ∈ l0 → Below w.heap.size w W → Calls Try.prog g (#[.int .i64 x] ++ lb) W fun e w' => e = .returned (.bool (p x)) ∧ Below W.heap.size W w')
    (hr0 : Kd.C (Kd.int .i64) w A0 l0.length l0) :
    Calls Try.prog 90 #[.slice A0 l0.length c0, .func (.func g) #[] lb] w fun e w' => e = .returned (.bool (l0.any p)) ∧ Below w.heap.size w w' := by
  have hcon := slices_IndexFunc_int_int.callsP g lb p A0 c0 l0 w eg hp hr0
  rw [← Gv.idxP_any p l0]
  clear hp hr0
  generalize Gv.idxP p l0 = r at hcon ⊢
  go_enter Try.func90, Try.ntmps90
  go_wp2_with (go_at_call 129; refine hcon.mono ?_; rintro e w' ⟨rfl, hb⟩)
  go_ret
  exact ⟨rfl, hb⟩

-- NOT PRINTED: function 91 (impl_Alarms_1)

-- NOT PRINTED: function 92 (impl_Alarms_2)


/-! ### impl_Alarms_1: function 91, a literal with a captured variable -/
set_option maxHeartbeats 4000000 in
set_option maxRecDepth 100000 in
theorem impl_Alarms_1.lit (x : Int) (a1_0 : Int) (a1_1 : Int) (a1_2 : Int) (B : Nat) (w : World) (hB : w.heap[B]? = some (.cells #[.int .i64 a1_0, .int .i64 a1_1, .int .i64 a1_2] 61 (0, 0))) :
    Calls Try.prog 91 #[.int .i64 x, .pointer (some ⟨B, 0, none⟩)] w fun e w' => e = .returned (.bool (decide (x > a1_1))) ∧ Below w.heap.size w w' := by
  have hu61 := Try.underlying61
  have h0 : w.cell? ⟨B, 0, none⟩ = some (.int .i64 a1_0) := (blk_cell hB 0).trans rfl
  have h1 : w.cell? ⟨B, 1, none⟩ = some (.int .i64 a1_1) := (blk_cell hB 1).trans rfl
  have h2 : w.cell? ⟨B, 2, none⟩ = some (.int .i64 a1_2) := (blk_cell hB 2).trans rfl
  have BKB := Aside0.mk hB
  clear hB
  go_enter Try.func91, Try.ntmps91
  go_wp2
  go_ret
  exact ⟨rfl, Below.refl _ _⟩


/-! ### impl_Alarms_2: function 92, a literal with a captured variable -/
set_option maxHeartbeats 4000000 in
set_option maxRecDepth 100000 in
theorem impl_Alarms_2.lit (x : Int) (a1_0 : Int) (a1_1 : Int) (a1_2 : Int) (B : Nat) (w : World) (hB : w.heap[B]? = some (.cells #[.int .i64 a1_0, .int .i64 a1_1, .int .i64 a1_2] 61 (0, 0))) :
    Calls Try.prog 92 #[.int .i64 x, .pointer (some ⟨B, 0, none⟩)] w fun e w' => e = .returned (.bool (decide (x < a1_0))) ∧ Below w.heap.size w w' := by
  have hu61 := Try.underlying61
  have h0 : w.cell? ⟨B, 0, none⟩ = some (.int .i64 a1_0) := (blk_cell hB 0).trans rfl
  have h1 : w.cell? ⟨B, 1, none⟩ = some (.int .i64 a1_1) := (blk_cell hB 1).trans rfl
  have h2 : w.cell? ⟨B, 2, none⟩ = some (.int .i64 a1_2) := (blk_cell hB 2).trans rfl
  have BKB := Aside0.mk hB
  clear hB
  go_enter Try.func92, Try.ntmps92
  go_wp2
  go_ret
  exact ⟨rfl, Below.refl _ _⟩


/-! ### cf_impl_Alarms_1_170: slices.ContainsFunc[[]int,int] with the literal impl_Alarms_1 -/
def cf_impl_Alarms_1_170.f (l0 : List (Int)) (a1_0 : Int) (a1_1 : Int) (a1_2 : Int) : Option Bool := some (l0.any fun x => decide (x > a1_1))
theorem cf_impl_Alarms_1_170.calls (A0 : Option Addr) (c0 : Nat) (l0 : List (Int)) (a1_0 : Int) (a1_1 : Int) (a1_2 : Int) (r : Bool) (w : World) (hr0 : Kd.C (Kd.int .i64) w A0 l0.length l0) (hc0 : l0.length ≤ c0) (h : cf_impl_Alarms_1_170.f l0 a1_0 a1_1 a1_2 = some r) {B : Nat} (hB : w.heap[B]? = some (.cells #[.int .i64 a1_0, .int .i64 a1_1, .int .i64 a1_2] 61 (0, 0))) :
    Calls Try.prog 90 #[.slice A0 l0.length c0, .func (.func 91) #[] #[.pointer (some ⟨B, 0, none⟩)]] w fun e w' => e = .returned (.bool r) ∧ Below w.heap.size w w' := by
  obtain rfl := Option.some.inj h
  exact slices_ContainsFunc_int_int.callsP 91 #[.pointer (some ⟨B, 0, none⟩)] (fun x => decide (x > a1_1)) A0 c0 l0 w (enters_of Try.func91 (by kernel_rfl) rfl) (fun W x _ hb => impl_Alarms_1.lit x a1_0 a1_1 a1_2 B W (blk_below hB hb)) hr0


/-! ### cf_impl_Alarms_2_170: slices.ContainsFunc[[]int,int] with the literal impl_Alarms_2 -/
def cf_impl_Alarms_2_170.f (l0 : List (Int)) (a1_0 : Int) (a1_1 : Int) (a1_2 : Int) : Option Bool := some (l0.any fun x => decide (x < a1_0))
theorem cf_impl_Alarms_2_170.calls (A0 : Option Addr) (c0 : Nat) (l0 : List (Int)) (a1_0 : Int) (a1_1 : Int) (a1_2 : Int) (r : Bool) (w : World) (hr0 : Kd.C (Kd.int .i64) w A0 l0.length l0) (hc0 : l0.length ≤ c0) (h : cf_impl_Alarms_2_170.f l0 a1_0 a1_1 a1_2 = some r) {B : Nat} (hB : w.heap[B]? = some (.cells #[.int .i64 a1_0, .int .i64 a1_1, .int .i64 a1_2] 61 (0, 0))) :
    Calls Try.prog 90 #[.slice A0 l0.length c0, .func (.func 92) #[] #[.pointer (some ⟨B, 0, none⟩)]] w fun e w' => e = .returned (.bool r) ∧ Below w.heap.size w w' := by
  obtain rfl := Option.some.inj h
  exact slices_ContainsFunc_int_int.callsP 92 #[.pointer (some ⟨B, 0, none⟩)] (fun x => decide (x < a1_0)) A0 c0 l0 w (enters_of Try.func92 (by kernel_rfl) rfl) (fun W x _ hb => impl_Alarms_2.lit x a1_0 a1_1 a1_2 B W (blk_below hB hb)) hr0

end Go.Proofs.Ytlmohamgfindmab.PD
