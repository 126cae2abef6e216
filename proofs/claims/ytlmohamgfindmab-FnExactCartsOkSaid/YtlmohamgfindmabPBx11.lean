/- What Go's functions that the laws reach come to: laid by a program of this session over the print's words. -/
import Derived.Test.YtlmohamgfindmabPBx0
import Derived.Test.YtlmohamgfindmabPBx10
namespace Go.Proofs.Ytlmohamgfindmab.PB
open Go.RowKit Go.Proofs.YtlmohamgfindmabW.PrintWords Go.Proofs.YtlmohamgfindmabW.PrintLast Go.Proofs.YtlmohamgfindmabW.PrintMore
attribute [local go_sem] max2_int min2_int max_two min_two max_three min_three max_four min_four   -- for this text's walks alone
set_option linter.unusedVariables false
set_option linter.unusedSimpArgs false


/-! ### impl_Cart_112: function 112, at whatever predicate -/
set_option maxHeartbeats 4000000 in
set_option maxRecDepth 100000 in
theorem impl_Cart_112.callsP (g : Nat) (lb : Array Value) (p : S144 → Bool) (A0 : Option Addr) (c0 : Nat) (l0 : List (S144)) (w : World) (eg : ∀ args w, (callFunc g args).run Try.prog w = .ok (.enter g args) w)
    (hp : ∀ (W : World) (x : S144), x ∈ l0 → Below w.heap.size w W → Calls Try.prog g (#[.agg #[.int .i64 x.f0, .int .i64 x.f1]] ++ lb) W fun e w' => e = .returned (.bool (p x)) ∧ Below W.heap.size W w')
    (hr0 : Kd.C k144 w A0 l0.length l0) :
    Calls Try.prog 112 #[.slice A0 l0.length c0, .func (.func g) #[] lb] w fun e w' => e = .returned (.bool (l0.any p)) ∧ Below w.heap.size w w' := by
  have hcon := impl_Cart_133.callsP g lb p A0 c0 l0 w eg hp hr0
  rw [← Gv.idxP_any p l0]
  clear hp hr0
  generalize Gv.idxP p l0 = r at hcon ⊢
  go_enter Try.func112, Try.ntmps112
  go_wp2_with (go_at_call 133; refine hcon.mono ?_; rintro e w' ⟨rfl, hb⟩)
  go_ret
  exact ⟨rfl, hb⟩

-- NOT PRINTED: function 113 (impl_CartsOk_1)


/-! ### impl_CartsOk_1: function 113, a literal with a captured variable -/
set_option maxHeartbeats 4000000 in
set_option maxRecDepth 100000 in
theorem impl_CartsOk_1.lit (x : S144) (a1_0 : Int) (a1_1 : Int) (B : Nat) (w : World) (hB : w.heap[B]? = some (.cells #[.int .i64 a1_0, .int .i64 a1_1] 144 (0, 0))) :
    Calls Try.prog 113 #[.agg #[.int .i64 x.f0, .int .i64 x.f1], .pointer (some ⟨B, 0, none⟩)] w fun e w' => e = .returned (.bool (x.f0 == a1_0)) ∧ Below w.heap.size w w' := by
  have hu144 := Try.underlying144
  have h0 : w.cell? ⟨B, 0, none⟩ = some (.int .i64 a1_0) := (blk_cell hB 0).trans rfl
  have h1 : w.cell? ⟨B, 1, none⟩ = some (.int .i64 a1_1) := (blk_cell hB 1).trans rfl
  have BKB := Aside0.mk hB
  clear hB
  go_enter Try.func113, Try.ntmps113
  have HB := Aside0.mk (Below.refl w.heap.size w)
  go_wp2_with (first | ((with_reducible refine gate_dst (N := 2) rfl ?_); refine box_event ?hg (N := 2) ?hd (cs := #[.int .i64 x.f0, .int .i64 x.f1]) (t := 144) ?hr ?_; (case hd => rfl); (case hg => rfl); (case hr => first | (go_simp; done) | (go_simp; rfl)); intro gb hg w2 hbox hb; have n0_ := Aside0.mk (below_step (by repeat (first | (with_reducible first | exact HB.out | apply below_alloc | apply pw_below_drewN | apply below_drew1) | exact HB.out)) hb); have n1_ := Aside0.mk hbox; have n2_ := Aside0.mk (blk_below (g := B) (o := .cells #[.int .i64 a1_0, .int .i64 a1_1] 144 (0, 0)) (by (with_reducible repeat (first | refine blk_drewN ?_ _ | refine blk_drew ?_ | refine blk_alloc ?_ _)); exact BKB.out) hb); clear hb hbox hg HB; have HB := n0_; clear n0_; have hcz_0 : w2.cell? ⟨gb, 0, none⟩ = some (.int .i64 x.f0) := (blk_cell n1_.out 0).trans rfl; have hcz_1 : w2.cell? ⟨gb, 1, none⟩ = some (.int .i64 x.f1) := (blk_cell n1_.out 1).trans rfl; have hbz_0 : w2.cell? ⟨B, 0, none⟩ = some (.int .i64 a1_0) := (blk_cell n2_.out 0).trans rfl; have hbz_1 : w2.cell? ⟨B, 1, none⟩ = some (.int .i64 a1_1) := (blk_cell n2_.out 1).trans rfl))
  go_ret
  exact ⟨by first | rfl | (simp; done) | (simp [*]; done), by repeat (first | (with_reducible first | exact HB.out | apply below_alloc | apply pw_below_drewN | apply below_drew1) | exact HB.out)⟩


/-! ### cf_impl_CartsOk_1_375: slices.ContainsFunc[[]loop.example/g00059/impl.Cart,loop.example/g00059/impl.Cart] with the literal impl_CartsOk_1 -/
def cf_impl_CartsOk_1_375.f (l0 : List (S144)) (a1_0 : Int) (a1_1 : Int) : Option Bool := some (l0.any fun x => x.f0 == a1_0)
theorem cf_impl_CartsOk_1_375.calls (A0 : Option Addr) (c0 : Nat) (l0 : List (S144)) (a1_0 : Int) (a1_1 : Int) (r : Bool) (w : World) (hr0 : Kd.C k144 w A0 l0.length l0) (hc0 : l0.length ≤ c0) (h : cf_impl_CartsOk_1_375.f l0 a1_0 a1_1 = some r) {B : Nat} (hB : w.heap[B]? = some (.cells #[.int .i64 a1_0, .int .i64 a1_1] 144 (0, 0))) :
    Calls Try.prog 112 #[.slice A0 l0.length c0, .func (.func 113) #[] #[.pointer (some ⟨B, 0, none⟩)]] w fun e w' => e = .returned (.bool r) ∧ Below w.heap.size w w' := by
  obtain rfl := Option.some.inj h
  exact impl_Cart_112.callsP 113 #[.pointer (some ⟨B, 0, none⟩)] (fun x => x.f0 == a1_0) A0 c0 l0 w (enters_of Try.func113 (by kernel_rfl) rfl) (fun W x _ hb => impl_CartsOk_1.lit x a1_0 a1_1 B W (blk_below hB hb)) hr0

end Go.Proofs.Ytlmohamgfindmab.PB
