/- FnExactBlocking: whatever the input, the law returns true and its arguments read as they did. No condition. -/
import Derived.Test.YtfeaabdighopbaaRows
import Derived.Test.YtfeaabdighopbaaPBx10
import Derived.Test.YtfeaabdighopbaaPureFnExactBlocking
import Derived.WalkKit
import Derived.ProofKit
import Derived.OpenShut
import Derived.ShutString
import Derived.ChangeOld
import Derived.Below
import Derived.SizedLaws
import Derived.Carry
namespace Go.Proofs.Ytfeaabdighopbaa.fnExactBlocking
open Go.ChangeShapes Go.WideShapes Go.ChangeAt Go.RowKit Go.Proofs.Ytfeaabdighopbaa Go.Proofs.Ytfeaabdighopbaa.PB Go.Proofs.YtfeaabdighopbaaW.PrintWords
open Go.ChangeMaps (open_string shut_string)
set_option linter.unusedVariables false
set_option linter.unusedSimpArgs false
theorem own : ownKnob Try.prog.godebug = none := by kernel_rfl
theorem laidOut : laidOutB Try.prog = true := by kernel_rfl
set_option maxRecDepth 100000 in
theorem lifted (os : Os) (started : os.Started) (H : Type) (enc : TypeId × Value → H) :
    ReturnsInHanded {} Try.checked os 10 .any (Rows.fnExactBlockingSpec.pre6 enc Try.prog Try.f10 Rows.fnExactBlockingRow.domain false) (Rows.fnExactBlockingSpec.post enc Try.prog Try.f10 false true false false) := by
  refine returnsInHanded_of_change_sized (C := Try.checked) own started (by kernel_rfl) Try.func10
    (ChangeSpec.witness6 (enc := enc) (C := Try.checked) false ⟨#[], #[.agg #[.int .i64 0, .slice none 0 0], .slice none 0 0], []⟩ 12 (by kernel_rfl) (by kernel_rfl) (by kernel_rfl) (by kernel_rfl)) ?_
  intro W base args ds gs before hval0 hW hcnd hsz0 _
  have hval : ∀ (j : Nat) t v, Try.f10.params[j]? = some t → args[j]? = some v → Value.okWide Try.prog W .any base t v := hval0
  have hW' := hW
  obtain ⟨p, q, hA0, hV, rfl, hfz, hnd⟩ := hW
  have hA : DataW.TrodAll enc Try.prog W 0 (fun _ => true) true Try.f10.params.toList args.toList ds p := hA0
  rw [Try.params10] at hA hval
  obtain ⟨v0, vs0, d0, ds0, p0, q0, hargs, rfl, rfl, h0, r0⟩ := trodAll_cons hA
  obtain ⟨v1, vs1, d1, ds1, p1, q1, rfl, rfl, rfl, h1, r1⟩ := trodAll_cons r0
  obtain ⟨rfl, rfl, rfl⟩ := trodAll_nil r1
  obtain rfl : args = #[v0, v1] := by cases args; simp_all
  obtain ⟨rfl, rfl⟩ := trodVars_none hV
  have k0 := h0
  have lt0 : ∀ x ∈ p0, x.block < W.heap.size := by obtain ⟨m, hm⟩ := k0; exact DataW.trod_lt m _ _ _ hm
  obtain ⟨cs0, rfl, _⟩ := okWide_struct Try.underlying81 (hval 0 81 v0 rfl rfl)
  obtain ⟨fuel0, hf0⟩ := h0
  obtain ⟨x0, hk0, g0⟩ := op_81 _ _ _ _ _ _ _ _ _ hf0
  obtain ⟨A0_1, c0_1, e0, hc0_1, hr0_1⟩ := k81_open hk0
  have e0' : cs0 = #[.int .i64 x0.f0, .slice A0_1 x0.f1.length c0_1] := Array.toList_inj.1 (by simpa [Value.cells] using e0)
  subst e0'
  have k1 := h1
  have lt1 : ∀ x ∈ p1, x.block < W.heap.size := by obtain ⟨m, hm⟩ := k1; exact DataW.trod_lt m _ _ _ hm
  obtain ⟨b1, len1, cap1, rfl⟩ := okWide_slice Try.underlying53 (hval 1 53 v1 rfl rfl)
  obtain ⟨fuel1, hf1⟩ := h1
  obtain ⟨l1, ⟨A1, c1, e1, hc1, hr1⟩, g1⟩ := (Op.opens_slice Try.underlying53 (by kernel_rfl) (Op.opens_int Try.underlying3)) _ _ _ _ _ _ _ _ _ hf1
  have e1' : Value.slice b1 len1 cap1 = Value.slice A1 l1.length c1 := List.singleton_inj.1 (by simpa [Value.cells] using e1)
  injection e1' with ea1 el1 ec1
  subst ea1 el1 ec1
  clear hA0 hval0 hsz0
  obtain ⟨k, hf⟩ := Pure.FnExactBlocking x0 l1 g0 g1
  refine (laws_FnExactBlocking.calls k x0.f0 _ _ x0.f1 _ _ l1 true W hr0_1 hc0_1 hr1 hc1 hf).mono fun e W' hh => ?_
  obtain ⟨he, hd⟩ := hh
  have bel : Below W.heap.size W W' := hd
  subst he
  exact ⟨_, rfl, _, _, _, [], _, [], hW', trodAll_mk1 (shut_bool Try.underlying4 _), (trodAll_cons_mk (Below.trod laidOut (by kernel_rfl) (of_decide_eq_true (by kernel_rfl)) k0 bel lt0) (trodAll_cons_mk (Below.trod laidOut (by kernel_rfl) (of_decide_eq_true (by kernel_rfl)) k1 bel lt1) trodAll_mk0)), rfl, bel.frame _, fun h => by cases h⟩
theorem over : Rows.fnExactBlockingRow.holds Try.pinned (OpenSpec.ofChange Rows.fnExactBlockingSpec) :=
  OpenClaim.holds_of_wide 10 Try.f10 rfl rfl rfl rfl rfl rfl rfl ⟨rfl, rfl, rfl, rfl, rfl⟩ rfl rfl rfl rfl rfl (by kernel_rfl) Try.func10 (by kernel_rfl)
    (of_decide_eq_true (by kernel_rfl)) (by unfold Func.isWrapper; first | (rw [if_pos (by decide +kernel)]; kernel_rfl) | (rw [if_neg (by decide +kernel)]; exact ⟨rfl, rfl⟩))
    (fun os started H enc _ => lifted os started H enc)
theorem proved : Rows.FnExactBlockingSaid := over
#print axioms proved
end Go.Proofs.Ytfeaabdighopbaa.fnExactBlocking
namespace Go.Proofs.Ytfeaabdighopbaa
/-- The row, under a short name, for the claim. -/
theorem fnExactBlocking_holds : Rows.FnExactBlockingSaid := fnExactBlocking.proved
end Go.Proofs.Ytfeaabdighopbaa
