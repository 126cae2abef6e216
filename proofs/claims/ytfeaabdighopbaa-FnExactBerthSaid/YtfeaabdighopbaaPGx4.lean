/- What Go's functions that the laws reach come to: laid by a program of this session over the print's words. -/
import Derived.Test.YtfeaabdighopbaaPGx0
import Derived.Test.YtfeaabdighopbaaPGx3
import Derived.Test.YtfeaabdighopbaaSteps
namespace Go.Proofs.Ytfeaabdighopbaa.PG
open Go.RowKit Go.Proofs.YtfeaabdighopbaaW.PrintWords Go.Proofs.YtfeaabdighopbaaW.PrintLast Go.Proofs.YtfeaabdighopbaaW.PrintMore Go.Proofs.Ytfeaabdighopbaa
attribute [local go_sem] max2_int min2_int max_two min_two max_three min_three max_four min_four   -- for this text's walks alone
set_option linter.unusedVariables false
set_option linter.unusedSimpArgs false

/-! ### spec_CallsOk: function 50 -/
mutual
def spec_CallsOk.j0 : Nat → Int → List (S91) → Bool → Option (Bool)
  | 0, _, _, _ => none
  | k + 1, x0, x1, x14 => if x14 = true then (some false) else (spec_CallsOk.l0 k x0 x1 0)
def spec_CallsOk.l0 : Nat → Int → List (S91) → Int → Option (Bool)
  | 0, _, _, _ => none
  | k + 1, x0, x1, x5 => if x5 < (x1.length : Int) then (if 0 ≤ x5 then ((spec_l1In.f ((rd_T91 x1 x5).f0) 1 1000000).bind fun t123 => (if t123 = true then (if x5 > 0 then (if 0 ≤ (wrap64 (x5 - 1)) then (if (wrap64 (x5 - 1)) < (x1.length : Int) then (if ((rd_T91 x1 (wrap64 (x5 - 1))).f0) ≥ ((rd_T91 x1 x5).f0) then (spec_CallsOk.j2 k x0 x1 x5 true) else ((spec_l1In.f ((rd_T91 x1 x5).f1) 1 1000).bind fun t125 => (if t125 = true then ((spec_l1Minute.f ((rd_T91 x1 x5).f2)).bind fun t126 => (if t126 = true then ((spec_l1Minute.f ((rd_T91 x1 x5).f3)).bind fun t127 => (if t127 = true then (if ((rd_T91 x1 x5).f2) ≥ ((rd_T91 x1 x5).f3) then (spec_CallsOk.j2 k x0 x1 x5 true) else ((spec_l1In.f ((rd_T91 x1 x5).f4) (-1) 1000).bind fun t128 => (if t128 = true then (if ((rd_T91 x1 x5).f4) ≥ 0 then (spec_CallsOk.j2 k x0 x1 x5 (decide ((wrap64 (((rd_T91 x1 x5).f4) + ((rd_T91 x1 x5).f1))) > x0))) else (spec_CallsOk.j2 k x0 x1 x5 false)) else (spec_CallsOk.j2 k x0 x1 x5 true)))) else (spec_CallsOk.j2 k x0 x1 x5 true))) else (spec_CallsOk.j2 k x0 x1 x5 true))) else (spec_CallsOk.j2 k x0 x1 x5 true)))) else (none)) else (none)) else ((spec_l1In.f ((rd_T91 x1 x5).f1) 1 1000).bind fun t129 => (if t129 = true then ((spec_l1Minute.f ((rd_T91 x1 x5).f2)).bind fun t130 => (if t130 = true then ((spec_l1Minute.f ((rd_T91 x1 x5).f3)).bind fun t131 => (if t131 = true then (if ((rd_T91 x1 x5).f2) ≥ ((rd_T91 x1 x5).f3) then (spec_CallsOk.j2 k x0 x1 x5 true) else ((spec_l1In.f ((rd_T91 x1 x5).f4) (-1) 1000).bind fun t132 => (if t132 = true then (if ((rd_T91 x1 x5).f4) ≥ 0 then (spec_CallsOk.j2 k x0 x1 x5 (decide ((wrap64 (((rd_T91 x1 x5).f4) + ((rd_T91 x1 x5).f1))) > x0))) else (spec_CallsOk.j2 k x0 x1 x5 false)) else (spec_CallsOk.j2 k x0 x1 x5 true)))) else (spec_CallsOk.j2 k x0 x1 x5 true))) else (spec_CallsOk.j2 k x0 x1 x5 true))) else (spec_CallsOk.j2 k x0 x1 x5 true)))) else (spec_CallsOk.j2 k x0 x1 x5 true))) else (none)) else (some true)
def spec_CallsOk.j2 : Nat → Int → List (S91) → Int → Bool → Option (Bool)
  | 0, _, _, _, _ => none
  | k + 1, x0, x1, x5, x88 => if x88 = true then (some false) else (spec_CallsOk.l0 k x0 x1 (wrap64 (x5 + 1)))
end
def spec_CallsOk.f (k : Nat) (a0 : Int) (l1 : List (S91)) : Option (Bool) := (spec_l1In.f a0 1 1000).bind fun t120 => (if t120 = true then (spec_CallsOk.j0 k a0 l1 (decide ((l1.length : Int) > 24))) else (spec_CallsOk.j0 k a0 l1 true))
theorem spec_CallsOk.mono_l : ∀ k, (∀ y0 y1 y2, LeO (spec_CallsOk.j0 k y0 y1 y2) (spec_CallsOk.j0 (k + 1) y0 y1 y2)) ∧ (∀ y0 y1 y2, LeO (spec_CallsOk.l0 k y0 y1 y2) (spec_CallsOk.l0 (k + 1) y0 y1 y2)) ∧ (∀ y0 y1 y2 y3, LeO (spec_CallsOk.j2 k y0 y1 y2 y3) (spec_CallsOk.j2 (k + 1) y0 y1 y2 y3))
  | 0 => ⟨fun _ _ _ r h => by simp [spec_CallsOk.j0] at h, fun _ _ _ r h => by simp [spec_CallsOk.l0] at h, fun _ _ _ _ r h => by simp [spec_CallsOk.j2] at h⟩
  | k + 1 => by
    obtain ⟨ih0, ih1, ih2⟩ := spec_CallsOk.mono_l k
    refine ⟨?_, ?_, ?_⟩
    · intro y0 y1 y2
      unfold spec_CallsOk.j0
      repeat' first
      | (with_reducible exact ih0 _ _ _)
      | (with_reducible exact ih1 _ _ _)
      | (with_reducible exact ih2 _ _ _ _)
      | (with_reducible exact LeO.refl _)
      | (with_reducible exact LeO.none _)
      | (with_reducible refine LeO.ite ?_ ?_)
      | (with_reducible refine LeO.bind ?_ (fun _ => ?_))
      | exact ih0 _ _ _
      | exact ih1 _ _ _
      | exact ih2 _ _ _ _
      | exact LeO.none _
      | refine LeO.ite ?_ ?_
      | refine LeO.bind ?_ (fun _ => ?_)
    · intro y0 y1 y2
      unfold spec_CallsOk.l0
      repeat' first
      | (with_reducible exact ih0 _ _ _)
      | (with_reducible exact ih1 _ _ _)
      | (with_reducible exact ih2 _ _ _ _)
      | (with_reducible exact LeO.refl _)
      | (with_reducible exact LeO.none _)
      | (with_reducible refine LeO.ite ?_ ?_)
      | (with_reducible refine LeO.bind ?_ (fun _ => ?_))
      | exact ih0 _ _ _
      | exact ih1 _ _ _
      | exact ih2 _ _ _ _
      | exact LeO.none _
      | refine LeO.ite ?_ ?_
      | refine LeO.bind ?_ (fun _ => ?_)
    · intro y0 y1 y2 y3
      unfold spec_CallsOk.j2
      repeat' first
      | (with_reducible exact ih0 _ _ _)
      | (with_reducible exact ih1 _ _ _)
      | (with_reducible exact ih2 _ _ _ _)
      | (with_reducible exact LeO.refl _)
      | (with_reducible exact LeO.none _)
      | (with_reducible refine LeO.ite ?_ ?_)
      | (with_reducible refine LeO.bind ?_ (fun _ => ?_))
      | exact ih0 _ _ _
      | exact ih1 _ _ _
      | exact ih2 _ _ _ _
      | exact LeO.none _
      | refine LeO.ite ?_ ?_
      | refine LeO.bind ?_ (fun _ => ?_)
theorem spec_CallsOk.mono : ∀ a0 a1 k, LeO (spec_CallsOk.f k a0 a1) (spec_CallsOk.f (k + 1) a0 a1) := by
  intro a0 a1 k
  obtain ⟨ih0, ih1, ih2⟩ := spec_CallsOk.mono_l k
  unfold spec_CallsOk.f
  repeat' first
      | (with_reducible exact ih0 _ _ _)
      | (with_reducible exact ih1 _ _ _)
      | (with_reducible exact ih2 _ _ _ _)
      | (with_reducible exact LeO.refl _)
      | (with_reducible exact LeO.none _)
      | (with_reducible refine LeO.ite ?_ ?_)
      | (with_reducible refine LeO.bind ?_ (fun _ => ?_))
      | exact ih0 _ _ _
      | exact ih1 _ _ _
      | exact ih2 _ _ _ _
      | exact LeO.none _
      | refine LeO.ite ?_ ?_
      | refine LeO.bind ?_ (fun _ => ?_)
def spec_CallsOk.T7 : Bool × List (List Nat × List Nat) := (true, [([], []), ([0], [0]), ([1], [1]), ([2], [2]), ([3, 2], [3]), ([4], [4]), ([5, 4], [4, 5]), ([6, 4, 4], [4, 6]), ([7], [7]), ([7], [7]), ([9, 7], [7, 9]), ([8, 10, 7], [7, 8, 10]), ([11, 7], [7, 11]), ([12, 7], [7, 12]), ([7], [7]), ([14, 7], [7, 14]), ([13, 15, 7], [7, 13, 15]), ([7, 16, 4], [4, 7, 16]), ([4, 17], [4, 17]), ([18, 7], [18]), ([19], [19]), ([20, 19], [19, 20]), ([21, 19, 19], [19, 21]), ([22, 19], [19, 22]), ([19, 23], [19, 23]), ([24, 22], [24]), ([25], [25]), ([26, 25], [25, 26]), ([27, 25, 25], [25, 27]), ([28, 25], [25, 28]), ([25, 29], [25, 29]), ([30, 28], [30]), ([31], [31]), ([32, 31], [31, 32]), ([33, 31, 31], [31, 33]), ([34, 31], [31, 34]), ([31, 35], [31, 35]), ([36, 34], [36]), ([37], [37]), ([38, 37], [37, 38]), ([37], [37]), ([40, 37], [37, 40]), ([39, 41, 37], [37, 39, 41]), ([37, 42], [37, 42]), ([43, 37], [43]), ([44], [44]), ([45, 44], [44, 45]), ([46, 44, 44], [44, 46]), ([47, 44], [44, 47]), ([44, 48], [44, 48]), ([49, 47], [49]), ([50], [50]), ([51, 50], [50, 51]), ([52, 50], [50, 52]), ([53, 50, 50], [50, 53]), ([54], [54]), ([55, 54], [54, 55]), ([54], [54]), ([57, 54], [54, 57]), ([56, 58, 54], [54, 56, 58]), ([54], [54]), ([59, 60, 54], [54, 59, 60]), ([54, 61, 50], [50, 54, 61]), ([50, 62], [50, 62])])
def spec_CallsOk.B7 : List Nat := [0, 1, 3, 7, 15, 31, 63, 127, 255, 255, 767, 2047, 4095, 8191, 255, 16639, 65535, 131071, 262143, 524287, 1048575, 2097151, 4194303, 8388607, 16777215, 33554431, 67108863, 134217727, 268435455, 536870911, 1073741823, 2147483647, 4294967295, 8589934591, 17179869183, 34359738367, 68719476735, 137438953471, 274877906943, 549755813887, 274877906943, 1374389534719, 4398046511103, 8796093022207, 17592186044415, 35184372088831, 70368744177663, 140737488355327, 281474976710655, 562949953421311, 1125899906842623, 2251799813685247, 4503599627370495, 9007199254740991, 18014398509481983, 36028797018963967, 72057594037927935, 36028797018963967, 180143985094819839, 576460752303423487, 36028797018963967, 2305843009213693951, 4611686018427387903, 9223372036854775807]
theorem spec_CallsOk.tab7 : rtab .any (opsOf Try.f50 7) = spec_CallsOk.T7 := by kernel_rfl
theorem spec_CallsOk.bits7 : waitsOk spec_CallsOk.T7.2 spec_CallsOk.B7 = true := by kernel_rfl
abbrev spec_CallsOk.v0 : Array Bool := #[false, false, false, false, false, false, false, false, false, false, false, false, false, false, false, false, false, false, false, false, false, false, false, false, false, false, false, false, false, false, false, false, false, false, false, false, false, false, false, false, false, false, false, false, false, false, false, false, false, false, false, false, false, false, false, false, false, false, false, false, false, false, false, false]
abbrev spec_CallsOk.v1 : Array Bool := #[true, false, false, false, false, false, false, false, false, false, false, false, false, false, false, false, false, false, false, false, false, false, false, false, false, false, false, false, false, false, false, false, false, false, false, false, false, false, false, false, false, false, false, false, false, false, false, false, false, false, false, false, false, false, false, false, false, false, false, false, false, false, false, false]
abbrev spec_CallsOk.v2 : Array Bool := #[true, true, false, false, false, false, false, false, false, false, false, false, false, false, false, false, false, false, false, false, false, false, false, false, false, false, false, false, false, false, false, false, false, false, false, false, false, false, false, false, false, false, false, false, false, false, false, false, false, false, false, false, false, false, false, false, false, false, false, false, false, false, false, false]
abbrev spec_CallsOk.v3 : Array Bool := #[true, true, true, false, false, false, false, false, false, false, false, false, false, false, false, false, false, false, false, false, false, false, false, false, false, false, false, false, false, false, false, false, false, false, false, false, false, false, false, false, false, false, false, false, false, false, false, false, false, false, false, false, false, false, false, false, false, false, false, false, false, false, false, false]
abbrev spec_CallsOk.v4 : Array Bool := #[true, true, true, true, false, false, false, false, false, false, false, false, false, false, false, false, false, false, false, false, false, false, false, false, false, false, false, false, false, false, false, false, false, false, false, false, false, false, false, false, false, false, false, false, false, false, false, false, false, false, false, false, false, false, false, false, false, false, false, false, false, false, false, false]
abbrev spec_CallsOk.v5 : Array Bool := #[true, true, true, true, true, false, false, false, false, false, false, false, false, false, false, false, false, false, false, false, false, false, false, false, false, false, false, false, false, false, false, false, false, false, false, false, false, false, false, false, false, false, false, false, false, false, false, false, false, false, false, false, false, false, false, false, false, false, false, false, false, false, false, false]
abbrev spec_CallsOk.v6 : Array Bool := #[true, true, true, true, true, true, false, false, false, false, false, false, false, false, false, false, false, false, false, false, false, false, false, false, false, false, false, false, false, false, false, false, false, false, false, false, false, false, false, false, false, false, false, false, false, false, false, false, false, false, false, false, false, false, false, false, false, false, false, false, false, false, false, false]
abbrev spec_CallsOk.v7 : Array Bool := #[true, true, true, true, true, true, true, false, false, false, false, false, false, false, false, false, false, false, false, false, false, false, false, false, false, false, false, false, false, false, false, false, false, false, false, false, false, false, false, false, false, false, false, false, false, false, false, false, false, false, false, false, false, false, false, false, false, false, false, false, false, false, false, false]
abbrev spec_CallsOk.v8 : Array Bool := #[true, true, true, true, true, true, true, true, false, false, false, false, false, false, false, false, false, false, false, false, false, false, false, false, false, false, false, false, false, false, false, false, false, false, false, false, false, false, false, false, false, false, false, false, false, false, false, false, false, false, false, false, false, false, false, false, false, false, false, false, false, false, false, false]
abbrev spec_CallsOk.v9 : Array Bool := #[true, true, true, true, true, true, true, true, true, false, false, false, false, false, false, false, false, false, false, false, false, false, false, false, false, false, false, false, false, false, false, false, false, false, false, false, false, false, false, false, false, false, false, false, false, false, false, false, false, false, false, false, false, false, false, false, false, false, false, false, false, false, false, false]
abbrev spec_CallsOk.v10 : Array Bool := #[true, true, true, true, true, true, true, true, true, true, false, false, false, false, false, false, false, false, false, false, false, false, false, false, false, false, false, false, false, false, false, false, false, false, false, false, false, false, false, false, false, false, false, false, false, false, false, false, false, false, false, false, false, false, false, false, false, false, false, false, false, false, false, false]
abbrev spec_CallsOk.v11 : Array Bool := #[true, true, true, true, true, true, true, true, true, true, true, false, false, false, false, false, false, false, false, false, false, false, false, false, false, false, false, false, false, false, false, false, false, false, false, false, false, false, false, false, false, false, false, false, false, false, false, false, false, false, false, false, false, false, false, false, false, false, false, false, false, false, false, false]
abbrev spec_CallsOk.v12 : Array Bool := #[true, true, true, true, true, true, true, true, true, true, true, true, false, false, false, false, false, false, false, false, false, false, false, false, false, false, false, false, false, false, false, false, false, false, false, false, false, false, false, false, false, false, false, false, false, false, false, false, false, false, false, false, false, false, false, false, false, false, false, false, false, false, false, false]
abbrev spec_CallsOk.v13 : Array Bool := #[true, true, true, true, true, true, true, true, true, true, true, true, true, false, false, false, false, false, false, false, false, false, false, false, false, false, false, false, false, false, false, false, false, false, false, false, false, false, false, false, false, false, false, false, false, false, false, false, false, false, false, false, false, false, false, false, false, false, false, false, false, false, false, false]
abbrev spec_CallsOk.v14 : Array Bool := #[true, true, true, true, true, true, true, true, true, true, true, true, true, false, true, false, false, false, false, false, false, false, false, false, false, false, false, false, false, false, false, false, false, false, false, false, false, false, false, false, false, false, false, false, false, false, false, false, false, false, false, false, false, false, false, false, false, false, false, false, false, false, false, false]
abbrev spec_CallsOk.v15 : Array Bool := #[true, true, true, true, true, true, true, true, true, true, true, true, true, true, true, false, false, false, false, false, false, false, false, false, false, false, false, false, false, false, false, false, false, false, false, false, false, false, false, false, false, false, false, false, false, false, false, false, false, false, false, false, false, false, false, false, false, false, false, false, false, false, false, false]
abbrev spec_CallsOk.v16 : Array Bool := #[true, true, true, true, true, true, true, true, true, true, true, true, true, true, true, true, false, false, false, false, false, false, false, false, false, false, false, false, false, false, false, false, false, false, false, false, false, false, false, false, false, false, false, false, false, false, false, false, false, false, false, false, false, false, false, false, false, false, false, false, false, false, false, false]
abbrev spec_CallsOk.v17 : Array Bool := #[true, true, true, true, true, true, true, true, true, true, true, true, true, true, true, true, true, false, false, false, false, false, false, false, false, false, false, false, false, false, false, false, false, false, false, false, false, false, false, false, false, false, false, false, false, false, false, false, false, false, false, false, false, false, false, false, false, false, false, false, false, false, false, false]
abbrev spec_CallsOk.v18 : Array Bool := #[true, true, true, true, true, true, true, true, true, true, true, true, true, true, true, true, true, true, false, false, false, false, false, false, false, false, false, false, false, false, false, false, false, false, false, false, false, false, false, false, false, false, false, false, false, false, false, false, false, false, false, false, false, false, false, false, false, false, false, false, false, false, false, false]
abbrev spec_CallsOk.v19 : Array Bool := #[true, true, true, true, true, true, true, true, true, true, true, true, true, true, true, true, true, true, true, false, false, false, false, false, false, false, false, false, false, false, false, false, false, false, false, false, false, false, false, false, false, false, false, false, false, false, false, false, false, false, false, false, false, false, false, false, false, false, false, false, false, false, false, false]
abbrev spec_CallsOk.v20 : Array Bool := #[true, true, true, true, true, true, true, true, true, true, true, true, true, true, true, true, true, true, true, true, false, false, false, false, false, false, false, false, false, false, false, false, false, false, false, false, false, false, false, false, false, false, false, false, false, false, false, false, false, false, false, false, false, false, false, false, false, false, false, false, false, false, false, false]
abbrev spec_CallsOk.v21 : Array Bool := #[true, true, true, true, true, true, true, true, true, true, true, true, true, true, true, true, true, true, true, true, true, false, false, false, false, false, false, false, false, false, false, false, false, false, false, false, false, false, false, false, false, false, false, false, false, false, false, false, false, false, false, false, false, false, false, false, false, false, false, false, false, false, false, false]
abbrev spec_CallsOk.v22 : Array Bool := #[true, true, true, true, true, true, true, true, true, true, true, true, true, true, true, true, true, true, true, true, true, true, false, false, false, false, false, false, false, false, false, false, false, false, false, false, false, false, false, false, false, false, false, false, false, false, false, false, false, false, false, false, false, false, false, false, false, false, false, false, false, false, false, false]
abbrev spec_CallsOk.v23 : Array Bool := #[true, true, true, true, true, true, true, true, true, true, true, true, true, true, true, true, true, true, true, true, true, true, true, false, false, false, false, false, false, false, false, false, false, false, false, false, false, false, false, false, false, false, false, false, false, false, false, false, false, false, false, false, false, false, false, false, false, false, false, false, false, false, false, false]
abbrev spec_CallsOk.v24 : Array Bool := #[true, true, true, true, true, true, true, true, true, true, true, true, true, true, true, true, true, true, true, true, true, true, true, true, false, false, false, false, false, false, false, false, false, false, false, false, false, false, false, false, false, false, false, false, false, false, false, false, false, false, false, false, false, false, false, false, false, false, false, false, false, false, false, false]
abbrev spec_CallsOk.v25 : Array Bool := #[true, true, true, true, true, true, true, true, true, true, true, true, true, true, true, true, true, true, true, true, true, true, true, true, true, false, false, false, false, false, false, false, false, false, false, false, false, false, false, false, false, false, false, false, false, false, false, false, false, false, false, false, false, false, false, false, false, false, false, false, false, false, false, false]
abbrev spec_CallsOk.v26 : Array Bool := #[true, true, true, true, true, true, true, true, true, true, true, true, true, true, true, true, true, true, true, true, true, true, true, true, true, true, false, false, false, false, false, false, false, false, false, false, false, false, false, false, false, false, false, false, false, false, false, false, false, false, false, false, false, false, false, false, false, false, false, false, false, false, false, false]
abbrev spec_CallsOk.v27 : Array Bool := #[true, true, true, true, true, true, true, true, true, true, true, true, true, true, true, true, true, true, true, true, true, true, true, true, true, true, true, false, false, false, false, false, false, false, false, false, false, false, false, false, false, false, false, false, false, false, false, false, false, false, false, false, false, false, false, false, false, false, false, false, false, false, false, false]
abbrev spec_CallsOk.v28 : Array Bool := #[true, true, true, true, true, true, true, true, true, true, true, true, true, true, true, true, true, true, true, true, true, true, true, true, true, true, true, true, false, false, false, false, false, false, false, false, false, false, false, false, false, false, false, false, false, false, false, false, false, false, false, false, false, false, false, false, false, false, false, false, false, false, false, false]
abbrev spec_CallsOk.v29 : Array Bool := #[true, true, true, true, true, true, true, true, true, true, true, true, true, true, true, true, true, true, true, true, true, true, true, true, true, true, true, true, true, false, false, false, false, false, false, false, false, false, false, false, false, false, false, false, false, false, false, false, false, false, false, false, false, false, false, false, false, false, false, false, false, false, false, false]
abbrev spec_CallsOk.v30 : Array Bool := #[true, true, true, true, true, true, true, true, true, true, true, true, true, true, true, true, true, true, true, true, true, true, true, true, true, true, true, true, true, true, false, false, false, false, false, false, false, false, false, false, false, false, false, false, false, false, false, false, false, false, false, false, false, false, false, false, false, false, false, false, false, false, false, false]
abbrev spec_CallsOk.v31 : Array Bool := #[true, true, true, true, true, true, true, true, true, true, true, true, true, true, true, true, true, true, true, true, true, true, true, true, true, true, true, true, true, true, true, false, false, false, false, false, false, false, false, false, false, false, false, false, false, false, false, false, false, false, false, false, false, false, false, false, false, false, false, false, false, false, false, false]
abbrev spec_CallsOk.v32 : Array Bool := #[true, true, true, true, true, true, true, true, true, true, true, true, true, true, true, true, true, true, true, true, true, true, true, true, true, true, true, true, true, true, true, true, false, false, false, false, false, false, false, false, false, false, false, false, false, false, false, false, false, false, false, false, false, false, false, false, false, false, false, false, false, false, false, false]
abbrev spec_CallsOk.v33 : Array Bool := #[true, true, true, true, true, true, true, true, true, true, true, true, true, true, true, true, true, true, true, true, true, true, true, true, true, true, true, true, true, true, true, true, true, false, false, false, false, false, false, false, false, false, false, false, false, false, false, false, false, false, false, false, false, false, false, false, false, false, false, false, false, false, false, false]
abbrev spec_CallsOk.v34 : Array Bool := #[true, true, true, true, true, true, true, true, true, true, true, true, true, true, true, true, true, true, true, true, true, true, true, true, true, true, true, true, true, true, true, true, true, true, false, false, false, false, false, false, false, false, false, false, false, false, false, false, false, false, false, false, false, false, false, false, false, false, false, false, false, false, false, false]
abbrev spec_CallsOk.v35 : Array Bool := #[true, true, true, true, true, true, true, true, true, true, true, true, true, true, true, true, true, true, true, true, true, true, true, true, true, true, true, true, true, true, true, true, true, true, true, false, false, false, false, false, false, false, false, false, false, false, false, false, false, false, false, false, false, false, false, false, false, false, false, false, false, false, false, false]
abbrev spec_CallsOk.v36 : Array Bool := #[true, true, true, true, true, true, true, true, true, true, true, true, true, true, true, true, true, true, true, true, true, true, true, true, true, true, true, true, true, true, true, true, true, true, true, true, false, false, false, false, false, false, false, false, false, false, false, false, false, false, false, false, false, false, false, false, false, false, false, false, false, false, false, false]
abbrev spec_CallsOk.v37 : Array Bool := #[true, true, true, true, true, true, true, true, true, true, true, true, true, true, true, true, true, true, true, true, true, true, true, true, true, true, true, true, true, true, true, true, true, true, true, true, true, false, false, false, false, false, false, false, false, false, false, false, false, false, false, false, false, false, false, false, false, false, false, false, false, false, false, false]
abbrev spec_CallsOk.v38 : Array Bool := #[true, true, true, true, true, true, true, true, true, true, true, true, true, true, true, true, true, true, true, true, true, true, true, true, true, true, true, true, true, true, true, true, true, true, true, true, true, true, false, false, false, false, false, false, false, false, false, false, false, false, false, false, false, false, false, false, false, false, false, false, false, false, false, false]
abbrev spec_CallsOk.v39 : Array Bool := #[true, true, true, true, true, true, true, true, true, true, true, true, true, true, true, true, true, true, true, true, true, true, true, true, true, true, true, true, true, true, true, true, true, true, true, true, true, true, true, false, false, false, false, false, false, false, false, false, false, false, false, false, false, false, false, false, false, false, false, false, false, false, false, false]
abbrev spec_CallsOk.v40 : Array Bool := #[true, true, true, true, true, true, true, true, true, true, true, true, true, true, true, true, true, true, true, true, true, true, true, true, true, true, true, true, true, true, true, true, true, true, true, true, true, true, true, true, false, false, false, false, false, false, false, false, false, false, false, false, false, false, false, false, false, false, false, false, false, false, false, false]
abbrev spec_CallsOk.v41 : Array Bool := #[true, true, true, true, true, true, true, true, true, true, true, true, true, true, true, true, true, true, true, true, true, true, true, true, true, true, true, true, true, true, true, true, true, true, true, true, true, true, true, true, true, false, false, false, false, false, false, false, false, false, false, false, false, false, false, false, false, false, false, false, false, false, false, false]
abbrev spec_CallsOk.v42 : Array Bool := #[true, true, true, true, true, true, true, true, true, true, true, true, true, true, true, true, true, true, true, true, true, true, true, true, true, true, true, true, true, true, true, true, true, true, true, true, true, true, true, true, true, true, false, false, false, false, false, false, false, false, false, false, false, false, false, false, false, false, false, false, false, false, false, false]
abbrev spec_CallsOk.v43 : Array Bool := #[true, true, true, true, true, true, true, true, true, true, true, true, true, true, true, true, true, true, true, true, true, true, true, true, true, true, true, true, true, true, true, true, true, true, true, true, true, true, true, true, true, true, true, false, false, false, false, false, false, false, false, false, false, false, false, false, false, false, false, false, false, false, false, false]
abbrev spec_CallsOk.v44 : Array Bool := #[true, true, true, true, true, true, true, true, true, true, true, true, true, true, true, true, true, true, true, true, true, true, true, true, true, true, true, true, true, true, true, true, true, true, true, true, true, true, true, true, true, true, true, true, false, false, false, false, false, false, false, false, false, false, false, false, false, false, false, false, false, false, false, false]
abbrev spec_CallsOk.v45 : Array Bool := #[true, true, true, true, true, true, true, true, true, true, true, true, true, true, true, true, true, true, true, true, true, true, true, true, true, true, true, true, true, true, true, true, true, true, true, true, true, true, true, true, true, true, true, true, true, false, false, false, false, false, false, false, false, false, false, false, false, false, false, false, false, false, false, false]
abbrev spec_CallsOk.v46 : Array Bool := #[true, true, true, true, true, true, true, true, true, true, true, true, true, true, true, true, true, true, true, true, true, true, true, true, true, true, true, true, true, true, true, true, true, true, true, true, true, true, true, true, true, true, true, true, true, true, false, false, false, false, false, false, false, false, false, false, false, false, false, false, false, false, false, false]
abbrev spec_CallsOk.v47 : Array Bool := #[true, true, true, true, true, true, true, true, true, true, true, true, true, true, true, true, true, true, true, true, true, true, true, true, true, true, true, true, true, true, true, true, true, true, true, true, true, true, true, true, true, true, true, true, true, true, true, false, false, false, false, false, false, false, false, false, false, false, false, false, false, false, false, false]
abbrev spec_CallsOk.v48 : Array Bool := #[true, true, true, true, true, true, true, true, true, true, true, true, true, true, true, true, true, true, true, true, true, true, true, true, true, true, true, true, true, true, true, true, true, true, true, true, true, true, true, true, true, true, true, true, true, true, true, true, false, false, false, false, false, false, false, false, false, false, false, false, false, false, false, false]
abbrev spec_CallsOk.v49 : Array Bool := #[true, true, true, true, true, true, true, true, true, true, true, true, true, true, true, true, true, true, true, true, true, true, true, true, true, true, true, true, true, true, true, true, true, true, true, true, true, true, true, true, true, true, true, true, true, true, true, true, true, false, false, false, false, false, false, false, false, false, false, false, false, false, false, false]
abbrev spec_CallsOk.v50 : Array Bool := #[true, true, true, true, true, true, true, true, true, true, true, true, true, true, true, true, true, true, true, true, true, true, true, true, true, true, true, true, true, true, true, true, true, true, true, true, true, true, true, true, true, true, true, true, true, true, true, true, true, true, false, false, false, false, false, false, false, false, false, false, false, false, false, false]
abbrev spec_CallsOk.v51 : Array Bool := #[true, true, true, true, true, true, true, true, true, true, true, true, true, true, true, true, true, true, true, true, true, true, true, true, true, true, true, true, true, true, true, true, true, true, true, true, true, true, true, true, true, true, true, true, true, true, true, true, true, true, true, false, false, false, false, false, false, false, false, false, false, false, false, false]
abbrev spec_CallsOk.v52 : Array Bool := #[true, true, true, true, true, true, true, true, true, true, true, true, true, true, true, true, true, true, true, true, true, true, true, true, true, true, true, true, true, true, true, true, true, true, true, true, true, true, true, true, true, true, true, true, true, true, true, true, true, true, true, true, false, false, false, false, false, false, false, false, false, false, false, false]
abbrev spec_CallsOk.v53 : Array Bool := #[true, true, true, true, true, true, true, true, true, true, true, true, true, true, true, true, true, true, true, true, true, true, true, true, true, true, true, true, true, true, true, true, true, true, true, true, true, true, true, true, true, true, true, true, true, true, true, true, true, true, true, true, true, false, false, false, false, false, false, false, false, false, false, false]
abbrev spec_CallsOk.v54 : Array Bool := #[true, true, true, true, true, true, true, true, true, true, true, true, true, true, true, true, true, true, true, true, true, true, true, true, true, true, true, true, true, true, true, true, true, true, true, true, true, true, true, true, true, true, true, true, true, true, true, true, true, true, true, true, true, true, false, false, false, false, false, false, false, false, false, false]
abbrev spec_CallsOk.v55 : Array Bool := #[true, true, true, true, true, true, true, true, true, true, true, true, true, true, true, true, true, true, true, true, true, true, true, true, true, true, true, true, true, true, true, true, true, true, true, true, true, true, true, true, true, true, true, true, true, true, true, true, true, true, true, true, true, true, true, false, false, false, false, false, false, false, false, false]
abbrev spec_CallsOk.v56 : Array Bool := #[true, true, true, true, true, true, true, true, true, true, true, true, true, true, true, true, true, true, true, true, true, true, true, true, true, true, true, true, true, true, true, true, true, true, true, true, true, true, true, true, true, true, true, true, true, true, true, true, true, true, true, true, true, true, true, true, false, false, false, false, false, false, false, false]
abbrev spec_CallsOk.v57 : Array Bool := #[true, true, true, true, true, true, true, true, true, true, true, true, true, true, true, true, true, true, true, true, true, true, true, true, true, true, true, true, true, true, true, true, true, true, true, true, true, true, true, true, true, true, true, true, true, true, true, true, true, true, true, true, true, true, true, true, true, false, false, false, false, false, false, false]
abbrev spec_CallsOk.v58 : Array Bool := #[true, true, true, true, true, true, true, true, true, true, true, true, true, true, true, true, true, true, true, true, true, true, true, true, true, true, true, true, true, true, true, true, true, true, true, true, true, true, true, true, true, true, true, true, true, true, true, true, true, true, true, true, true, true, true, true, true, true, false, false, false, false, false, false]
abbrev spec_CallsOk.v59 : Array Bool := #[true, true, true, true, true, true, true, true, true, true, true, true, true, true, true, true, true, true, true, true, true, true, true, true, true, true, true, true, true, true, true, true, true, true, true, true, true, true, true, true, true, true, true, true, true, true, true, true, true, true, true, true, true, true, true, true, true, true, true, false, false, false, false, false]
abbrev spec_CallsOk.v60 : Array Bool := #[true, true, true, true, true, true, true, true, true, true, true, true, true, true, true, true, true, true, true, true, true, true, true, true, true, true, true, true, true, true, true, true, true, true, true, true, true, true, true, true, true, true, true, true, true, true, true, true, true, true, true, true, true, true, true, true, true, true, true, true, false, false, false, false]
abbrev spec_CallsOk.v61 : Array Bool := #[true, true, true, true, true, true, true, true, true, true, true, true, true, true, true, true, true, true, true, true, true, true, true, true, true, true, true, true, true, true, true, true, true, true, true, true, true, true, true, true, true, true, true, true, true, true, true, true, true, true, true, true, true, true, true, true, true, true, true, true, true, false, false, false]
abbrev spec_CallsOk.v62 : Array Bool := #[true, true, true, true, true, true, true, true, true, true, true, true, true, true, true, true, true, true, true, true, true, true, true, true, true, true, true, true, true, true, true, true, true, true, true, true, true, true, true, true, true, true, true, true, true, true, true, true, true, true, true, true, true, true, true, true, true, true, true, true, true, true, false, false]
abbrev spec_CallsOk.v63 : Array Bool := #[true, true, true, true, true, true, true, true, true, true, true, true, true, true, true, true, true, true, true, true, true, true, true, true, true, true, true, true, true, true, true, true, true, true, true, true, true, true, true, true, true, true, true, true, true, true, true, true, true, true, true, true, true, true, true, true, true, true, true, true, true, true, true, false]
abbrev spec_CallsOk.v64 : Array Bool := #[true, true, true, true, true, true, true, true, true, true, true, true, true, true, true, true, true, true, true, true, true, true, true, true, true, true, true, true, true, true, true, true, true, true, true, true, true, true, true, true, true, true, true, true, true, true, true, true, true, true, true, true, true, true, true, true, true, true, true, true, true, true, true, true]
abbrev spec_CallsOk.v65 : Array Bool := #[true, true, true, true, true, true, true, true, true, true, true, true, true, true, true, true, true, true, true, true, true, true, true, true, true, true, true, true, true, true, true, true, true, true, true, true, true, true, true, false, true, false, false, false, false, false, false, false, false, false, false, false, false, false, false, false, false, false, false, false, false, false, false, false]
abbrev spec_CallsOk.v66 : Array Bool := #[true, true, true, true, true, true, true, true, true, true, true, true, true, true, true, true, true, true, true, true, true, true, true, true, true, true, true, true, true, true, true, true, true, true, true, true, true, true, true, true, true, true, true, true, true, true, true, true, true, true, true, true, true, true, true, true, false, true, false, false, false, false, false, false]
abbrev spec_CallsOk.v67 : Array Bool := #[true, true, true, true, true, true, true, true, true, true, true, true, true, true, true, true, true, true, true, true, true, true, true, true, true, true, true, true, true, true, true, true, true, true, true, true, true, true, true, true, true, true, true, true, true, true, true, true, true, true, true, true, true, true, true, true, false, true, false, false, true, false, false, false]
abbrev spec_CallsOk.v68 : Array Bool := #[true, true, true, true, true, true, true, true, true, true, true, true, true, true, true, true, true, true, true, true, true, true, true, true, true, true, true, true, true, true, true, true, true, true, true, true, true, true, true, true, true, true, true, true, true, true, true, true, true, true, true, true, true, true, true, true, true, true, false, false, true, false, false, false]
abbrev spec_CallsOk.v69 : Array Bool := #[true, true, true, true, true, true, true, true, true, true, true, true, true, true, true, true, true, true, true, true, true, true, true, true, true, true, true, true, true, true, true, true, true, true, true, true, true, true, true, true, true, true, true, true, true, true, true, true, true, true, true, true, true, true, true, true, true, true, true, false, true, false, false, false]
abbrev spec_CallsOk.v70 : Array Bool := #[true, true, true, true, true, true, true, true, true, true, true, true, true, true, false, false, false, false, false, false, false, false, false, false, false, false, false, false, false, false, false, false, false, false, false, false, false, false, false, false, false, false, false, false, false, false, false, false, false, false, false, false, false, false, false, false, false, false, false, false, false, false, false, false]
theorem spec_CallsOk.cl5 {w : World} {g : Nat} {t : TypeId} {c0 c1 c2 c3 c4 : Value} (h : w.heap[g]? = some (.cells #[c0, c1, c2, c3, c4] t (0, 0))) : w.cell? ⟨g, 0, none⟩ = some c0 ∧ w.cell? ⟨g, 1, none⟩ = some c1 ∧ w.cell? ⟨g, 2, none⟩ = some c2 ∧ w.cell? ⟨g, 3, none⟩ = some c3 ∧ w.cell? ⟨g, 4, none⟩ = some c4 := ⟨(blk_cell h 0).trans rfl, (blk_cell h 1).trans rfl, (blk_cell h 2).trans rfl, (blk_cell h 3).trans rfl, (blk_cell h 4).trans rfl⟩
theorem spec_CallsOk.fz5 {w : World} {g : Nat} {t : TypeId} {c0 c1 c2 c3 c4 : Value} (h : w.heap[g]? = some (.cells #[c0, c1, c2, c3, c4] t (0, 0))) : w.frozen? ⟨g, 0, none⟩ = false ∧ w.frozen? ⟨g, 1, none⟩ = false ∧ w.frozen? ⟨g, 2, none⟩ = false ∧ w.frozen? ⟨g, 3, none⟩ = false ∧ w.frozen? ⟨g, 4, none⟩ = false := ⟨blk_frozen h 0, blk_frozen h 1, blk_frozen h 2, blk_frozen h 3, blk_frozen h 4⟩
set_option maxHeartbeats 8000000 in
set_option maxRecDepth 100000 in
theorem spec_CallsOk.calls (k : Nat) (a0 : Int) (A1 : Option Addr) (c1 : Nat) (l1 : List (S91)) (r : Bool) (w : World) (hr1 : Kd.C k91 w A1 l1.length l1) (hc1 : l1.length ≤ c1) (h : spec_CallsOk.f k a0 l1 = some r) :
 Calls Try.prog 50 #[.int .i64 a0, .slice A1 l1.length c1] w fun e w' => e = .returned (.bool r) ∧ Below w.heap.size w w' := by
 have hu91 := Try.underlying91
 have HR1 := Aside0.mk hr1
 have HC1 := Aside0.mk hc1
 clear hr1 hc1
 have HB := Aside0.mk (Below.refl w.heap.size w)
 have H : ((spec_l1In.f a0 1 1000).bind fun t120 => (if t120 = true then (spec_CallsOk.j0 k a0 l1 (decide ((l1.length : Int) > 24))) else (spec_CallsOk.j0 k a0 l1 true))) = some r := h
 clear h
 have HC3 := Aside0.mk H
 clear H
 go_enter Try.func50, Try.ntmps50
 go_upto_region 1 with (fail)
 go_cut [14] (fun v14 wc => ∃ (kq : Nat) (x14_2 : Bool), v14 = .bool x14_2 ∧ Aside0 (spec_CallsOk.j0 kq a0 l1 x14_2 = some r) ∧ Aside0 (kq ≤ k) ∧ Aside0 (Below w.heap.size w wc))
 case first =>
  have H := HC3.out
  clear HC3
  replace H := Option.bind_eq_some_iff.mp H
  obtain ⟨t120, A40, H⟩ := H
  (try dsimp only at H)
  have A4 := Aside0.mk A40
  clear A40
  by_cases c5 : t120 = true
  ·subst c5
   rw [if_pos rfl] at H
   have H' := Aside0.mk H
   clear H
   go_wp2_with (first | ((with_reducible refine gate_callee (f := 51) rfl ?_); refine goesL_ (some 8) rfl rfl Try.func51 (by kernel_rfl) rfl #[.int .i64 a0, .int .i64 1, .int .i64 1000] rfl (by (try simp only [List.map_toArray, List.map_cons, List.map_nil]); first | done | rfl | (simp only [List.length_drop, List.length_take]; rfl)) ?_; (with_reducible refine (spec_l1In.calls a0 1 1000 true _ A4.out).mono ?_); rintro e w' ⟨rfl, ⟨nd, rfl⟩⟩; refine ⟨_, rfl, ?_⟩))
   go_meet
   case rel => exact ⟨_, (decide ((l1.length : Int) > 24)), (by first | rfl | (simp; done) | (simp [*]; done)), H', ⟨by first | omega | exact Nat.le_refl _⟩, ⟨by repeat (first | (with_reducible first | exact HB.out | apply below_alloc | apply pw_below_drewN | apply below_drew1) | exact HB.out)⟩⟩
  ·replace c5 := Bool.eq_false_iff.mpr c5
   subst c5
   rw [if_neg (show ¬ (false = true) by decide)] at H
   have H' := Aside0.mk H
   clear H
   go_wp2_with (first | ((with_reducible refine gate_callee (f := 51) rfl ?_); refine goesL_ (some 8) rfl rfl Try.func51 (by kernel_rfl) rfl #[.int .i64 a0, .int .i64 1, .int .i64 1000] rfl (by (try simp only [List.map_toArray, List.map_cons, List.map_nil]); first | done | rfl | (simp only [List.length_drop, List.length_take]; rfl)) ?_; (with_reducible refine (spec_l1In.calls a0 1 1000 false _ A4.out).mono ?_); rintro e w' ⟨rfl, ⟨nd, rfl⟩⟩; refine ⟨_, rfl, ?_⟩))
   go_meet
   case rel => exact ⟨_, (true), (by first | rfl | (simp; done) | (simp [*]; done)), H', ⟨by first | omega | exact Nat.le_refl _⟩, ⟨by repeat (first | (with_reducible first | exact HB.out | apply below_alloc | apply pw_below_drewN | apply below_drew1) | exact HB.out)⟩⟩
 case rest =>
  clear HC3
  (try clear c1)
  obtain ⟨kq, x14_2, rfl, HA, HJ2, HB⟩ := hcut
  cases kq with
  | zero => exact absurd HA.out (by simp [spec_CallsOk.j0])
  | succ kj2 =>
   have H := HA.out
   clear HA
   simp only [spec_CallsOk.j0] at H
   by_cases c6 : x14_2 = true
   ·subst c6
    rw [if_pos rfl] at H
    obtain rfl := Option.some.inj H
    go_wp2
    go_ret
    exact ⟨by first | rfl | (simp [errW_none, errW_some] <;> rfl) | (simp [*, errW_none, errW_some] <;> rfl), by repeat (first | (with_reducible first | exact HB.out | apply below_alloc | apply pw_below_drewN | apply below_drew1) | exact HB.out)⟩
   ·replace c6 := Bool.eq_false_iff.mpr c6
    subst c6
    rw [if_neg (show ¬ (false = true) by decide)] at H
    have H' := Aside0.mk H
    clear H
    go_wp2
    go_loopg [5] kj2 (fun kq v5 w' => ∃ (x5_2 : Int), v5 = .int .i64 x5_2 ∧ Aside0 (spec_CallsOk.l0 kq a0 l1 x5_2 = some r) ∧ Aside0 (kq ≤ kj2) ∧ Aside0 (Below w.heap.size w w'))
    case atStart => exact ⟨(0), (by first | rfl | (simp; done) | (simp [*]; done)), H', ⟨Nat.le_refl _⟩, ⟨by repeat (first | (with_reducible first | exact HB.out | apply below_alloc | apply pw_below_drewN | apply below_drew1) | exact HB.out)⟩⟩
    case round =>
     clear H'
     (try clear c1); (try clear c6)
     obtain ⟨x5_2, rfl, HA, HK2, HB⟩ := hrel
     cases gk with
     | zero => exact absurd HA.out (by simp [spec_CallsOk.l0])
     | succ k2 =>
      have H := HA.out
      clear HA
      simp only [spec_CallsOk.l0] at H
      by_cases c7 : x5_2 < (l1.length : Int)
      ·rw [if_pos c7] at H
       have c7b0 : decide (x5_2 < (l1.length : Int)) = true := decide_eq_true c7
       clear c7
       by_cases c8 : 0 ≤ x5_2
       ·rw [if_pos c8] at H
        have c8b0 : decide (0 ≤ x5_2) = true := decide_eq_true c8
        clear c8
        have HC9 := Aside0.mk H
        clear H
        have p121 : 0 ≤ (x5_2 : Int) := of_decide_eq_true (by first | (with_reducible assumption) | assumption)
        have q121 : x5_2 < (l1.length : Int) := of_decide_eq_true (by first | (with_reducible assumption) | assumption)
        obtain ⟨ad121, e121, hx121_0, hx121_1, hx121_2, hx121_3, hx121_4⟩ := at_T91 HR1.out x5_2 p121 q121
        cases e121
        replace hx121_0 := (HB.out.cell (World.block_lt_of_cell? w _ hx121_0)).trans hx121_0
        replace hx121_1 := (HB.out.cell (World.block_lt_of_cell? w _ hx121_1)).trans hx121_1
        replace hx121_2 := (HB.out.cell (World.block_lt_of_cell? w _ hx121_2)).trans hx121_2
        replace hx121_3 := (HB.out.cell (World.block_lt_of_cell? w _ hx121_3)).trans hx121_3
        replace hx121_4 := (HB.out.cell (World.block_lt_of_cell? w _ hx121_4)).trans hx121_4
        replace p121 := eq_true p121
        replace q121 := eq_true q121
        go_upto_region 7 with (first | ((with_reducible refine gate_dst (N := 6) rfl ?_); (try (refine gate_guard (by rfl) ?_; dsimp only)); refine box_event ?hg (N := 6) ?hd (cs := #[.int .i64 0, .int .i64 0, .int .i64 0, .int .i64 0, .int .i64 0]) (t := 91) ?hr ?_; (case hd => rfl); (case hg => rfl); (case hr => first | (go_simp; done) | (go_simp; rfl)); intro gb122 hg w10 hbox hb; have n0_ := Aside0.mk (below_step (by repeat (first | (with_reducible first | exact HB.out | apply below_alloc | apply pw_below_drewN | apply below_drew1) | exact HB.out)) hb); have n1_ := Aside0.mk (hbox); have n2_ := Aside0.mk ((by rw [hg]; exact (below_size (by repeat (first | (with_reducible first | exact HB.out | apply below_alloc | apply pw_below_drewN | apply below_drew1) | exact HB.out))) : w.heap.size ≤ gb122)); have n3_ := Aside0.mk ((by rw [hg]; exact (below_size (by repeat (first | (with_reducible first | exact HB.out | apply below_alloc | apply pw_below_drewN | apply below_drew1) | exact HB.out))) : w.heap.size ≤ gb122)); clear HB; have HB := n0_; have BK122 := n1_; have GW122 := n2_; have GE122 := n3_; clear n0_ n1_ n2_ n3_; clear hb hbox hg; obtain ⟨hcz11_0, hcz11_1, hcz11_2, hcz11_3, hcz11_4⟩ := spec_CallsOk.cl5 BK122.out; obtain ⟨hfz11_0, hfz11_1, hfz11_2, hfz11_3, hfz11_4⟩ := spec_CallsOk.fz5 BK122.out))
        (try simp only [Act.put, List.setIfInBounds_toArray, List.set_cons_zero, List.set_cons_succ])
        go_cut [88] (fun v88 wc => ∃ (kq : Nat) (x88_8 : Bool), v88 = .bool x88_8 ∧ Aside0 (spec_CallsOk.j2 kq a0 l1 x5_2 x88_8 = some r) ∧ Aside0 (kq ≤ k2) ∧ Aside0 (wc.heap[gb122]? = some (.cells #[.int .i64 ((rd_T91 l1 x5_2).f0), .int .i64 ((rd_T91 l1 x5_2).f1), .int .i64 ((rd_T91 l1 x5_2).f2), .int .i64 ((rd_T91 l1 x5_2).f3), .int .i64 ((rd_T91 l1 x5_2).f4)] 91 (0, 0))) ∧ Aside0 (Below w.heap.size w wc))
        case first =>
         have H := HC9.out
         clear HC9
         replace H := Option.bind_eq_some_iff.mp H
         obtain ⟨t123, A120, H⟩ := H
         (try dsimp only at H)
         have A12 := Aside0.mk A120
         clear A120
         by_cases c13 : t123 = true
         ·subst c13
          rw [if_pos rfl] at H
          by_cases c14 : x5_2 > 0
          ·rw [if_pos c14] at H
           have c14b0 : decide (0 < x5_2) = true := decide_eq_true c14
           clear c14
           (first | rw [c14b0] | (simp only [i64_w, i32_w]; rw [c14b0]) | skip)
           obtain ⟨ji15, hji15⟩ : ∃ j_ : Int, (wrap64 (x5_2 - 1)) = j_ := ⟨_, rfl⟩
           replace H : (if 0 ≤ (ji15) then (if (ji15) < (l1.length : Int) then (if ((rd_T91 l1 (ji15)).f0) ≥ ((rd_T91 l1 x5_2).f0) then (spec_CallsOk.j2 k2 a0 l1 x5_2 true) else ((spec_l1In.f ((rd_T91 l1 x5_2).f1) 1 1000).bind fun t125 => (if t125 = true then ((spec_l1Minute.f ((rd_T91 l1 x5_2).f2)).bind fun t126 => (if t126 = true then ((spec_l1Minute.f ((rd_T91 l1 x5_2).f3)).bind fun t127 => (if t127 = true then (if ((rd_T91 l1 x5_2).f2) ≥ ((rd_T91 l1 x5_2).f3) then (spec_CallsOk.j2 k2 a0 l1 x5_2 true) else ((spec_l1In.f ((rd_T91 l1 x5_2).f4) (-1) 1000).bind fun t128 => (if t128 = true then (if ((rd_T91 l1 x5_2).f4) ≥ 0 then (spec_CallsOk.j2 k2 a0 l1 x5_2 (decide ((wrap64 (((rd_T91 l1 x5_2).f4) + ((rd_T91 l1 x5_2).f1))) > a0))) else (spec_CallsOk.j2 k2 a0 l1 x5_2 false)) else (spec_CallsOk.j2 k2 a0 l1 x5_2 true)))) else (spec_CallsOk.j2 k2 a0 l1 x5_2 true))) else (spec_CallsOk.j2 k2 a0 l1 x5_2 true))) else (spec_CallsOk.j2 k2 a0 l1 x5_2 true)))) else (none)) else (none)) = some r := by first | (rw [hji15] at H; exact H) | (simp only [hji15] at H ⊢; exact H)
           (try rw [hji15] at A12)
           have hji15w : (IntKind.i64.wrap (x5_2 - 1)) = ji15 := (i64_w _).trans hji15
           by_cases c16 : 0 ≤ (ji15)
           ·rw [if_pos c16] at H
            have c16b0 : decide (0 ≤ (ji15)) = true := decide_eq_true c16
            clear c16
            by_cases c17 : (ji15) < (l1.length : Int)
            ·rw [if_pos c17] at H
             have c17b0 : decide ((ji15) < (l1.length : Int)) = true := decide_eq_true c17
             clear c17
             by_cases c18 : ((rd_T91 l1 (ji15)).f0) ≥ ((rd_T91 l1 x5_2).f0)
             ·rw [if_pos c18] at H
              have c18b0 : decide (((rd_T91 l1 x5_2).f0) ≤ ((rd_T91 l1 (ji15)).f0)) = true := decide_eq_true c18
              clear c18
              have H' := Aside0.mk H
              clear H
              try go_wp2
              have n0_ : Aside0 ((((((w10.setCell ⟨gb122, 0, none⟩ (.int .i64 ((rd_T91 l1 x5_2).f0))).setCell ⟨gb122, 1, none⟩ (.int .i64 ((rd_T91 l1 x5_2).f1))).setCell ⟨gb122, 2, none⟩ (.int .i64 ((rd_T91 l1 x5_2).f2))).setCell ⟨gb122, 3, none⟩ (.int .i64 ((rd_T91 l1 x5_2).f3))).setCell ⟨gb122, 4, none⟩ (.int .i64 ((rd_T91 l1 x5_2).f4))).heap[gb122]? = some (.cells #[.int .i64 ((rd_T91 l1 x5_2).f0), .int .i64 ((rd_T91 l1 x5_2).f1), .int .i64 ((rd_T91 l1 x5_2).f2), .int .i64 ((rd_T91 l1 x5_2).f3), .int .i64 ((rd_T91 l1 x5_2).f4)] 91 (0, 0))) := ⟨by (with_reducible repeat (first | refine blk_drewN ?_ _ | refine blk_drew ?_ | refine blk_alloc ?_ _)); refine blk_put (cs := #[.int .i64 ((rd_T91 l1 x5_2).f0), .int .i64 ((rd_T91 l1 x5_2).f1), .int .i64 ((rd_T91 l1 x5_2).f2), .int .i64 ((rd_T91 l1 x5_2).f3), .int .i64 0]) ?_ 4 _ rfl; (with_reducible repeat (first | refine blk_drewN ?_ _ | refine blk_drew ?_ | refine blk_alloc ?_ _)); refine blk_put (cs := #[.int .i64 ((rd_T91 l1 x5_2).f0), .int .i64 ((rd_T91 l1 x5_2).f1), .int .i64 ((rd_T91 l1 x5_2).f2), .int .i64 0, .int .i64 0]) ?_ 3 _ rfl; (with_reducible repeat (first | refine blk_drewN ?_ _ | refine blk_drew ?_ | refine blk_alloc ?_ _)); refine blk_put (cs := #[.int .i64 ((rd_T91 l1 x5_2).f0), .int .i64 ((rd_T91 l1 x5_2).f1), .int .i64 0, .int .i64 0, .int .i64 0]) ?_ 2 _ rfl; (with_reducible repeat (first | refine blk_drewN ?_ _ | refine blk_drew ?_ | refine blk_alloc ?_ _)); refine blk_put (cs := #[.int .i64 ((rd_T91 l1 x5_2).f0), .int .i64 0, .int .i64 0, .int .i64 0, .int .i64 0]) ?_ 1 _ rfl; (with_reducible repeat (first | refine blk_drewN ?_ _ | refine blk_drew ?_ | refine blk_alloc ?_ _)); refine blk_put (cs := #[.int .i64 0, .int .i64 0, .int .i64 0, .int .i64 0, .int .i64 0]) ?_ 0 _ rfl; (with_reducible repeat (first | refine blk_drewN ?_ _ | refine blk_drew ?_ | refine blk_alloc ?_ _)); exact BK122.out⟩
              have n1_ : Aside0 (Below w.heap.size w (((((w10.setCell ⟨gb122, 0, none⟩ (.int .i64 ((rd_T91 l1 x5_2).f0))).setCell ⟨gb122, 1, none⟩ (.int .i64 ((rd_T91 l1 x5_2).f1))).setCell ⟨gb122, 2, none⟩ (.int .i64 ((rd_T91 l1 x5_2).f2))).setCell ⟨gb122, 3, none⟩ (.int .i64 ((rd_T91 l1 x5_2).f3))).setCell ⟨gb122, 4, none⟩ (.int .i64 ((rd_T91 l1 x5_2).f4)))) := ⟨by repeat (first | (with_reducible first | exact HB.out | apply below_alloc | apply pw_below_drewN | apply below_drew1 | refine below_set ?_ GE122.out) | exact HB.out)⟩
              (try clear BK122)
              (try clear HB)
              generalize (((((w10.setCell ⟨gb122, 0, none⟩ (.int .i64 ((rd_T91 l1 x5_2).f0))).setCell ⟨gb122, 1, none⟩ (.int .i64 ((rd_T91 l1 x5_2).f1))).setCell ⟨gb122, 2, none⟩ (.int .i64 ((rd_T91 l1 x5_2).f2))).setCell ⟨gb122, 3, none⟩ (.int .i64 ((rd_T91 l1 x5_2).f3))).setCell ⟨gb122, 4, none⟩ (.int .i64 ((rd_T91 l1 x5_2).f4))) = w19 at n0_ n1_ ⊢
              have BK122 := n0_
              have HB := n1_
              clear n0_ n1_
              have n0_ := Aside0.mk (blk_drew BK122.out)
              have n1_ := Aside0.mk (below_drew1 HB.out)
              clear BK122
              clear HB
              have BK122 := n0_
              have HB := n1_
              clear n0_ n1_
              have p124 : 0 ≤ ((ji15) : Int) := of_decide_eq_true (by first | (with_reducible assumption) | assumption)
              have q124 : (ji15) < (l1.length : Int) := of_decide_eq_true (by first | (with_reducible assumption) | assumption)
              obtain ⟨ad124, e124, hx124_0, hx124_1, hx124_2, hx124_3, hx124_4⟩ := at_T91 HR1.out (ji15) p124 q124
              have hw124_4 := hx124_4
              have hw124_3 := hx124_3
              have hw124_2 := hx124_2
              have hw124_1 := hx124_1
              have hw124_0 := hx124_0
              obtain rfl : ad121 = ad124 := (by injection e124)
              replace hx124_0 := (HB.out.cell (World.block_lt_of_cell? w _ hx124_0)).trans hx124_0
              replace hx124_1 := (HB.out.cell (World.block_lt_of_cell? w _ hx124_1)).trans hx124_1
              replace hx124_2 := (HB.out.cell (World.block_lt_of_cell? w _ hx124_2)).trans hx124_2
              replace hx124_3 := (HB.out.cell (World.block_lt_of_cell? w _ hx124_3)).trans hx124_3
              replace hx124_4 := (HB.out.cell (World.block_lt_of_cell? w _ hx124_4)).trans hx124_4
              replace p124 := eq_true p124
              replace q124 := eq_true q124
              refine start_ (n := 64) (S := fun w' => w'.cell? ⟨gb122, 0, none⟩ = some (.int .i64 ((rd_T91 l1 x5_2).f0)) ∧ w'.cell? ⟨gb122, 1, none⟩ = some (.int .i64 ((rd_T91 l1 x5_2).f1)) ∧ w'.cell? ⟨gb122, 2, none⟩ = some (.int .i64 ((rd_T91 l1 x5_2).f2)) ∧ w'.cell? ⟨gb122, 3, none⟩ = some (.int .i64 ((rd_T91 l1 x5_2).f3)) ∧ w'.cell? ⟨gb122, 4, none⟩ = some (.int .i64 ((rd_T91 l1 x5_2).f4)) ∧ w'.cell? (ad121.add (((ji15)).toNat * 5)) = some (.int .i64 ((rd_T91 l1 (ji15)).f0)) ∧ w'.cell? ⟨(ad121.add (((ji15)).toNat * 5)).block, (ad121.add (((ji15)).toNat * 5)).off + 1, none⟩ = some (.int .i64 ((rd_T91 l1 (ji15)).f1)) ∧ w'.cell? ⟨(ad121.add (((ji15)).toNat * 5)).block, (ad121.add (((ji15)).toNat * 5)).off + 2, none⟩ = some (.int .i64 ((rd_T91 l1 (ji15)).f2)) ∧ w'.cell? ⟨(ad121.add (((ji15)).toNat * 5)).block, (ad121.add (((ji15)).toNat * 5)).off + 3, none⟩ = some (.int .i64 ((rd_T91 l1 (ji15)).f3)) ∧ w'.cell? ⟨(ad121.add (((ji15)).toNat * 5)).block, (ad121.add (((ji15)).toNat * 5)).off + 4, none⟩ = some (.int .i64 ((rd_T91 l1 (ji15)).f4))) (ds := []) spec_CallsOk.v0 (by kernel_rfl) rfl rfl ⟨(blk_cell BK122.out 0).trans rfl, (blk_cell BK122.out 1).trans rfl, (blk_cell BK122.out 2).trans rfl, (blk_cell BK122.out 3).trans rfl, (blk_cell BK122.out 4).trans rfl, ((HB.out.cell (World.block_lt_of_cell? w _ hw124_0)).trans hw124_0), ((HB.out.cell (World.block_lt_of_cell? w _ hw124_1)).trans hw124_1), ((HB.out.cell (World.block_lt_of_cell? w _ hw124_2)).trans hw124_2), ((HB.out.cell (World.block_lt_of_cell? w _ hw124_3)).trans hw124_3), ((HB.out.cell (World.block_lt_of_cell? w _ hw124_4)).trans hw124_4)⟩ (fun hHeld => ?_); refine with_tabW spec_CallsOk.tab7 spec_CallsOk.bits7 (fun HT_ HW_ => ?_)
              generalize w19.drew = w20 at BK122 HB hx124_0 hx124_1 hx124_2 hx124_3 hx124_4 hHeld ⊢
              refine Sk.pq 0 25 spec_CallsOk.v1 HT_.out (h := ?_)
              refine Sk.tk10 1 26 spec_CallsOk.v2 HT_.out HW_.out hHeld (h := ?_)
              refine one_ (i := 2) (N := some 27) spec_CallsOk.v3 rfl rfl (one_of HT_.out (by kernel_rfl)) (by decide) (fun K hK => ?_)
              refine goes_ Try.func51 (by kernel_rfl) rfl #[.int .i64 ((rd_T91 l1 x5_2).f0), .int .i64 1, .int .i64 1000000] (by rfl) rfl rfl (by (try simp only [List.map_toArray, List.map_cons, List.map_nil]); first | done | rfl | (simp only [List.length_drop, List.length_take]; rfl)) ?_
              with_reducible refine (spec_l1In.calls ((rd_T91 l1 x5_2).f0) 1 1000000 true _ A12.out).mono ?_
              rintro e w' ⟨rfl, ⟨nd, rfl⟩⟩
              refine ⟨_, rfl, ?_⟩
              refine hK.out _ _ ⟨(blk_cell BK122.out 0).trans rfl, (blk_cell BK122.out 1).trans rfl, (blk_cell BK122.out 2).trans rfl, (blk_cell BK122.out 3).trans rfl, (blk_cell BK122.out 4).trans rfl, ((HB.out.cell (World.block_lt_of_cell? w _ hw124_0)).trans hw124_0), ((HB.out.cell (World.block_lt_of_cell? w _ hw124_1)).trans hw124_1), ((HB.out.cell (World.block_lt_of_cell? w _ hw124_2)).trans hw124_2), ((HB.out.cell (World.block_lt_of_cell? w _ hw124_3)).trans hw124_3), ((HB.out.cell (World.block_lt_of_cell? w _ hw124_4)).trans hw124_4)⟩ (fun hHeld => ?_)
              clear hK K
              refine Sk.nm 27 (h := ?_)
              refine Sk.pq 3 28 spec_CallsOk.v4 HT_.out (h := ?_)
              refine Sk.pq 4 29 spec_CallsOk.v5 HT_.out (h := ?_)
              refine Sk.pq 5 30 spec_CallsOk.v6 HT_.out (h := ?_)
              refine Sk.pq 6 31 spec_CallsOk.v7 HT_.out (h := ?_)
              refine Sk.pq 7 32 spec_CallsOk.v8 HT_.out (h := ?_)
              refine Sk.pq 8 33 spec_CallsOk.v9 HT_.out (h := ?_)
              refine Sk.pq 9 34 spec_CallsOk.v10 HT_.out (h := ?_)
              refine Sk.pq 10 35 spec_CallsOk.v11 HT_.out (h := ?_)
              refine Sk.pq 11 36 spec_CallsOk.v12 HT_.out (h := ?_)
              refine Sk.pq 12 37 spec_CallsOk.v13 HT_.out (h := ?_)
              refine Sk.pq 14 39 spec_CallsOk.v14 HT_.out (h := ?_)
              refine Sk.tk10 13 38 spec_CallsOk.v15 HT_.out HW_.out hHeld (h := ?_)
              refine Sk.tk10 15 40 spec_CallsOk.v16 HT_.out HW_.out hHeld (h := ?_)
              refine Sk.pq 16 41 spec_CallsOk.v17 HT_.out (h := ?_)
              refine Sk.pq 17 42 spec_CallsOk.v18 HT_.out (h := ?_)
              refine Sk.pq 18 43 spec_CallsOk.v19 HT_.out (h := ?_)
              refine Sk.pq 19 44 spec_CallsOk.v20 HT_.out (h := ?_)
              refine Sk.pu 20 45 spec_CallsOk.v21 HT_.out (h := ?_)
              refine Sk.pu 21 46 spec_CallsOk.v22 HT_.out (h := ?_)
              refine Sk.pu 22 47 spec_CallsOk.v23 HT_.out (h := ?_)
              refine Sk.pu 23 48 spec_CallsOk.v24 HT_.out (h := ?_)
              refine Sk.pq 24 49 spec_CallsOk.v25 HT_.out (h := ?_)
              refine Sk.pq 25 50 spec_CallsOk.v26 HT_.out (h := ?_)
              refine Sk.pu 26 51 spec_CallsOk.v27 HT_.out (h := ?_)
              refine Sk.pu 27 52 spec_CallsOk.v28 HT_.out (h := ?_)
              refine Sk.pu 28 53 spec_CallsOk.v29 HT_.out (h := ?_)
              refine Sk.pu 29 54 spec_CallsOk.v30 HT_.out (h := ?_)
              refine Sk.pq 30 55 spec_CallsOk.v31 HT_.out (h := ?_)
              refine Sk.pq 31 56 spec_CallsOk.v32 HT_.out (h := ?_)
              refine Sk.pu 32 57 spec_CallsOk.v33 HT_.out (h := ?_)
              refine Sk.pu 33 58 spec_CallsOk.v34 HT_.out (h := ?_)
              refine Sk.pu 34 59 spec_CallsOk.v35 HT_.out (h := ?_)
              refine Sk.pu 35 60 spec_CallsOk.v36 HT_.out (h := ?_)
              refine Sk.pq 36 61 spec_CallsOk.v37 HT_.out (h := ?_)
              refine Sk.pq 37 62 spec_CallsOk.v38 HT_.out (h := ?_)
              refine Sk.pu 38 63 spec_CallsOk.v39 HT_.out (h := ?_)
              refine Sk.pu 39 64 spec_CallsOk.v40 HT_.out (h := ?_)
              refine Sk.pu 40 65 spec_CallsOk.v41 HT_.out (h := ?_)
              refine Sk.pu 41 66 spec_CallsOk.v42 HT_.out (h := ?_)
              refine Sk.pu 42 67 spec_CallsOk.v43 HT_.out (h := ?_)
              refine Sk.pq 43 68 spec_CallsOk.v44 HT_.out (h := ?_)
              refine Sk.pq 44 69 spec_CallsOk.v45 HT_.out (h := ?_)
              refine Sk.pu 45 70 spec_CallsOk.v46 HT_.out (h := ?_)
              refine Sk.pu 46 71 spec_CallsOk.v47 HT_.out (h := ?_)
              refine Sk.pu 47 72 spec_CallsOk.v48 HT_.out (h := ?_)
              refine Sk.pu 48 73 spec_CallsOk.v49 HT_.out (h := ?_)
              refine Sk.pq 49 74 spec_CallsOk.v50 HT_.out (h := ?_)
              refine Sk.pq 50 75 spec_CallsOk.v51 HT_.out (h := ?_)
              refine Sk.pu 51 76 spec_CallsOk.v52 HT_.out (h := ?_)
              refine Sk.pu 52 77 spec_CallsOk.v53 HT_.out (h := ?_)
              refine Sk.pu 53 78 spec_CallsOk.v54 HT_.out (h := ?_)
              refine Sk.pu 54 79 spec_CallsOk.v55 HT_.out (h := ?_)
              refine Sk.pu 55 80 spec_CallsOk.v56 HT_.out (h := ?_)
              refine Sk.pu 56 81 spec_CallsOk.v57 HT_.out (h := ?_)
              refine Sk.pu 57 82 spec_CallsOk.v58 HT_.out (h := ?_)
              refine Sk.pu 58 83 spec_CallsOk.v59 HT_.out (h := ?_)
              refine Sk.pu 59 84 spec_CallsOk.v60 HT_.out (h := ?_)
              refine Sk.pu 60 85 spec_CallsOk.v61 HT_.out (h := ?_)
              refine Sk.pu 61 86 spec_CallsOk.v62 HT_.out (h := ?_)
              refine Sk.pu 62 87 spec_CallsOk.v63 HT_.out (h := ?_)
              refine Sk.pq 63 88 spec_CallsOk.v64 HT_.out (h := ?_)
              refine done_ (done_of HT_.out (by kernel_rfl)) ?_
              try go_wp2
              go_meet
              case rel => exact ⟨_, (true), (by first | rfl | (simp; done) | (simp [*]; done)), H', ⟨by have := HJ2.out; have := HK2.out; first | omega | exact Nat.le_refl _⟩, ⟨by (with_reducible repeat (first | refine blk_drewN ?_ _ | refine blk_drew ?_ | refine blk_alloc ?_ _)); exact BK122.out⟩, ⟨by repeat (first | (with_reducible first | exact HB.out | apply below_alloc | apply pw_below_drewN | apply below_drew1 | refine below_set ?_ GE122.out) | exact HB.out)⟩⟩
             ·rw [if_neg c18] at H
              have c18b0 : decide (((rd_T91 l1 x5_2).f0) ≤ ((rd_T91 l1 (ji15)).f0)) = false := decide_eq_false c18
              clear c18
              replace H := Option.bind_eq_some_iff.mp H
              obtain ⟨t125, A210, H⟩ := H
              (try dsimp only at H)
              have A21 := Aside0.mk A210
              clear A210
              by_cases c22 : t125 = true
              ·subst c22
               rw [if_pos rfl] at H
               replace H := Option.bind_eq_some_iff.mp H
               obtain ⟨t126, A230, H⟩ := H
               (try dsimp only at H)
               have A23 := Aside0.mk A230
               clear A230
               by_cases c24 : t126 = true
               ·subst c24
                rw [if_pos rfl] at H
                replace H := Option.bind_eq_some_iff.mp H
                obtain ⟨t127, A250, H⟩ := H
                (try dsimp only at H)
                have A25 := Aside0.mk A250
                clear A250
                by_cases c26 : t127 = true
                ·subst c26
                 rw [if_pos rfl] at H
                 by_cases c27 : ((rd_T91 l1 x5_2).f2) ≥ ((rd_T91 l1 x5_2).f3)
                 ·rw [if_pos c27] at H
                  have c27b0 : decide (((rd_T91 l1 x5_2).f3) ≤ ((rd_T91 l1 x5_2).f2)) = true := decide_eq_true c27
                  clear c27
                  have H' := Aside0.mk H
                  clear H
                  try go_wp2
                  have n0_ : Aside0 ((((((w10.setCell ⟨gb122, 0, none⟩ (.int .i64 ((rd_T91 l1 x5_2).f0))).setCell ⟨gb122, 1, none⟩ (.int .i64 ((rd_T91 l1 x5_2).f1))).setCell ⟨gb122, 2, none⟩ (.int .i64 ((rd_T91 l1 x5_2).f2))).setCell ⟨gb122, 3, none⟩ (.int .i64 ((rd_T91 l1 x5_2).f3))).setCell ⟨gb122, 4, none⟩ (.int .i64 ((rd_T91 l1 x5_2).f4))).heap[gb122]? = some (.cells #[.int .i64 ((rd_T91 l1 x5_2).f0), .int .i64 ((rd_T91 l1 x5_2).f1), .int .i64 ((rd_T91 l1 x5_2).f2), .int .i64 ((rd_T91 l1 x5_2).f3), .int .i64 ((rd_T91 l1 x5_2).f4)] 91 (0, 0))) := ⟨by (with_reducible repeat (first | refine blk_drewN ?_ _ | refine blk_drew ?_ | refine blk_alloc ?_ _)); refine blk_put (cs := #[.int .i64 ((rd_T91 l1 x5_2).f0), .int .i64 ((rd_T91 l1 x5_2).f1), .int .i64 ((rd_T91 l1 x5_2).f2), .int .i64 ((rd_T91 l1 x5_2).f3), .int .i64 0]) ?_ 4 _ rfl; (with_reducible repeat (first | refine blk_drewN ?_ _ | refine blk_drew ?_ | refine blk_alloc ?_ _)); refine blk_put (cs := #[.int .i64 ((rd_T91 l1 x5_2).f0), .int .i64 ((rd_T91 l1 x5_2).f1), .int .i64 ((rd_T91 l1 x5_2).f2), .int .i64 0, .int .i64 0]) ?_ 3 _ rfl; (with_reducible repeat (first | refine blk_drewN ?_ _ | refine blk_drew ?_ | refine blk_alloc ?_ _)); refine blk_put (cs := #[.int .i64 ((rd_T91 l1 x5_2).f0), .int .i64 ((rd_T91 l1 x5_2).f1), .int .i64 0, .int .i64 0, .int .i64 0]) ?_ 2 _ rfl; (with_reducible repeat (first | refine blk_drewN ?_ _ | refine blk_drew ?_ | refine blk_alloc ?_ _)); refine blk_put (cs := #[.int .i64 ((rd_T91 l1 x5_2).f0), .int .i64 0, .int .i64 0, .int .i64 0, .int .i64 0]) ?_ 1 _ rfl; (with_reducible repeat (first | refine blk_drewN ?_ _ | refine blk_drew ?_ | refine blk_alloc ?_ _)); refine blk_put (cs := #[.int .i64 0, .int .i64 0, .int .i64 0, .int .i64 0, .int .i64 0]) ?_ 0 _ rfl; (with_reducible repeat (first | refine blk_drewN ?_ _ | refine blk_drew ?_ | refine blk_alloc ?_ _)); exact BK122.out⟩
                  have n1_ : Aside0 (Below w.heap.size w (((((w10.setCell ⟨gb122, 0, none⟩ (.int .i64 ((rd_T91 l1 x5_2).f0))).setCell ⟨gb122, 1, none⟩ (.int .i64 ((rd_T91 l1 x5_2).f1))).setCell ⟨gb122, 2, none⟩ (.int .i64 ((rd_T91 l1 x5_2).f2))).setCell ⟨gb122, 3, none⟩ (.int .i64 ((rd_T91 l1 x5_2).f3))).setCell ⟨gb122, 4, none⟩ (.int .i64 ((rd_T91 l1 x5_2).f4)))) := ⟨by repeat (first | (with_reducible first | exact HB.out | apply below_alloc | apply pw_below_drewN | apply below_drew1 | refine below_set ?_ GE122.out) | exact HB.out)⟩
                  (try clear BK122)
                  (try clear HB)
                  generalize (((((w10.setCell ⟨gb122, 0, none⟩ (.int .i64 ((rd_T91 l1 x5_2).f0))).setCell ⟨gb122, 1, none⟩ (.int .i64 ((rd_T91 l1 x5_2).f1))).setCell ⟨gb122, 2, none⟩ (.int .i64 ((rd_T91 l1 x5_2).f2))).setCell ⟨gb122, 3, none⟩ (.int .i64 ((rd_T91 l1 x5_2).f3))).setCell ⟨gb122, 4, none⟩ (.int .i64 ((rd_T91 l1 x5_2).f4))) = w28 at n0_ n1_ ⊢
                  have BK122 := n0_
                  have HB := n1_
                  clear n0_ n1_
                  have n0_ := Aside0.mk (blk_drew BK122.out)
                  have n1_ := Aside0.mk (below_drew1 HB.out)
                  clear BK122
                  clear HB
                  have BK122 := n0_
                  have HB := n1_
                  clear n0_ n1_
                  have p124 : 0 ≤ ((ji15) : Int) := of_decide_eq_true (by first | (with_reducible assumption) | assumption)
                  have q124 : (ji15) < (l1.length : Int) := of_decide_eq_true (by first | (with_reducible assumption) | assumption)
                  obtain ⟨ad124, e124, hx124_0, hx124_1, hx124_2, hx124_3, hx124_4⟩ := at_T91 HR1.out (ji15) p124 q124
                  have hw124_4 := hx124_4
                  have hw124_3 := hx124_3
                  have hw124_2 := hx124_2
                  have hw124_1 := hx124_1
                  have hw124_0 := hx124_0
                  obtain rfl : ad121 = ad124 := (by injection e124)
                  replace hx124_0 := (HB.out.cell (World.block_lt_of_cell? w _ hx124_0)).trans hx124_0
                  replace hx124_1 := (HB.out.cell (World.block_lt_of_cell? w _ hx124_1)).trans hx124_1
                  replace hx124_2 := (HB.out.cell (World.block_lt_of_cell? w _ hx124_2)).trans hx124_2
                  replace hx124_3 := (HB.out.cell (World.block_lt_of_cell? w _ hx124_3)).trans hx124_3
                  replace hx124_4 := (HB.out.cell (World.block_lt_of_cell? w _ hx124_4)).trans hx124_4
                  replace p124 := eq_true p124
                  replace q124 := eq_true q124
                  refine start_ (n := 64) (S := fun w' => w'.cell? ⟨gb122, 0, none⟩ = some (.int .i64 ((rd_T91 l1 x5_2).f0)) ∧ w'.cell? ⟨gb122, 1, none⟩ = some (.int .i64 ((rd_T91 l1 x5_2).f1)) ∧ w'.cell? ⟨gb122, 2, none⟩ = some (.int .i64 ((rd_T91 l1 x5_2).f2)) ∧ w'.cell? ⟨gb122, 3, none⟩ = some (.int .i64 ((rd_T91 l1 x5_2).f3)) ∧ w'.cell? ⟨gb122, 4, none⟩ = some (.int .i64 ((rd_T91 l1 x5_2).f4)) ∧ w'.cell? (ad121.add (((ji15)).toNat * 5)) = some (.int .i64 ((rd_T91 l1 (ji15)).f0)) ∧ w'.cell? ⟨(ad121.add (((ji15)).toNat * 5)).block, (ad121.add (((ji15)).toNat * 5)).off + 1, none⟩ = some (.int .i64 ((rd_T91 l1 (ji15)).f1)) ∧ w'.cell? ⟨(ad121.add (((ji15)).toNat * 5)).block, (ad121.add (((ji15)).toNat * 5)).off + 2, none⟩ = some (.int .i64 ((rd_T91 l1 (ji15)).f2)) ∧ w'.cell? ⟨(ad121.add (((ji15)).toNat * 5)).block, (ad121.add (((ji15)).toNat * 5)).off + 3, none⟩ = some (.int .i64 ((rd_T91 l1 (ji15)).f3)) ∧ w'.cell? ⟨(ad121.add (((ji15)).toNat * 5)).block, (ad121.add (((ji15)).toNat * 5)).off + 4, none⟩ = some (.int .i64 ((rd_T91 l1 (ji15)).f4))) (ds := []) spec_CallsOk.v0 (by kernel_rfl) rfl rfl ⟨(blk_cell BK122.out 0).trans rfl, (blk_cell BK122.out 1).trans rfl, (blk_cell BK122.out 2).trans rfl, (blk_cell BK122.out 3).trans rfl, (blk_cell BK122.out 4).trans rfl, ((HB.out.cell (World.block_lt_of_cell? w _ hw124_0)).trans hw124_0), ((HB.out.cell (World.block_lt_of_cell? w _ hw124_1)).trans hw124_1), ((HB.out.cell (World.block_lt_of_cell? w _ hw124_2)).trans hw124_2), ((HB.out.cell (World.block_lt_of_cell? w _ hw124_3)).trans hw124_3), ((HB.out.cell (World.block_lt_of_cell? w _ hw124_4)).trans hw124_4)⟩ (fun hHeld => ?_); refine with_tabW spec_CallsOk.tab7 spec_CallsOk.bits7 (fun HT_ HW_ => ?_)
                  generalize w28.drew = w29 at BK122 HB hx124_0 hx124_1 hx124_2 hx124_3 hx124_4 hHeld ⊢
                  refine Sk.pq 0 25 spec_CallsOk.v1 HT_.out (h := ?_)
                  refine Sk.tk10 1 26 spec_CallsOk.v2 HT_.out HW_.out hHeld (h := ?_)
                  refine one_ (i := 2) (N := some 27) spec_CallsOk.v3 rfl rfl (one_of HT_.out (by kernel_rfl)) (by decide) (fun K hK => ?_)
                  refine goes_ Try.func51 (by kernel_rfl) rfl #[.int .i64 ((rd_T91 l1 x5_2).f0), .int .i64 1, .int .i64 1000000] (by rfl) rfl rfl (by (try simp only [List.map_toArray, List.map_cons, List.map_nil]); first | done | rfl | (simp only [List.length_drop, List.length_take]; rfl)) ?_
                  with_reducible refine (spec_l1In.calls ((rd_T91 l1 x5_2).f0) 1 1000000 true _ A12.out).mono ?_
                  rintro e w' ⟨rfl, ⟨nd, rfl⟩⟩
                  refine ⟨_, rfl, ?_⟩
                  refine hK.out _ _ ⟨(blk_cell BK122.out 0).trans rfl, (blk_cell BK122.out 1).trans rfl, (blk_cell BK122.out 2).trans rfl, (blk_cell BK122.out 3).trans rfl, (blk_cell BK122.out 4).trans rfl, ((HB.out.cell (World.block_lt_of_cell? w _ hw124_0)).trans hw124_0), ((HB.out.cell (World.block_lt_of_cell? w _ hw124_1)).trans hw124_1), ((HB.out.cell (World.block_lt_of_cell? w _ hw124_2)).trans hw124_2), ((HB.out.cell (World.block_lt_of_cell? w _ hw124_3)).trans hw124_3), ((HB.out.cell (World.block_lt_of_cell? w _ hw124_4)).trans hw124_4)⟩ (fun hHeld => ?_)
                  clear hK K
                  refine Sk.nm 27 (h := ?_)
                  refine Sk.pq 3 28 spec_CallsOk.v4 HT_.out (h := ?_)
                  refine Sk.pq 4 29 spec_CallsOk.v5 HT_.out (h := ?_)
                  refine Sk.pq 5 30 spec_CallsOk.v6 HT_.out (h := ?_)
                  refine Sk.pq 6 31 spec_CallsOk.v7 HT_.out (h := ?_)
                  refine Sk.pq 7 32 spec_CallsOk.v8 HT_.out (h := ?_)
                  refine Sk.pq 8 33 spec_CallsOk.v9 HT_.out (h := ?_)
                  refine Sk.pq 9 34 spec_CallsOk.v10 HT_.out (h := ?_)
                  refine Sk.pq 10 35 spec_CallsOk.v11 HT_.out (h := ?_)
                  refine Sk.pq 11 36 spec_CallsOk.v12 HT_.out (h := ?_)
                  refine Sk.pq 12 37 spec_CallsOk.v13 HT_.out (h := ?_)
                  refine Sk.pq 14 39 spec_CallsOk.v14 HT_.out (h := ?_)
                  refine Sk.tk10 13 38 spec_CallsOk.v15 HT_.out HW_.out hHeld (h := ?_)
                  refine Sk.tk10 15 40 spec_CallsOk.v16 HT_.out HW_.out hHeld (h := ?_)
                  refine Sk.pq 16 41 spec_CallsOk.v17 HT_.out (h := ?_)
                  refine Sk.pq 17 42 spec_CallsOk.v18 HT_.out (h := ?_)
                  refine Sk.pq 18 43 spec_CallsOk.v19 HT_.out (h := ?_)
                  refine Sk.pq 19 44 spec_CallsOk.v20 HT_.out (h := ?_)
                  refine Sk.pq 20 45 spec_CallsOk.v21 HT_.out (h := ?_)
                  refine Sk.tk10 21 46 spec_CallsOk.v22 HT_.out HW_.out hHeld (h := ?_)
                  refine one_ (i := 22) (N := some 47) spec_CallsOk.v23 rfl rfl (one_of HT_.out (by kernel_rfl)) (by decide) (fun K hK => ?_)
                  refine goes_ Try.func51 (by kernel_rfl) rfl #[.int .i64 ((rd_T91 l1 x5_2).f1), .int .i64 1, .int .i64 1000] (by rfl) rfl rfl (by (try simp only [List.map_toArray, List.map_cons, List.map_nil]); first | done | rfl | (simp only [List.length_drop, List.length_take]; rfl)) ?_
                  with_reducible refine (spec_l1In.calls ((rd_T91 l1 x5_2).f1) 1 1000 true _ A21.out).mono ?_
                  rintro e w' ⟨rfl, ⟨nd, rfl⟩⟩
                  refine ⟨_, rfl, ?_⟩
                  refine hK.out _ _ ⟨(blk_cell BK122.out 0).trans rfl, (blk_cell BK122.out 1).trans rfl, (blk_cell BK122.out 2).trans rfl, (blk_cell BK122.out 3).trans rfl, (blk_cell BK122.out 4).trans rfl, ((HB.out.cell (World.block_lt_of_cell? w _ hw124_0)).trans hw124_0), ((HB.out.cell (World.block_lt_of_cell? w _ hw124_1)).trans hw124_1), ((HB.out.cell (World.block_lt_of_cell? w _ hw124_2)).trans hw124_2), ((HB.out.cell (World.block_lt_of_cell? w _ hw124_3)).trans hw124_3), ((HB.out.cell (World.block_lt_of_cell? w _ hw124_4)).trans hw124_4)⟩ (fun hHeld => ?_)
                  clear hK K
                  refine Sk.nm 47 (h := ?_)
                  refine Sk.pq 23 48 spec_CallsOk.v24 HT_.out (h := ?_)
                  refine Sk.pq 24 49 spec_CallsOk.v25 HT_.out (h := ?_)
                  refine Sk.pq 25 50 spec_CallsOk.v26 HT_.out (h := ?_)
                  refine Sk.pq 26 51 spec_CallsOk.v27 HT_.out (h := ?_)
                  refine Sk.tk10 27 52 spec_CallsOk.v28 HT_.out HW_.out hHeld (h := ?_)
                  refine one_ (i := 28) (N := some 53) spec_CallsOk.v29 rfl rfl (one_of HT_.out (by kernel_rfl)) (by decide) (fun K hK => ?_)
                  refine goes_ Try.func102 (by kernel_rfl) rfl #[.int .i64 ((rd_T91 l1 x5_2).f2)] (by rfl) rfl rfl (by (try simp only [List.map_toArray, List.map_cons, List.map_nil]); first | done | rfl | (simp only [List.length_drop, List.length_take]; rfl)) ?_
                  with_reducible refine (spec_l1Minute.calls ((rd_T91 l1 x5_2).f2) true _ A23.out).mono ?_
                  rintro e w' ⟨rfl, ⟨nd, rfl⟩⟩
                  refine ⟨_, rfl, ?_⟩
                  refine hK.out _ _ ⟨(blk_cell BK122.out 0).trans rfl, (blk_cell BK122.out 1).trans rfl, (blk_cell BK122.out 2).trans rfl, (blk_cell BK122.out 3).trans rfl, (blk_cell BK122.out 4).trans rfl, ((HB.out.cell (World.block_lt_of_cell? w _ hw124_0)).trans hw124_0), ((HB.out.cell (World.block_lt_of_cell? w _ hw124_1)).trans hw124_1), ((HB.out.cell (World.block_lt_of_cell? w _ hw124_2)).trans hw124_2), ((HB.out.cell (World.block_lt_of_cell? w _ hw124_3)).trans hw124_3), ((HB.out.cell (World.block_lt_of_cell? w _ hw124_4)).trans hw124_4)⟩ (fun hHeld => ?_)
                  clear hK K
                  refine Sk.nm 53 (h := ?_)
                  refine Sk.pq 29 54 spec_CallsOk.v30 HT_.out (h := ?_)
                  refine Sk.pq 30 55 spec_CallsOk.v31 HT_.out (h := ?_)
                  refine Sk.pq 31 56 spec_CallsOk.v32 HT_.out (h := ?_)
                  refine Sk.pq 32 57 spec_CallsOk.v33 HT_.out (h := ?_)
                  refine Sk.tk10 33 58 spec_CallsOk.v34 HT_.out HW_.out hHeld (h := ?_)
                  refine one_ (i := 34) (N := some 59) spec_CallsOk.v35 rfl rfl (one_of HT_.out (by kernel_rfl)) (by decide) (fun K hK => ?_)
                  refine goes_ Try.func102 (by kernel_rfl) rfl #[.int .i64 ((rd_T91 l1 x5_2).f3)] (by rfl) rfl rfl (by (try simp only [List.map_toArray, List.map_cons, List.map_nil]); first | done | rfl | (simp only [List.length_drop, List.length_take]; rfl)) ?_
                  with_reducible refine (spec_l1Minute.calls ((rd_T91 l1 x5_2).f3) true _ A25.out).mono ?_
                  rintro e w' ⟨rfl, ⟨nd, rfl⟩⟩
                  refine ⟨_, rfl, ?_⟩
                  refine hK.out _ _ ⟨(blk_cell BK122.out 0).trans rfl, (blk_cell BK122.out 1).trans rfl, (blk_cell BK122.out 2).trans rfl, (blk_cell BK122.out 3).trans rfl, (blk_cell BK122.out 4).trans rfl, ((HB.out.cell (World.block_lt_of_cell? w _ hw124_0)).trans hw124_0), ((HB.out.cell (World.block_lt_of_cell? w _ hw124_1)).trans hw124_1), ((HB.out.cell (World.block_lt_of_cell? w _ hw124_2)).trans hw124_2), ((HB.out.cell (World.block_lt_of_cell? w _ hw124_3)).trans hw124_3), ((HB.out.cell (World.block_lt_of_cell? w _ hw124_4)).trans hw124_4)⟩ (fun hHeld => ?_)
                  clear hK K
                  refine Sk.nm 59 (h := ?_)
                  refine Sk.pq 35 60 spec_CallsOk.v36 HT_.out (h := ?_)
                  refine Sk.pq 36 61 spec_CallsOk.v37 HT_.out (h := ?_)
                  refine Sk.pq 37 62 spec_CallsOk.v38 HT_.out (h := ?_)
                  refine Sk.pq 38 63 spec_CallsOk.v39 HT_.out (h := ?_)
                  refine Sk.pq 40 65 spec_CallsOk.v65 HT_.out (h := ?_)
                  refine Sk.tk10 39 64 spec_CallsOk.v41 HT_.out HW_.out hHeld (h := ?_)
                  refine Sk.tk10 41 66 spec_CallsOk.v42 HT_.out HW_.out hHeld (h := ?_)
                  refine Sk.pq 42 67 spec_CallsOk.v43 HT_.out (h := ?_)
                  refine Sk.pq 43 68 spec_CallsOk.v44 HT_.out (h := ?_)
                  refine Sk.pq 44 69 spec_CallsOk.v45 HT_.out (h := ?_)
                  refine Sk.pu 45 70 spec_CallsOk.v46 HT_.out (h := ?_)
                  refine Sk.pu 46 71 spec_CallsOk.v47 HT_.out (h := ?_)
                  refine Sk.pu 47 72 spec_CallsOk.v48 HT_.out (h := ?_)
                  refine Sk.pu 48 73 spec_CallsOk.v49 HT_.out (h := ?_)
                  refine Sk.pq 49 74 spec_CallsOk.v50 HT_.out (h := ?_)
                  refine Sk.pq 50 75 spec_CallsOk.v51 HT_.out (h := ?_)
                  refine Sk.pu 51 76 spec_CallsOk.v52 HT_.out (h := ?_)
                  refine Sk.pu 52 77 spec_CallsOk.v53 HT_.out (h := ?_)
                  refine Sk.pu 53 78 spec_CallsOk.v54 HT_.out (h := ?_)
                  refine Sk.pu 54 79 spec_CallsOk.v55 HT_.out (h := ?_)
                  refine Sk.pu 55 80 spec_CallsOk.v56 HT_.out (h := ?_)
                  refine Sk.pu 56 81 spec_CallsOk.v57 HT_.out (h := ?_)
                  refine Sk.pu 57 82 spec_CallsOk.v58 HT_.out (h := ?_)
                  refine Sk.pu 58 83 spec_CallsOk.v59 HT_.out (h := ?_)
                  refine Sk.pu 59 84 spec_CallsOk.v60 HT_.out (h := ?_)
                  refine Sk.pu 60 85 spec_CallsOk.v61 HT_.out (h := ?_)
                  refine Sk.pu 61 86 spec_CallsOk.v62 HT_.out (h := ?_)
                  refine Sk.pu 62 87 spec_CallsOk.v63 HT_.out (h := ?_)
                  refine Sk.pq 63 88 spec_CallsOk.v64 HT_.out (h := ?_)
                  refine done_ (done_of HT_.out (by kernel_rfl)) ?_
                  try go_wp2
                  go_meet
                  case rel => exact ⟨_, (true), (by first | rfl | (simp; done) | (simp [*]; done)), H', ⟨by have := HJ2.out; have := HK2.out; first | omega | exact Nat.le_refl _⟩, ⟨by (with_reducible repeat (first | refine blk_drewN ?_ _ | refine blk_drew ?_ | refine blk_alloc ?_ _)); exact BK122.out⟩, ⟨by repeat (first | (with_reducible first | exact HB.out | apply below_alloc | apply pw_below_drewN | apply below_drew1 | refine below_set ?_ GE122.out) | exact HB.out)⟩⟩
                 ·rw [if_neg c27] at H
                  have c27b0 : decide (((rd_T91 l1 x5_2).f3) ≤ ((rd_T91 l1 x5_2).f2)) = false := decide_eq_false c27
                  clear c27
                  replace H := Option.bind_eq_some_iff.mp H
                  obtain ⟨t128, A300, H⟩ := H
                  (try dsimp only at H)
                  have A30 := Aside0.mk A300
                  clear A300
                  by_cases c31 : t128 = true
                  ·subst c31
                   rw [if_pos rfl] at H
                   by_cases c32 : ((rd_T91 l1 x5_2).f4) ≥ 0
                   ·rw [if_pos c32] at H
                    have c32b0 : decide (0 ≤ ((rd_T91 l1 x5_2).f4)) = true := decide_eq_true c32
                    clear c32
                    have H' := Aside0.mk H
                    clear H
                    try go_wp2
                    have n0_ : Aside0 ((((((w10.setCell ⟨gb122, 0, none⟩ (.int .i64 ((rd_T91 l1 x5_2).f0))).setCell ⟨gb122, 1, none⟩ (.int .i64 ((rd_T91 l1 x5_2).f1))).setCell ⟨gb122, 2, none⟩ (.int .i64 ((rd_T91 l1 x5_2).f2))).setCell ⟨gb122, 3, none⟩ (.int .i64 ((rd_T91 l1 x5_2).f3))).setCell ⟨gb122, 4, none⟩ (.int .i64 ((rd_T91 l1 x5_2).f4))).heap[gb122]? = some (.cells #[.int .i64 ((rd_T91 l1 x5_2).f0), .int .i64 ((rd_T91 l1 x5_2).f1), .int .i64 ((rd_T91 l1 x5_2).f2), .int .i64 ((rd_T91 l1 x5_2).f3), .int .i64 ((rd_T91 l1 x5_2).f4)] 91 (0, 0))) := ⟨by (with_reducible repeat (first | refine blk_drewN ?_ _ | refine blk_drew ?_ | refine blk_alloc ?_ _)); refine blk_put (cs := #[.int .i64 ((rd_T91 l1 x5_2).f0), .int .i64 ((rd_T91 l1 x5_2).f1), .int .i64 ((rd_T91 l1 x5_2).f2), .int .i64 ((rd_T91 l1 x5_2).f3), .int .i64 0]) ?_ 4 _ rfl; (with_reducible repeat (first | refine blk_drewN ?_ _ | refine blk_drew ?_ | refine blk_alloc ?_ _)); refine blk_put (cs := #[.int .i64 ((rd_T91 l1 x5_2).f0), .int .i64 ((rd_T91 l1 x5_2).f1), .int .i64 ((rd_T91 l1 x5_2).f2), .int .i64 0, .int .i64 0]) ?_ 3 _ rfl; (with_reducible repeat (first | refine blk_drewN ?_ _ | refine blk_drew ?_ | refine blk_alloc ?_ _)); refine blk_put (cs := #[.int .i64 ((rd_T91 l1 x5_2).f0), .int .i64 ((rd_T91 l1 x5_2).f1), .int .i64 0, .int .i64 0, .int .i64 0]) ?_ 2 _ rfl; (with_reducible repeat (first | refine blk_drewN ?_ _ | refine blk_drew ?_ | refine blk_alloc ?_ _)); refine blk_put (cs := #[.int .i64 ((rd_T91 l1 x5_2).f0), .int .i64 0, .int .i64 0, .int .i64 0, .int .i64 0]) ?_ 1 _ rfl; (with_reducible repeat (first | refine blk_drewN ?_ _ | refine blk_drew ?_ | refine blk_alloc ?_ _)); refine blk_put (cs := #[.int .i64 0, .int .i64 0, .int .i64 0, .int .i64 0, .int .i64 0]) ?_ 0 _ rfl; (with_reducible repeat (first | refine blk_drewN ?_ _ | refine blk_drew ?_ | refine blk_alloc ?_ _)); exact BK122.out⟩
                    have n1_ : Aside0 (Below w.heap.size w (((((w10.setCell ⟨gb122, 0, none⟩ (.int .i64 ((rd_T91 l1 x5_2).f0))).setCell ⟨gb122, 1, none⟩ (.int .i64 ((rd_T91 l1 x5_2).f1))).setCell ⟨gb122, 2, none⟩ (.int .i64 ((rd_T91 l1 x5_2).f2))).setCell ⟨gb122, 3, none⟩ (.int .i64 ((rd_T91 l1 x5_2).f3))).setCell ⟨gb122, 4, none⟩ (.int .i64 ((rd_T91 l1 x5_2).f4)))) := ⟨by repeat (first | (with_reducible first | exact HB.out | apply below_alloc | apply pw_below_drewN | apply below_drew1 | refine below_set ?_ GE122.out) | exact HB.out)⟩
                    (try clear BK122)
                    (try clear HB)
                    generalize (((((w10.setCell ⟨gb122, 0, none⟩ (.int .i64 ((rd_T91 l1 x5_2).f0))).setCell ⟨gb122, 1, none⟩ (.int .i64 ((rd_T91 l1 x5_2).f1))).setCell ⟨gb122, 2, none⟩ (.int .i64 ((rd_T91 l1 x5_2).f2))).setCell ⟨gb122, 3, none⟩ (.int .i64 ((rd_T91 l1 x5_2).f3))).setCell ⟨gb122, 4, none⟩ (.int .i64 ((rd_T91 l1 x5_2).f4))) = w33 at n0_ n1_ ⊢
                    have BK122 := n0_
                    have HB := n1_
                    clear n0_ n1_
                    have n0_ := Aside0.mk (blk_drew BK122.out)
                    have n1_ := Aside0.mk (below_drew1 HB.out)
                    clear BK122
                    clear HB
                    have BK122 := n0_
                    have HB := n1_
                    clear n0_ n1_
                    have p124 : 0 ≤ ((ji15) : Int) := of_decide_eq_true (by first | (with_reducible assumption) | assumption)
                    have q124 : (ji15) < (l1.length : Int) := of_decide_eq_true (by first | (with_reducible assumption) | assumption)
                    obtain ⟨ad124, e124, hx124_0, hx124_1, hx124_2, hx124_3, hx124_4⟩ := at_T91 HR1.out (ji15) p124 q124
                    have hw124_4 := hx124_4
                    have hw124_3 := hx124_3
                    have hw124_2 := hx124_2
                    have hw124_1 := hx124_1
                    have hw124_0 := hx124_0
                    obtain rfl : ad121 = ad124 := (by injection e124)
                    replace hx124_0 := (HB.out.cell (World.block_lt_of_cell? w _ hx124_0)).trans hx124_0
                    replace hx124_1 := (HB.out.cell (World.block_lt_of_cell? w _ hx124_1)).trans hx124_1
                    replace hx124_2 := (HB.out.cell (World.block_lt_of_cell? w _ hx124_2)).trans hx124_2
                    replace hx124_3 := (HB.out.cell (World.block_lt_of_cell? w _ hx124_3)).trans hx124_3
                    replace hx124_4 := (HB.out.cell (World.block_lt_of_cell? w _ hx124_4)).trans hx124_4
                    replace p124 := eq_true p124
                    replace q124 := eq_true q124
                    refine start_ (n := 64) (S := fun w' => w'.cell? ⟨gb122, 0, none⟩ = some (.int .i64 ((rd_T91 l1 x5_2).f0)) ∧ w'.cell? ⟨gb122, 1, none⟩ = some (.int .i64 ((rd_T91 l1 x5_2).f1)) ∧ w'.cell? ⟨gb122, 2, none⟩ = some (.int .i64 ((rd_T91 l1 x5_2).f2)) ∧ w'.cell? ⟨gb122, 3, none⟩ = some (.int .i64 ((rd_T91 l1 x5_2).f3)) ∧ w'.cell? ⟨gb122, 4, none⟩ = some (.int .i64 ((rd_T91 l1 x5_2).f4)) ∧ w'.cell? (ad121.add (((ji15)).toNat * 5)) = some (.int .i64 ((rd_T91 l1 (ji15)).f0)) ∧ w'.cell? ⟨(ad121.add (((ji15)).toNat * 5)).block, (ad121.add (((ji15)).toNat * 5)).off + 1, none⟩ = some (.int .i64 ((rd_T91 l1 (ji15)).f1)) ∧ w'.cell? ⟨(ad121.add (((ji15)).toNat * 5)).block, (ad121.add (((ji15)).toNat * 5)).off + 2, none⟩ = some (.int .i64 ((rd_T91 l1 (ji15)).f2)) ∧ w'.cell? ⟨(ad121.add (((ji15)).toNat * 5)).block, (ad121.add (((ji15)).toNat * 5)).off + 3, none⟩ = some (.int .i64 ((rd_T91 l1 (ji15)).f3)) ∧ w'.cell? ⟨(ad121.add (((ji15)).toNat * 5)).block, (ad121.add (((ji15)).toNat * 5)).off + 4, none⟩ = some (.int .i64 ((rd_T91 l1 (ji15)).f4))) (ds := []) spec_CallsOk.v0 (by kernel_rfl) rfl rfl ⟨(blk_cell BK122.out 0).trans rfl, (blk_cell BK122.out 1).trans rfl, (blk_cell BK122.out 2).trans rfl, (blk_cell BK122.out 3).trans rfl, (blk_cell BK122.out 4).trans rfl, ((HB.out.cell (World.block_lt_of_cell? w _ hw124_0)).trans hw124_0), ((HB.out.cell (World.block_lt_of_cell? w _ hw124_1)).trans hw124_1), ((HB.out.cell (World.block_lt_of_cell? w _ hw124_2)).trans hw124_2), ((HB.out.cell (World.block_lt_of_cell? w _ hw124_3)).trans hw124_3), ((HB.out.cell (World.block_lt_of_cell? w _ hw124_4)).trans hw124_4)⟩ (fun hHeld => ?_); refine with_tabW spec_CallsOk.tab7 spec_CallsOk.bits7 (fun HT_ HW_ => ?_)
                    generalize w33.drew = w34 at BK122 HB hx124_0 hx124_1 hx124_2 hx124_3 hx124_4 hHeld ⊢
                    refine Sk.pq 0 25 spec_CallsOk.v1 HT_.out (h := ?_)
                    refine Sk.tk10 1 26 spec_CallsOk.v2 HT_.out HW_.out hHeld (h := ?_)
                    refine one_ (i := 2) (N := some 27) spec_CallsOk.v3 rfl rfl (one_of HT_.out (by kernel_rfl)) (by decide) (fun K hK => ?_)
                    refine goes_ Try.func51 (by kernel_rfl) rfl #[.int .i64 ((rd_T91 l1 x5_2).f0), .int .i64 1, .int .i64 1000000] (by rfl) rfl rfl (by (try simp only [List.map_toArray, List.map_cons, List.map_nil]); first | done | rfl | (simp only [List.length_drop, List.length_take]; rfl)) ?_
                    with_reducible refine (spec_l1In.calls ((rd_T91 l1 x5_2).f0) 1 1000000 true _ A12.out).mono ?_
                    rintro e w' ⟨rfl, ⟨nd, rfl⟩⟩
                    refine ⟨_, rfl, ?_⟩
                    refine hK.out _ _ ⟨(blk_cell BK122.out 0).trans rfl, (blk_cell BK122.out 1).trans rfl, (blk_cell BK122.out 2).trans rfl, (blk_cell BK122.out 3).trans rfl, (blk_cell BK122.out 4).trans rfl, ((HB.out.cell (World.block_lt_of_cell? w _ hw124_0)).trans hw124_0), ((HB.out.cell (World.block_lt_of_cell? w _ hw124_1)).trans hw124_1), ((HB.out.cell (World.block_lt_of_cell? w _ hw124_2)).trans hw124_2), ((HB.out.cell (World.block_lt_of_cell? w _ hw124_3)).trans hw124_3), ((HB.out.cell (World.block_lt_of_cell? w _ hw124_4)).trans hw124_4)⟩ (fun hHeld => ?_)
                    clear hK K
                    refine Sk.nm 27 (h := ?_)
                    refine Sk.pq 3 28 spec_CallsOk.v4 HT_.out (h := ?_)
                    refine Sk.pq 4 29 spec_CallsOk.v5 HT_.out (h := ?_)
                    refine Sk.pq 5 30 spec_CallsOk.v6 HT_.out (h := ?_)
                    refine Sk.pq 6 31 spec_CallsOk.v7 HT_.out (h := ?_)
                    refine Sk.pq 7 32 spec_CallsOk.v8 HT_.out (h := ?_)
                    refine Sk.pq 8 33 spec_CallsOk.v9 HT_.out (h := ?_)
                    refine Sk.pq 9 34 spec_CallsOk.v10 HT_.out (h := ?_)
                    refine Sk.pq 10 35 spec_CallsOk.v11 HT_.out (h := ?_)
                    refine Sk.pq 11 36 spec_CallsOk.v12 HT_.out (h := ?_)
                    refine Sk.pq 12 37 spec_CallsOk.v13 HT_.out (h := ?_)
                    refine Sk.pq 14 39 spec_CallsOk.v14 HT_.out (h := ?_)
                    refine Sk.tk10 13 38 spec_CallsOk.v15 HT_.out HW_.out hHeld (h := ?_)
                    refine Sk.tk10 15 40 spec_CallsOk.v16 HT_.out HW_.out hHeld (h := ?_)
                    refine Sk.pq 16 41 spec_CallsOk.v17 HT_.out (h := ?_)
                    refine Sk.pq 17 42 spec_CallsOk.v18 HT_.out (h := ?_)
                    refine Sk.pq 18 43 spec_CallsOk.v19 HT_.out (h := ?_)
                    refine Sk.pq 19 44 spec_CallsOk.v20 HT_.out (h := ?_)
                    refine Sk.pq 20 45 spec_CallsOk.v21 HT_.out (h := ?_)
                    refine Sk.tk10 21 46 spec_CallsOk.v22 HT_.out HW_.out hHeld (h := ?_)
                    refine one_ (i := 22) (N := some 47) spec_CallsOk.v23 rfl rfl (one_of HT_.out (by kernel_rfl)) (by decide) (fun K hK => ?_)
                    refine goes_ Try.func51 (by kernel_rfl) rfl #[.int .i64 ((rd_T91 l1 x5_2).f1), .int .i64 1, .int .i64 1000] (by rfl) rfl rfl (by (try simp only [List.map_toArray, List.map_cons, List.map_nil]); first | done | rfl | (simp only [List.length_drop, List.length_take]; rfl)) ?_
                    with_reducible refine (spec_l1In.calls ((rd_T91 l1 x5_2).f1) 1 1000 true _ A21.out).mono ?_
                    rintro e w' ⟨rfl, ⟨nd, rfl⟩⟩
                    refine ⟨_, rfl, ?_⟩
                    refine hK.out _ _ ⟨(blk_cell BK122.out 0).trans rfl, (blk_cell BK122.out 1).trans rfl, (blk_cell BK122.out 2).trans rfl, (blk_cell BK122.out 3).trans rfl, (blk_cell BK122.out 4).trans rfl, ((HB.out.cell (World.block_lt_of_cell? w _ hw124_0)).trans hw124_0), ((HB.out.cell (World.block_lt_of_cell? w _ hw124_1)).trans hw124_1), ((HB.out.cell (World.block_lt_of_cell? w _ hw124_2)).trans hw124_2), ((HB.out.cell (World.block_lt_of_cell? w _ hw124_3)).trans hw124_3), ((HB.out.cell (World.block_lt_of_cell? w _ hw124_4)).trans hw124_4)⟩ (fun hHeld => ?_)
                    clear hK K
                    refine Sk.nm 47 (h := ?_)
                    refine Sk.pq 23 48 spec_CallsOk.v24 HT_.out (h := ?_)
                    refine Sk.pq 24 49 spec_CallsOk.v25 HT_.out (h := ?_)
                    refine Sk.pq 25 50 spec_CallsOk.v26 HT_.out (h := ?_)
                    refine Sk.pq 26 51 spec_CallsOk.v27 HT_.out (h := ?_)
                    refine Sk.tk10 27 52 spec_CallsOk.v28 HT_.out HW_.out hHeld (h := ?_)
                    refine one_ (i := 28) (N := some 53) spec_CallsOk.v29 rfl rfl (one_of HT_.out (by kernel_rfl)) (by decide) (fun K hK => ?_)
                    refine goes_ Try.func102 (by kernel_rfl) rfl #[.int .i64 ((rd_T91 l1 x5_2).f2)] (by rfl) rfl rfl (by (try simp only [List.map_toArray, List.map_cons, List.map_nil]); first | done | rfl | (simp only [List.length_drop, List.length_take]; rfl)) ?_
                    with_reducible refine (spec_l1Minute.calls ((rd_T91 l1 x5_2).f2) true _ A23.out).mono ?_
                    rintro e w' ⟨rfl, ⟨nd, rfl⟩⟩
                    refine ⟨_, rfl, ?_⟩
                    refine hK.out _ _ ⟨(blk_cell BK122.out 0).trans rfl, (blk_cell BK122.out 1).trans rfl, (blk_cell BK122.out 2).trans rfl, (blk_cell BK122.out 3).trans rfl, (blk_cell BK122.out 4).trans rfl, ((HB.out.cell (World.block_lt_of_cell? w _ hw124_0)).trans hw124_0), ((HB.out.cell (World.block_lt_of_cell? w _ hw124_1)).trans hw124_1), ((HB.out.cell (World.block_lt_of_cell? w _ hw124_2)).trans hw124_2), ((HB.out.cell (World.block_lt_of_cell? w _ hw124_3)).trans hw124_3), ((HB.out.cell (World.block_lt_of_cell? w _ hw124_4)).trans hw124_4)⟩ (fun hHeld => ?_)
                    clear hK K
                    refine Sk.nm 53 (h := ?_)
                    refine Sk.pq 29 54 spec_CallsOk.v30 HT_.out (h := ?_)
                    refine Sk.pq 30 55 spec_CallsOk.v31 HT_.out (h := ?_)
                    refine Sk.pq 31 56 spec_CallsOk.v32 HT_.out (h := ?_)
                    refine Sk.pq 32 57 spec_CallsOk.v33 HT_.out (h := ?_)
                    refine Sk.tk10 33 58 spec_CallsOk.v34 HT_.out HW_.out hHeld (h := ?_)
                    refine one_ (i := 34) (N := some 59) spec_CallsOk.v35 rfl rfl (one_of HT_.out (by kernel_rfl)) (by decide) (fun K hK => ?_)
                    refine goes_ Try.func102 (by kernel_rfl) rfl #[.int .i64 ((rd_T91 l1 x5_2).f3)] (by rfl) rfl rfl (by (try simp only [List.map_toArray, List.map_cons, List.map_nil]); first | done | rfl | (simp only [List.length_drop, List.length_take]; rfl)) ?_
                    with_reducible refine (spec_l1Minute.calls ((rd_T91 l1 x5_2).f3) true _ A25.out).mono ?_
                    rintro e w' ⟨rfl, ⟨nd, rfl⟩⟩
                    refine ⟨_, rfl, ?_⟩
                    refine hK.out _ _ ⟨(blk_cell BK122.out 0).trans rfl, (blk_cell BK122.out 1).trans rfl, (blk_cell BK122.out 2).trans rfl, (blk_cell BK122.out 3).trans rfl, (blk_cell BK122.out 4).trans rfl, ((HB.out.cell (World.block_lt_of_cell? w _ hw124_0)).trans hw124_0), ((HB.out.cell (World.block_lt_of_cell? w _ hw124_1)).trans hw124_1), ((HB.out.cell (World.block_lt_of_cell? w _ hw124_2)).trans hw124_2), ((HB.out.cell (World.block_lt_of_cell? w _ hw124_3)).trans hw124_3), ((HB.out.cell (World.block_lt_of_cell? w _ hw124_4)).trans hw124_4)⟩ (fun hHeld => ?_)
                    clear hK K
                    refine Sk.nm 59 (h := ?_)
                    refine Sk.pq 35 60 spec_CallsOk.v36 HT_.out (h := ?_)
                    refine Sk.pq 36 61 spec_CallsOk.v37 HT_.out (h := ?_)
                    refine Sk.pq 37 62 spec_CallsOk.v38 HT_.out (h := ?_)
                    refine Sk.pq 38 63 spec_CallsOk.v39 HT_.out (h := ?_)
                    refine Sk.pq 40 65 spec_CallsOk.v65 HT_.out (h := ?_)
                    refine Sk.tk10 39 64 spec_CallsOk.v41 HT_.out HW_.out hHeld (h := ?_)
                    refine Sk.tk10 41 66 spec_CallsOk.v42 HT_.out HW_.out hHeld (h := ?_)
                    refine Sk.pq 42 67 spec_CallsOk.v43 HT_.out (h := ?_)
                    refine Sk.pq 43 68 spec_CallsOk.v44 HT_.out (h := ?_)
                    refine Sk.pq 44 69 spec_CallsOk.v45 HT_.out (h := ?_)
                    refine Sk.pq 45 70 spec_CallsOk.v46 HT_.out (h := ?_)
                    refine Sk.tk10 46 71 spec_CallsOk.v47 HT_.out HW_.out hHeld (h := ?_)
                    refine one_ (i := 47) (N := some 72) spec_CallsOk.v48 rfl rfl (one_of HT_.out (by kernel_rfl)) (by decide) (fun K hK => ?_)
                    refine goes_ Try.func51 (by kernel_rfl) rfl #[.int .i64 ((rd_T91 l1 x5_2).f4), .int .i64 (-1), .int .i64 1000] (by rfl) rfl rfl (by (try simp only [List.map_toArray, List.map_cons, List.map_nil]); first | done | rfl | (simp only [List.length_drop, List.length_take]; rfl)) ?_
                    with_reducible refine (spec_l1In.calls ((rd_T91 l1 x5_2).f4) (-1) 1000 true _ A30.out).mono ?_
                    rintro e w' ⟨rfl, ⟨nd, rfl⟩⟩
                    refine ⟨_, rfl, ?_⟩
                    refine hK.out _ _ ⟨(blk_cell BK122.out 0).trans rfl, (blk_cell BK122.out 1).trans rfl, (blk_cell BK122.out 2).trans rfl, (blk_cell BK122.out 3).trans rfl, (blk_cell BK122.out 4).trans rfl, ((HB.out.cell (World.block_lt_of_cell? w _ hw124_0)).trans hw124_0), ((HB.out.cell (World.block_lt_of_cell? w _ hw124_1)).trans hw124_1), ((HB.out.cell (World.block_lt_of_cell? w _ hw124_2)).trans hw124_2), ((HB.out.cell (World.block_lt_of_cell? w _ hw124_3)).trans hw124_3), ((HB.out.cell (World.block_lt_of_cell? w _ hw124_4)).trans hw124_4)⟩ (fun hHeld => ?_)
                    clear hK K
                    refine Sk.nm 72 (h := ?_)
                    refine Sk.pq 48 73 spec_CallsOk.v49 HT_.out (h := ?_)
                    refine Sk.pq 49 74 spec_CallsOk.v50 HT_.out (h := ?_)
                    refine Sk.pq 50 75 spec_CallsOk.v51 HT_.out (h := ?_)
                    refine Sk.pq 51 76 spec_CallsOk.v52 HT_.out (h := ?_)
                    refine Sk.tk10 52 77 spec_CallsOk.v53 HT_.out HW_.out hHeld (h := ?_)
                    refine Sk.pq 53 78 spec_CallsOk.v54 HT_.out (h := ?_)
                    refine Sk.pq 54 79 spec_CallsOk.v55 HT_.out (h := ?_)
                    refine Sk.pq 55 80 spec_CallsOk.v56 HT_.out (h := ?_)
                    refine Sk.pq 57 82 spec_CallsOk.v66 HT_.out (h := ?_)
                    refine Sk.pq 60 85 spec_CallsOk.v67 HT_.out (h := ?_)
                    refine Sk.tk10 56 81 spec_CallsOk.v68 HT_.out HW_.out hHeld (h := ?_)
                    refine Sk.tk10 58 83 spec_CallsOk.v69 HT_.out HW_.out hHeld (h := ?_)
                    refine Sk.pq 59 84 spec_CallsOk.v61 HT_.out (h := ?_)
                    refine Sk.pq 61 86 spec_CallsOk.v62 HT_.out (h := ?_)
                    refine Sk.pq 62 87 spec_CallsOk.v63 HT_.out (h := ?_)
                    refine Sk.pq 63 88 spec_CallsOk.v64 HT_.out (h := ?_)
                    refine done_ (done_of HT_.out (by kernel_rfl)) ?_
                    try go_wp2
                    go_meet
                    case rel => exact ⟨_, (decide ((wrap64 (((rd_T91 l1 x5_2).f4) + ((rd_T91 l1 x5_2).f1))) > a0)), (by first | rfl | (simp; done) | (simp [*]; done)), H', ⟨by have := HJ2.out; have := HK2.out; first | omega | exact Nat.le_refl _⟩, ⟨by (with_reducible repeat (first | refine blk_drewN ?_ _ | refine blk_drew ?_ | refine blk_alloc ?_ _)); exact BK122.out⟩, ⟨by repeat (first | (with_reducible first | exact HB.out | apply below_alloc | apply pw_below_drewN | apply below_drew1 | refine below_set ?_ GE122.out) | exact HB.out)⟩⟩
                   ·rw [if_neg c32] at H
                    have c32b0 : decide (0 ≤ ((rd_T91 l1 x5_2).f4)) = false := decide_eq_false c32
                    clear c32
                    have H' := Aside0.mk H
                    clear H
                    try go_wp2
                    have n0_ : Aside0 ((((((w10.setCell ⟨gb122, 0, none⟩ (.int .i64 ((rd_T91 l1 x5_2).f0))).setCell ⟨gb122, 1, none⟩ (.int .i64 ((rd_T91 l1 x5_2).f1))).setCell ⟨gb122, 2, none⟩ (.int .i64 ((rd_T91 l1 x5_2).f2))).setCell ⟨gb122, 3, none⟩ (.int .i64 ((rd_T91 l1 x5_2).f3))).setCell ⟨gb122, 4, none⟩ (.int .i64 ((rd_T91 l1 x5_2).f4))).heap[gb122]? = some (.cells #[.int .i64 ((rd_T91 l1 x5_2).f0), .int .i64 ((rd_T91 l1 x5_2).f1), .int .i64 ((rd_T91 l1 x5_2).f2), .int .i64 ((rd_T91 l1 x5_2).f3), .int .i64 ((rd_T91 l1 x5_2).f4)] 91 (0, 0))) := ⟨by (with_reducible repeat (first | refine blk_drewN ?_ _ | refine blk_drew ?_ | refine blk_alloc ?_ _)); refine blk_put (cs := #[.int .i64 ((rd_T91 l1 x5_2).f0), .int .i64 ((rd_T91 l1 x5_2).f1), .int .i64 ((rd_T91 l1 x5_2).f2), .int .i64 ((rd_T91 l1 x5_2).f3), .int .i64 0]) ?_ 4 _ rfl; (with_reducible repeat (first | refine blk_drewN ?_ _ | refine blk_drew ?_ | refine blk_alloc ?_ _)); refine blk_put (cs := #[.int .i64 ((rd_T91 l1 x5_2).f0), .int .i64 ((rd_T91 l1 x5_2).f1), .int .i64 ((rd_T91 l1 x5_2).f2), .int .i64 0, .int .i64 0]) ?_ 3 _ rfl; (with_reducible repeat (first | refine blk_drewN ?_ _ | refine blk_drew ?_ | refine blk_alloc ?_ _)); refine blk_put (cs := #[.int .i64 ((rd_T91 l1 x5_2).f0), .int .i64 ((rd_T91 l1 x5_2).f1), .int .i64 0, .int .i64 0, .int .i64 0]) ?_ 2 _ rfl; (with_reducible repeat (first | refine blk_drewN ?_ _ | refine blk_drew ?_ | refine blk_alloc ?_ _)); refine blk_put (cs := #[.int .i64 ((rd_T91 l1 x5_2).f0), .int .i64 0, .int .i64 0, .int .i64 0, .int .i64 0]) ?_ 1 _ rfl; (with_reducible repeat (first | refine blk_drewN ?_ _ | refine blk_drew ?_ | refine blk_alloc ?_ _)); refine blk_put (cs := #[.int .i64 0, .int .i64 0, .int .i64 0, .int .i64 0, .int .i64 0]) ?_ 0 _ rfl; (with_reducible repeat (first | refine blk_drewN ?_ _ | refine blk_drew ?_ | refine blk_alloc ?_ _)); exact BK122.out⟩
                    have n1_ : Aside0 (Below w.heap.size w (((((w10.setCell ⟨gb122, 0, none⟩ (.int .i64 ((rd_T91 l1 x5_2).f0))).setCell ⟨gb122, 1, none⟩ (.int .i64 ((rd_T91 l1 x5_2).f1))).setCell ⟨gb122, 2, none⟩ (.int .i64 ((rd_T91 l1 x5_2).f2))).setCell ⟨gb122, 3, none⟩ (.int .i64 ((rd_T91 l1 x5_2).f3))).setCell ⟨gb122, 4, none⟩ (.int .i64 ((rd_T91 l1 x5_2).f4)))) := ⟨by repeat (first | (with_reducible first | exact HB.out | apply below_alloc | apply pw_below_drewN | apply below_drew1 | refine below_set ?_ GE122.out) | exact HB.out)⟩
                    (try clear BK122)
                    (try clear HB)
                    generalize (((((w10.setCell ⟨gb122, 0, none⟩ (.int .i64 ((rd_T91 l1 x5_2).f0))).setCell ⟨gb122, 1, none⟩ (.int .i64 ((rd_T91 l1 x5_2).f1))).setCell ⟨gb122, 2, none⟩ (.int .i64 ((rd_T91 l1 x5_2).f2))).setCell ⟨gb122, 3, none⟩ (.int .i64 ((rd_T91 l1 x5_2).f3))).setCell ⟨gb122, 4, none⟩ (.int .i64 ((rd_T91 l1 x5_2).f4))) = w35 at n0_ n1_ ⊢
                    have BK122 := n0_
                    have HB := n1_
                    clear n0_ n1_
                    have n0_ := Aside0.mk (blk_drew BK122.out)
                    have n1_ := Aside0.mk (below_drew1 HB.out)
                    clear BK122
                    clear HB
                    have BK122 := n0_
                    have HB := n1_
                    clear n0_ n1_
                    have p124 : 0 ≤ ((ji15) : Int) := of_decide_eq_true (by first | (with_reducible assumption) | assumption)
                    have q124 : (ji15) < (l1.length : Int) := of_decide_eq_true (by first | (with_reducible assumption) | assumption)
                    obtain ⟨ad124, e124, hx124_0, hx124_1, hx124_2, hx124_3, hx124_4⟩ := at_T91 HR1.out (ji15) p124 q124
                    have hw124_4 := hx124_4
                    have hw124_3 := hx124_3
                    have hw124_2 := hx124_2
                    have hw124_1 := hx124_1
                    have hw124_0 := hx124_0
                    obtain rfl : ad121 = ad124 := (by injection e124)
                    replace hx124_0 := (HB.out.cell (World.block_lt_of_cell? w _ hx124_0)).trans hx124_0
                    replace hx124_1 := (HB.out.cell (World.block_lt_of_cell? w _ hx124_1)).trans hx124_1
                    replace hx124_2 := (HB.out.cell (World.block_lt_of_cell? w _ hx124_2)).trans hx124_2
                    replace hx124_3 := (HB.out.cell (World.block_lt_of_cell? w _ hx124_3)).trans hx124_3
                    replace hx124_4 := (HB.out.cell (World.block_lt_of_cell? w _ hx124_4)).trans hx124_4
                    replace p124 := eq_true p124
                    replace q124 := eq_true q124
                    refine start_ (n := 64) (S := fun w' => w'.cell? ⟨gb122, 0, none⟩ = some (.int .i64 ((rd_T91 l1 x5_2).f0)) ∧ w'.cell? ⟨gb122, 1, none⟩ = some (.int .i64 ((rd_T91 l1 x5_2).f1)) ∧ w'.cell? ⟨gb122, 2, none⟩ = some (.int .i64 ((rd_T91 l1 x5_2).f2)) ∧ w'.cell? ⟨gb122, 3, none⟩ = some (.int .i64 ((rd_T91 l1 x5_2).f3)) ∧ w'.cell? ⟨gb122, 4, none⟩ = some (.int .i64 ((rd_T91 l1 x5_2).f4)) ∧ w'.cell? (ad121.add (((ji15)).toNat * 5)) = some (.int .i64 ((rd_T91 l1 (ji15)).f0)) ∧ w'.cell? ⟨(ad121.add (((ji15)).toNat * 5)).block, (ad121.add (((ji15)).toNat * 5)).off + 1, none⟩ = some (.int .i64 ((rd_T91 l1 (ji15)).f1)) ∧ w'.cell? ⟨(ad121.add (((ji15)).toNat * 5)).block, (ad121.add (((ji15)).toNat * 5)).off + 2, none⟩ = some (.int .i64 ((rd_T91 l1 (ji15)).f2)) ∧ w'.cell? ⟨(ad121.add (((ji15)).toNat * 5)).block, (ad121.add (((ji15)).toNat * 5)).off + 3, none⟩ = some (.int .i64 ((rd_T91 l1 (ji15)).f3)) ∧ w'.cell? ⟨(ad121.add (((ji15)).toNat * 5)).block, (ad121.add (((ji15)).toNat * 5)).off + 4, none⟩ = some (.int .i64 ((rd_T91 l1 (ji15)).f4))) (ds := []) spec_CallsOk.v0 (by kernel_rfl) rfl rfl ⟨(blk_cell BK122.out 0).trans rfl, (blk_cell BK122.out 1).trans rfl, (blk_cell BK122.out 2).trans rfl, (blk_cell BK122.out 3).trans rfl, (blk_cell BK122.out 4).trans rfl, ((HB.out.cell (World.block_lt_of_cell? w _ hw124_0)).trans hw124_0), ((HB.out.cell (World.block_lt_of_cell? w _ hw124_1)).trans hw124_1), ((HB.out.cell (World.block_lt_of_cell? w _ hw124_2)).trans hw124_2), ((HB.out.cell (World.block_lt_of_cell? w _ hw124_3)).trans hw124_3), ((HB.out.cell (World.block_lt_of_cell? w _ hw124_4)).trans hw124_4)⟩ (fun hHeld => ?_); refine with_tabW spec_CallsOk.tab7 spec_CallsOk.bits7 (fun HT_ HW_ => ?_)
                    generalize w35.drew = w36 at BK122 HB hx124_0 hx124_1 hx124_2 hx124_3 hx124_4 hHeld ⊢
                    refine Sk.pq 0 25 spec_CallsOk.v1 HT_.out (h := ?_)
                    refine Sk.tk10 1 26 spec_CallsOk.v2 HT_.out HW_.out hHeld (h := ?_)
                    refine one_ (i := 2) (N := some 27) spec_CallsOk.v3 rfl rfl (one_of HT_.out (by kernel_rfl)) (by decide) (fun K hK => ?_)
                    refine goes_ Try.func51 (by kernel_rfl) rfl #[.int .i64 ((rd_T91 l1 x5_2).f0), .int .i64 1, .int .i64 1000000] (by rfl) rfl rfl (by (try simp only [List.map_toArray, List.map_cons, List.map_nil]); first | done | rfl | (simp only [List.length_drop, List.length_take]; rfl)) ?_
                    with_reducible refine (spec_l1In.calls ((rd_T91 l1 x5_2).f0) 1 1000000 true _ A12.out).mono ?_
                    rintro e w' ⟨rfl, ⟨nd, rfl⟩⟩
                    refine ⟨_, rfl, ?_⟩
                    refine hK.out _ _ ⟨(blk_cell BK122.out 0).trans rfl, (blk_cell BK122.out 1).trans rfl, (blk_cell BK122.out 2).trans rfl, (blk_cell BK122.out 3).trans rfl, (blk_cell BK122.out 4).trans rfl, ((HB.out.cell (World.block_lt_of_cell? w _ hw124_0)).trans hw124_0), ((HB.out.cell (World.block_lt_of_cell? w _ hw124_1)).trans hw124_1), ((HB.out.cell (World.block_lt_of_cell? w _ hw124_2)).trans hw124_2), ((HB.out.cell (World.block_lt_of_cell? w _ hw124_3)).trans hw124_3), ((HB.out.cell (World.block_lt_of_cell? w _ hw124_4)).trans hw124_4)⟩ (fun hHeld => ?_)
                    clear hK K
                    refine Sk.nm 27 (h := ?_)
                    refine Sk.pq 3 28 spec_CallsOk.v4 HT_.out (h := ?_)
                    refine Sk.pq 4 29 spec_CallsOk.v5 HT_.out (h := ?_)
                    refine Sk.pq 5 30 spec_CallsOk.v6 HT_.out (h := ?_)
                    refine Sk.pq 6 31 spec_CallsOk.v7 HT_.out (h := ?_)
                    refine Sk.pq 7 32 spec_CallsOk.v8 HT_.out (h := ?_)
                    refine Sk.pq 8 33 spec_CallsOk.v9 HT_.out (h := ?_)
                    refine Sk.pq 9 34 spec_CallsOk.v10 HT_.out (h := ?_)
                    refine Sk.pq 10 35 spec_CallsOk.v11 HT_.out (h := ?_)
                    refine Sk.pq 11 36 spec_CallsOk.v12 HT_.out (h := ?_)
                    refine Sk.pq 12 37 spec_CallsOk.v13 HT_.out (h := ?_)
                    refine Sk.pq 14 39 spec_CallsOk.v14 HT_.out (h := ?_)
                    refine Sk.tk10 13 38 spec_CallsOk.v15 HT_.out HW_.out hHeld (h := ?_)
                    refine Sk.tk10 15 40 spec_CallsOk.v16 HT_.out HW_.out hHeld (h := ?_)
                    refine Sk.pq 16 41 spec_CallsOk.v17 HT_.out (h := ?_)
                    refine Sk.pq 17 42 spec_CallsOk.v18 HT_.out (h := ?_)
                    refine Sk.pq 18 43 spec_CallsOk.v19 HT_.out (h := ?_)
                    refine Sk.pq 19 44 spec_CallsOk.v20 HT_.out (h := ?_)
                    refine Sk.pq 20 45 spec_CallsOk.v21 HT_.out (h := ?_)
                    refine Sk.tk10 21 46 spec_CallsOk.v22 HT_.out HW_.out hHeld (h := ?_)
                    refine one_ (i := 22) (N := some 47) spec_CallsOk.v23 rfl rfl (one_of HT_.out (by kernel_rfl)) (by decide) (fun K hK => ?_)
                    refine goes_ Try.func51 (by kernel_rfl) rfl #[.int .i64 ((rd_T91 l1 x5_2).f1), .int .i64 1, .int .i64 1000] (by rfl) rfl rfl (by (try simp only [List.map_toArray, List.map_cons, List.map_nil]); first | done | rfl | (simp only [List.length_drop, List.length_take]; rfl)) ?_
                    with_reducible refine (spec_l1In.calls ((rd_T91 l1 x5_2).f1) 1 1000 true _ A21.out).mono ?_
                    rintro e w' ⟨rfl, ⟨nd, rfl⟩⟩
                    refine ⟨_, rfl, ?_⟩
                    refine hK.out _ _ ⟨(blk_cell BK122.out 0).trans rfl, (blk_cell BK122.out 1).trans rfl, (blk_cell BK122.out 2).trans rfl, (blk_cell BK122.out 3).trans rfl, (blk_cell BK122.out 4).trans rfl, ((HB.out.cell (World.block_lt_of_cell? w _ hw124_0)).trans hw124_0), ((HB.out.cell (World.block_lt_of_cell? w _ hw124_1)).trans hw124_1), ((HB.out.cell (World.block_lt_of_cell? w _ hw124_2)).trans hw124_2), ((HB.out.cell (World.block_lt_of_cell? w _ hw124_3)).trans hw124_3), ((HB.out.cell (World.block_lt_of_cell? w _ hw124_4)).trans hw124_4)⟩ (fun hHeld => ?_)
                    clear hK K
                    refine Sk.nm 47 (h := ?_)
                    refine Sk.pq 23 48 spec_CallsOk.v24 HT_.out (h := ?_)
                    refine Sk.pq 24 49 spec_CallsOk.v25 HT_.out (h := ?_)
                    refine Sk.pq 25 50 spec_CallsOk.v26 HT_.out (h := ?_)
                    refine Sk.pq 26 51 spec_CallsOk.v27 HT_.out (h := ?_)
                    refine Sk.tk10 27 52 spec_CallsOk.v28 HT_.out HW_.out hHeld (h := ?_)
                    refine one_ (i := 28) (N := some 53) spec_CallsOk.v29 rfl rfl (one_of HT_.out (by kernel_rfl)) (by decide) (fun K hK => ?_)
                    refine goes_ Try.func102 (by kernel_rfl) rfl #[.int .i64 ((rd_T91 l1 x5_2).f2)] (by rfl) rfl rfl (by (try simp only [List.map_toArray, List.map_cons, List.map_nil]); first | done | rfl | (simp only [List.length_drop, List.length_take]; rfl)) ?_
                    with_reducible refine (spec_l1Minute.calls ((rd_T91 l1 x5_2).f2) true _ A23.out).mono ?_
                    rintro e w' ⟨rfl, ⟨nd, rfl⟩⟩
                    refine ⟨_, rfl, ?_⟩
                    refine hK.out _ _ ⟨(blk_cell BK122.out 0).trans rfl, (blk_cell BK122.out 1).trans rfl, (blk_cell BK122.out 2).trans rfl, (blk_cell BK122.out 3).trans rfl, (blk_cell BK122.out 4).trans rfl, ((HB.out.cell (World.block_lt_of_cell? w _ hw124_0)).trans hw124_0), ((HB.out.cell (World.block_lt_of_cell? w _ hw124_1)).trans hw124_1), ((HB.out.cell (World.block_lt_of_cell? w _ hw124_2)).trans hw124_2), ((HB.out.cell (World.block_lt_of_cell? w _ hw124_3)).trans hw124_3), ((HB.out.cell (World.block_lt_of_cell? w _ hw124_4)).trans hw124_4)⟩ (fun hHeld => ?_)
                    clear hK K
                    refine Sk.nm 53 (h := ?_)
                    refine Sk.pq 29 54 spec_CallsOk.v30 HT_.out (h := ?_)
                    refine Sk.pq 30 55 spec_CallsOk.v31 HT_.out (h := ?_)
                    refine Sk.pq 31 56 spec_CallsOk.v32 HT_.out (h := ?_)
                    refine Sk.pq 32 57 spec_CallsOk.v33 HT_.out (h := ?_)
                    refine Sk.tk10 33 58 spec_CallsOk.v34 HT_.out HW_.out hHeld (h := ?_)
                    refine one_ (i := 34) (N := some 59) spec_CallsOk.v35 rfl rfl (one_of HT_.out (by kernel_rfl)) (by decide) (fun K hK => ?_)
                    refine goes_ Try.func102 (by kernel_rfl) rfl #[.int .i64 ((rd_T91 l1 x5_2).f3)] (by rfl) rfl rfl (by (try simp only [List.map_toArray, List.map_cons, List.map_nil]); first | done | rfl | (simp only [List.length_drop, List.length_take]; rfl)) ?_
                    with_reducible refine (spec_l1Minute.calls ((rd_T91 l1 x5_2).f3) true _ A25.out).mono ?_
                    rintro e w' ⟨rfl, ⟨nd, rfl⟩⟩
                    refine ⟨_, rfl, ?_⟩
                    refine hK.out _ _ ⟨(blk_cell BK122.out 0).trans rfl, (blk_cell BK122.out 1).trans rfl, (blk_cell BK122.out 2).trans rfl, (blk_cell BK122.out 3).trans rfl, (blk_cell BK122.out 4).trans rfl, ((HB.out.cell (World.block_lt_of_cell? w _ hw124_0)).trans hw124_0), ((HB.out.cell (World.block_lt_of_cell? w _ hw124_1)).trans hw124_1), ((HB.out.cell (World.block_lt_of_cell? w _ hw124_2)).trans hw124_2), ((HB.out.cell (World.block_lt_of_cell? w _ hw124_3)).trans hw124_3), ((HB.out.cell (World.block_lt_of_cell? w _ hw124_4)).trans hw124_4)⟩ (fun hHeld => ?_)
                    clear hK K
                    refine Sk.nm 59 (h := ?_)
                    refine Sk.pq 35 60 spec_CallsOk.v36 HT_.out (h := ?_)
                    refine Sk.pq 36 61 spec_CallsOk.v37 HT_.out (h := ?_)
                    refine Sk.pq 37 62 spec_CallsOk.v38 HT_.out (h := ?_)
                    refine Sk.pq 38 63 spec_CallsOk.v39 HT_.out (h := ?_)
                    refine Sk.pq 40 65 spec_CallsOk.v65 HT_.out (h := ?_)
                    refine Sk.tk10 39 64 spec_CallsOk.v41 HT_.out HW_.out hHeld (h := ?_)
                    refine Sk.tk10 41 66 spec_CallsOk.v42 HT_.out HW_.out hHeld (h := ?_)
                    refine Sk.pq 42 67 spec_CallsOk.v43 HT_.out (h := ?_)
                    refine Sk.pq 43 68 spec_CallsOk.v44 HT_.out (h := ?_)
                    refine Sk.pq 44 69 spec_CallsOk.v45 HT_.out (h := ?_)
                    refine Sk.pq 45 70 spec_CallsOk.v46 HT_.out (h := ?_)
                    refine Sk.tk10 46 71 spec_CallsOk.v47 HT_.out HW_.out hHeld (h := ?_)
                    refine one_ (i := 47) (N := some 72) spec_CallsOk.v48 rfl rfl (one_of HT_.out (by kernel_rfl)) (by decide) (fun K hK => ?_)
                    refine goes_ Try.func51 (by kernel_rfl) rfl #[.int .i64 ((rd_T91 l1 x5_2).f4), .int .i64 (-1), .int .i64 1000] (by rfl) rfl rfl (by (try simp only [List.map_toArray, List.map_cons, List.map_nil]); first | done | rfl | (simp only [List.length_drop, List.length_take]; rfl)) ?_
                    with_reducible refine (spec_l1In.calls ((rd_T91 l1 x5_2).f4) (-1) 1000 true _ A30.out).mono ?_
                    rintro e w' ⟨rfl, ⟨nd, rfl⟩⟩
                    refine ⟨_, rfl, ?_⟩
                    refine hK.out _ _ ⟨(blk_cell BK122.out 0).trans rfl, (blk_cell BK122.out 1).trans rfl, (blk_cell BK122.out 2).trans rfl, (blk_cell BK122.out 3).trans rfl, (blk_cell BK122.out 4).trans rfl, ((HB.out.cell (World.block_lt_of_cell? w _ hw124_0)).trans hw124_0), ((HB.out.cell (World.block_lt_of_cell? w _ hw124_1)).trans hw124_1), ((HB.out.cell (World.block_lt_of_cell? w _ hw124_2)).trans hw124_2), ((HB.out.cell (World.block_lt_of_cell? w _ hw124_3)).trans hw124_3), ((HB.out.cell (World.block_lt_of_cell? w _ hw124_4)).trans hw124_4)⟩ (fun hHeld => ?_)
                    clear hK K
                    refine Sk.nm 72 (h := ?_)
                    refine Sk.pq 48 73 spec_CallsOk.v49 HT_.out (h := ?_)
                    refine Sk.pq 49 74 spec_CallsOk.v50 HT_.out (h := ?_)
                    refine Sk.pq 50 75 spec_CallsOk.v51 HT_.out (h := ?_)
                    refine Sk.pq 51 76 spec_CallsOk.v52 HT_.out (h := ?_)
                    refine Sk.tk10 52 77 spec_CallsOk.v53 HT_.out HW_.out hHeld (h := ?_)
                    refine Sk.pq 53 78 spec_CallsOk.v54 HT_.out (h := ?_)
                    refine Sk.pq 54 79 spec_CallsOk.v55 HT_.out (h := ?_)
                    refine Sk.pu 55 80 spec_CallsOk.v56 HT_.out (h := ?_)
                    refine Sk.pu 56 81 spec_CallsOk.v57 HT_.out (h := ?_)
                    refine Sk.pu 57 82 spec_CallsOk.v58 HT_.out (h := ?_)
                    refine Sk.pu 58 83 spec_CallsOk.v59 HT_.out (h := ?_)
                    refine Sk.pu 59 84 spec_CallsOk.v60 HT_.out (h := ?_)
                    refine Sk.pu 60 85 spec_CallsOk.v61 HT_.out (h := ?_)
                    refine Sk.pu 61 86 spec_CallsOk.v62 HT_.out (h := ?_)
                    refine Sk.pq 62 87 spec_CallsOk.v63 HT_.out (h := ?_)
                    refine Sk.pq 63 88 spec_CallsOk.v64 HT_.out (h := ?_)
                    refine done_ (done_of HT_.out (by kernel_rfl)) ?_
                    try go_wp2
                    go_meet
                    case rel => exact ⟨_, (false), (by first | rfl | (simp; done) | (simp [*]; done)), H', ⟨by have := HJ2.out; have := HK2.out; first | omega | exact Nat.le_refl _⟩, ⟨by (with_reducible repeat (first | refine blk_drewN ?_ _ | refine blk_drew ?_ | refine blk_alloc ?_ _)); exact BK122.out⟩, ⟨by repeat (first | (with_reducible first | exact HB.out | apply below_alloc | apply pw_below_drewN | apply below_drew1 | refine below_set ?_ GE122.out) | exact HB.out)⟩⟩
                  ·replace c31 := Bool.eq_false_iff.mpr c31
                   subst c31
                   rw [if_neg (show ¬ (false = true) by decide)] at H
                   have H' := Aside0.mk H
                   clear H
                   try go_wp2
                   have n0_ : Aside0 ((((((w10.setCell ⟨gb122, 0, none⟩ (.int .i64 ((rd_T91 l1 x5_2).f0))).setCell ⟨gb122, 1, none⟩ (.int .i64 ((rd_T91 l1 x5_2).f1))).setCell ⟨gb122, 2, none⟩ (.int .i64 ((rd_T91 l1 x5_2).f2))).setCell ⟨gb122, 3, none⟩ (.int .i64 ((rd_T91 l1 x5_2).f3))).setCell ⟨gb122, 4, none⟩ (.int .i64 ((rd_T91 l1 x5_2).f4))).heap[gb122]? = some (.cells #[.int .i64 ((rd_T91 l1 x5_2).f0), .int .i64 ((rd_T91 l1 x5_2).f1), .int .i64 ((rd_T91 l1 x5_2).f2), .int .i64 ((rd_T91 l1 x5_2).f3), .int .i64 ((rd_T91 l1 x5_2).f4)] 91 (0, 0))) := ⟨by (with_reducible repeat (first | refine blk_drewN ?_ _ | refine blk_drew ?_ | refine blk_alloc ?_ _)); refine blk_put (cs := #[.int .i64 ((rd_T91 l1 x5_2).f0), .int .i64 ((rd_T91 l1 x5_2).f1), .int .i64 ((rd_T91 l1 x5_2).f2), .int .i64 ((rd_T91 l1 x5_2).f3), .int .i64 0]) ?_ 4 _ rfl; (with_reducible repeat (first | refine blk_drewN ?_ _ | refine blk_drew ?_ | refine blk_alloc ?_ _)); refine blk_put (cs := #[.int .i64 ((rd_T91 l1 x5_2).f0), .int .i64 ((rd_T91 l1 x5_2).f1), .int .i64 ((rd_T91 l1 x5_2).f2), .int .i64 0, .int .i64 0]) ?_ 3 _ rfl; (with_reducible repeat (first | refine blk_drewN ?_ _ | refine blk_drew ?_ | refine blk_alloc ?_ _)); refine blk_put (cs := #[.int .i64 ((rd_T91 l1 x5_2).f0), .int .i64 ((rd_T91 l1 x5_2).f1), .int .i64 0, .int .i64 0, .int .i64 0]) ?_ 2 _ rfl; (with_reducible repeat (first | refine blk_drewN ?_ _ | refine blk_drew ?_ | refine blk_alloc ?_ _)); refine blk_put (cs := #[.int .i64 ((rd_T91 l1 x5_2).f0), .int .i64 0, .int .i64 0, .int .i64 0, .int .i64 0]) ?_ 1 _ rfl; (with_reducible repeat (first | refine blk_drewN ?_ _ | refine blk_drew ?_ | refine blk_alloc ?_ _)); refine blk_put (cs := #[.int .i64 0, .int .i64 0, .int .i64 0, .int .i64 0, .int .i64 0]) ?_ 0 _ rfl; (with_reducible repeat (first | refine blk_drewN ?_ _ | refine blk_drew ?_ | refine blk_alloc ?_ _)); exact BK122.out⟩
                   have n1_ : Aside0 (Below w.heap.size w (((((w10.setCell ⟨gb122, 0, none⟩ (.int .i64 ((rd_T91 l1 x5_2).f0))).setCell ⟨gb122, 1, none⟩ (.int .i64 ((rd_T91 l1 x5_2).f1))).setCell ⟨gb122, 2, none⟩ (.int .i64 ((rd_T91 l1 x5_2).f2))).setCell ⟨gb122, 3, none⟩ (.int .i64 ((rd_T91 l1 x5_2).f3))).setCell ⟨gb122, 4, none⟩ (.int .i64 ((rd_T91 l1 x5_2).f4)))) := ⟨by repeat (first | (with_reducible first | exact HB.out | apply below_alloc | apply pw_below_drewN | apply below_drew1 | refine below_set ?_ GE122.out) | exact HB.out)⟩
                   (try clear BK122)
                   (try clear HB)
                   generalize (((((w10.setCell ⟨gb122, 0, none⟩ (.int .i64 ((rd_T91 l1 x5_2).f0))).setCell ⟨gb122, 1, none⟩ (.int .i64 ((rd_T91 l1 x5_2).f1))).setCell ⟨gb122, 2, none⟩ (.int .i64 ((rd_T91 l1 x5_2).f2))).setCell ⟨gb122, 3, none⟩ (.int .i64 ((rd_T91 l1 x5_2).f3))).setCell ⟨gb122, 4, none⟩ (.int .i64 ((rd_T91 l1 x5_2).f4))) = w37 at n0_ n1_ ⊢
                   have BK122 := n0_
                   have HB := n1_
                   clear n0_ n1_
                   have n0_ := Aside0.mk (blk_drew BK122.out)
                   have n1_ := Aside0.mk (below_drew1 HB.out)
                   clear BK122
                   clear HB
                   have BK122 := n0_
                   have HB := n1_
                   clear n0_ n1_
                   have p124 : 0 ≤ ((ji15) : Int) := of_decide_eq_true (by first | (with_reducible assumption) | assumption)
                   have q124 : (ji15) < (l1.length : Int) := of_decide_eq_true (by first | (with_reducible assumption) | assumption)
                   obtain ⟨ad124, e124, hx124_0, hx124_1, hx124_2, hx124_3, hx124_4⟩ := at_T91 HR1.out (ji15) p124 q124
                   have hw124_4 := hx124_4
                   have hw124_3 := hx124_3
                   have hw124_2 := hx124_2
                   have hw124_1 := hx124_1
                   have hw124_0 := hx124_0
                   obtain rfl : ad121 = ad124 := (by injection e124)
                   replace hx124_0 := (HB.out.cell (World.block_lt_of_cell? w _ hx124_0)).trans hx124_0
                   replace hx124_1 := (HB.out.cell (World.block_lt_of_cell? w _ hx124_1)).trans hx124_1
                   replace hx124_2 := (HB.out.cell (World.block_lt_of_cell? w _ hx124_2)).trans hx124_2
                   replace hx124_3 := (HB.out.cell (World.block_lt_of_cell? w _ hx124_3)).trans hx124_3
                   replace hx124_4 := (HB.out.cell (World.block_lt_of_cell? w _ hx124_4)).trans hx124_4
                   replace p124 := eq_true p124
                   replace q124 := eq_true q124
                   refine start_ (n := 64) (S := fun w' => w'.cell? ⟨gb122, 0, none⟩ = some (.int .i64 ((rd_T91 l1 x5_2).f0)) ∧ w'.cell? ⟨gb122, 1, none⟩ = some (.int .i64 ((rd_T91 l1 x5_2).f1)) ∧ w'.cell? ⟨gb122, 2, none⟩ = some (.int .i64 ((rd_T91 l1 x5_2).f2)) ∧ w'.cell? ⟨gb122, 3, none⟩ = some (.int .i64 ((rd_T91 l1 x5_2).f3)) ∧ w'.cell? ⟨gb122, 4, none⟩ = some (.int .i64 ((rd_T91 l1 x5_2).f4)) ∧ w'.cell? (ad121.add (((ji15)).toNat * 5)) = some (.int .i64 ((rd_T91 l1 (ji15)).f0)) ∧ w'.cell? ⟨(ad121.add (((ji15)).toNat * 5)).block, (ad121.add (((ji15)).toNat * 5)).off + 1, none⟩ = some (.int .i64 ((rd_T91 l1 (ji15)).f1)) ∧ w'.cell? ⟨(ad121.add (((ji15)).toNat * 5)).block, (ad121.add (((ji15)).toNat * 5)).off + 2, none⟩ = some (.int .i64 ((rd_T91 l1 (ji15)).f2)) ∧ w'.cell? ⟨(ad121.add (((ji15)).toNat * 5)).block, (ad121.add (((ji15)).toNat * 5)).off + 3, none⟩ = some (.int .i64 ((rd_T91 l1 (ji15)).f3)) ∧ w'.cell? ⟨(ad121.add (((ji15)).toNat * 5)).block, (ad121.add (((ji15)).toNat * 5)).off + 4, none⟩ = some (.int .i64 ((rd_T91 l1 (ji15)).f4))) (ds := []) spec_CallsOk.v0 (by kernel_rfl) rfl rfl ⟨(blk_cell BK122.out 0).trans rfl, (blk_cell BK122.out 1).trans rfl, (blk_cell BK122.out 2).trans rfl, (blk_cell BK122.out 3).trans rfl, (blk_cell BK122.out 4).trans rfl, ((HB.out.cell (World.block_lt_of_cell? w _ hw124_0)).trans hw124_0), ((HB.out.cell (World.block_lt_of_cell? w _ hw124_1)).trans hw124_1), ((HB.out.cell (World.block_lt_of_cell? w _ hw124_2)).trans hw124_2), ((HB.out.cell (World.block_lt_of_cell? w _ hw124_3)).trans hw124_3), ((HB.out.cell (World.block_lt_of_cell? w _ hw124_4)).trans hw124_4)⟩ (fun hHeld => ?_); refine with_tabW spec_CallsOk.tab7 spec_CallsOk.bits7 (fun HT_ HW_ => ?_)
                   generalize w37.drew = w38 at BK122 HB hx124_0 hx124_1 hx124_2 hx124_3 hx124_4 hHeld ⊢
                   refine Sk.pq 0 25 spec_CallsOk.v1 HT_.out (h := ?_)
                   refine Sk.tk10 1 26 spec_CallsOk.v2 HT_.out HW_.out hHeld (h := ?_)
                   refine one_ (i := 2) (N := some 27) spec_CallsOk.v3 rfl rfl (one_of HT_.out (by kernel_rfl)) (by decide) (fun K hK => ?_)
                   refine goes_ Try.func51 (by kernel_rfl) rfl #[.int .i64 ((rd_T91 l1 x5_2).f0), .int .i64 1, .int .i64 1000000] (by rfl) rfl rfl (by (try simp only [List.map_toArray, List.map_cons, List.map_nil]); first | done | rfl | (simp only [List.length_drop, List.length_take]; rfl)) ?_
                   with_reducible refine (spec_l1In.calls ((rd_T91 l1 x5_2).f0) 1 1000000 true _ A12.out).mono ?_
                   rintro e w' ⟨rfl, ⟨nd, rfl⟩⟩
                   refine ⟨_, rfl, ?_⟩
                   refine hK.out _ _ ⟨(blk_cell BK122.out 0).trans rfl, (blk_cell BK122.out 1).trans rfl, (blk_cell BK122.out 2).trans rfl, (blk_cell BK122.out 3).trans rfl, (blk_cell BK122.out 4).trans rfl, ((HB.out.cell (World.block_lt_of_cell? w _ hw124_0)).trans hw124_0), ((HB.out.cell (World.block_lt_of_cell? w _ hw124_1)).trans hw124_1), ((HB.out.cell (World.block_lt_of_cell? w _ hw124_2)).trans hw124_2), ((HB.out.cell (World.block_lt_of_cell? w _ hw124_3)).trans hw124_3), ((HB.out.cell (World.block_lt_of_cell? w _ hw124_4)).trans hw124_4)⟩ (fun hHeld => ?_)
                   clear hK K
                   refine Sk.nm 27 (h := ?_)
                   refine Sk.pq 3 28 spec_CallsOk.v4 HT_.out (h := ?_)
                   refine Sk.pq 4 29 spec_CallsOk.v5 HT_.out (h := ?_)
                   refine Sk.pq 5 30 spec_CallsOk.v6 HT_.out (h := ?_)
                   refine Sk.pq 6 31 spec_CallsOk.v7 HT_.out (h := ?_)
                   refine Sk.pq 7 32 spec_CallsOk.v8 HT_.out (h := ?_)
                   refine Sk.pq 8 33 spec_CallsOk.v9 HT_.out (h := ?_)
                   refine Sk.pq 9 34 spec_CallsOk.v10 HT_.out (h := ?_)
                   refine Sk.pq 10 35 spec_CallsOk.v11 HT_.out (h := ?_)
                   refine Sk.pq 11 36 spec_CallsOk.v12 HT_.out (h := ?_)
                   refine Sk.pq 12 37 spec_CallsOk.v13 HT_.out (h := ?_)
                   refine Sk.pq 14 39 spec_CallsOk.v14 HT_.out (h := ?_)
                   refine Sk.tk10 13 38 spec_CallsOk.v15 HT_.out HW_.out hHeld (h := ?_)
                   refine Sk.tk10 15 40 spec_CallsOk.v16 HT_.out HW_.out hHeld (h := ?_)
                   refine Sk.pq 16 41 spec_CallsOk.v17 HT_.out (h := ?_)
                   refine Sk.pq 17 42 spec_CallsOk.v18 HT_.out (h := ?_)
                   refine Sk.pq 18 43 spec_CallsOk.v19 HT_.out (h := ?_)
                   refine Sk.pq 19 44 spec_CallsOk.v20 HT_.out (h := ?_)
                   refine Sk.pq 20 45 spec_CallsOk.v21 HT_.out (h := ?_)
                   refine Sk.tk10 21 46 spec_CallsOk.v22 HT_.out HW_.out hHeld (h := ?_)
                   refine one_ (i := 22) (N := some 47) spec_CallsOk.v23 rfl rfl (one_of HT_.out (by kernel_rfl)) (by decide) (fun K hK => ?_)
                   refine goes_ Try.func51 (by kernel_rfl) rfl #[.int .i64 ((rd_T91 l1 x5_2).f1), .int .i64 1, .int .i64 1000] (by rfl) rfl rfl (by (try simp only [List.map_toArray, List.map_cons, List.map_nil]); first | done | rfl | (simp only [List.length_drop, List.length_take]; rfl)) ?_
                   with_reducible refine (spec_l1In.calls ((rd_T91 l1 x5_2).f1) 1 1000 true _ A21.out).mono ?_
                   rintro e w' ⟨rfl, ⟨nd, rfl⟩⟩
                   refine ⟨_, rfl, ?_⟩
                   refine hK.out _ _ ⟨(blk_cell BK122.out 0).trans rfl, (blk_cell BK122.out 1).trans rfl, (blk_cell BK122.out 2).trans rfl, (blk_cell BK122.out 3).trans rfl, (blk_cell BK122.out 4).trans rfl, ((HB.out.cell (World.block_lt_of_cell? w _ hw124_0)).trans hw124_0), ((HB.out.cell (World.block_lt_of_cell? w _ hw124_1)).trans hw124_1), ((HB.out.cell (World.block_lt_of_cell? w _ hw124_2)).trans hw124_2), ((HB.out.cell (World.block_lt_of_cell? w _ hw124_3)).trans hw124_3), ((HB.out.cell (World.block_lt_of_cell? w _ hw124_4)).trans hw124_4)⟩ (fun hHeld => ?_)
                   clear hK K
                   refine Sk.nm 47 (h := ?_)
                   refine Sk.pq 23 48 spec_CallsOk.v24 HT_.out (h := ?_)
                   refine Sk.pq 24 49 spec_CallsOk.v25 HT_.out (h := ?_)
                   refine Sk.pq 25 50 spec_CallsOk.v26 HT_.out (h := ?_)
                   refine Sk.pq 26 51 spec_CallsOk.v27 HT_.out (h := ?_)
                   refine Sk.tk10 27 52 spec_CallsOk.v28 HT_.out HW_.out hHeld (h := ?_)
                   refine one_ (i := 28) (N := some 53) spec_CallsOk.v29 rfl rfl (one_of HT_.out (by kernel_rfl)) (by decide) (fun K hK => ?_)
                   refine goes_ Try.func102 (by kernel_rfl) rfl #[.int .i64 ((rd_T91 l1 x5_2).f2)] (by rfl) rfl rfl (by (try simp only [List.map_toArray, List.map_cons, List.map_nil]); first | done | rfl | (simp only [List.length_drop, List.length_take]; rfl)) ?_
                   with_reducible refine (spec_l1Minute.calls ((rd_T91 l1 x5_2).f2) true _ A23.out).mono ?_
                   rintro e w' ⟨rfl, ⟨nd, rfl⟩⟩
                   refine ⟨_, rfl, ?_⟩
                   refine hK.out _ _ ⟨(blk_cell BK122.out 0).trans rfl, (blk_cell BK122.out 1).trans rfl, (blk_cell BK122.out 2).trans rfl, (blk_cell BK122.out 3).trans rfl, (blk_cell BK122.out 4).trans rfl, ((HB.out.cell (World.block_lt_of_cell? w _ hw124_0)).trans hw124_0), ((HB.out.cell (World.block_lt_of_cell? w _ hw124_1)).trans hw124_1), ((HB.out.cell (World.block_lt_of_cell? w _ hw124_2)).trans hw124_2), ((HB.out.cell (World.block_lt_of_cell? w _ hw124_3)).trans hw124_3), ((HB.out.cell (World.block_lt_of_cell? w _ hw124_4)).trans hw124_4)⟩ (fun hHeld => ?_)
                   clear hK K
                   refine Sk.nm 53 (h := ?_)
                   refine Sk.pq 29 54 spec_CallsOk.v30 HT_.out (h := ?_)
                   refine Sk.pq 30 55 spec_CallsOk.v31 HT_.out (h := ?_)
                   refine Sk.pq 31 56 spec_CallsOk.v32 HT_.out (h := ?_)
                   refine Sk.pq 32 57 spec_CallsOk.v33 HT_.out (h := ?_)
                   refine Sk.tk10 33 58 spec_CallsOk.v34 HT_.out HW_.out hHeld (h := ?_)
                   refine one_ (i := 34) (N := some 59) spec_CallsOk.v35 rfl rfl (one_of HT_.out (by kernel_rfl)) (by decide) (fun K hK => ?_)
                   refine goes_ Try.func102 (by kernel_rfl) rfl #[.int .i64 ((rd_T91 l1 x5_2).f3)] (by rfl) rfl rfl (by (try simp only [List.map_toArray, List.map_cons, List.map_nil]); first | done | rfl | (simp only [List.length_drop, List.length_take]; rfl)) ?_
                   with_reducible refine (spec_l1Minute.calls ((rd_T91 l1 x5_2).f3) true _ A25.out).mono ?_
                   rintro e w' ⟨rfl, ⟨nd, rfl⟩⟩
                   refine ⟨_, rfl, ?_⟩
                   refine hK.out _ _ ⟨(blk_cell BK122.out 0).trans rfl, (blk_cell BK122.out 1).trans rfl, (blk_cell BK122.out 2).trans rfl, (blk_cell BK122.out 3).trans rfl, (blk_cell BK122.out 4).trans rfl, ((HB.out.cell (World.block_lt_of_cell? w _ hw124_0)).trans hw124_0), ((HB.out.cell (World.block_lt_of_cell? w _ hw124_1)).trans hw124_1), ((HB.out.cell (World.block_lt_of_cell? w _ hw124_2)).trans hw124_2), ((HB.out.cell (World.block_lt_of_cell? w _ hw124_3)).trans hw124_3), ((HB.out.cell (World.block_lt_of_cell? w _ hw124_4)).trans hw124_4)⟩ (fun hHeld => ?_)
                   clear hK K
                   refine Sk.nm 59 (h := ?_)
                   refine Sk.pq 35 60 spec_CallsOk.v36 HT_.out (h := ?_)
                   refine Sk.pq 36 61 spec_CallsOk.v37 HT_.out (h := ?_)
                   refine Sk.pq 37 62 spec_CallsOk.v38 HT_.out (h := ?_)
                   refine Sk.pq 38 63 spec_CallsOk.v39 HT_.out (h := ?_)
                   refine Sk.pq 40 65 spec_CallsOk.v65 HT_.out (h := ?_)
                   refine Sk.tk10 39 64 spec_CallsOk.v41 HT_.out HW_.out hHeld (h := ?_)
                   refine Sk.tk10 41 66 spec_CallsOk.v42 HT_.out HW_.out hHeld (h := ?_)
                   refine Sk.pq 42 67 spec_CallsOk.v43 HT_.out (h := ?_)
                   refine Sk.pq 43 68 spec_CallsOk.v44 HT_.out (h := ?_)
                   refine Sk.pq 44 69 spec_CallsOk.v45 HT_.out (h := ?_)
                   refine Sk.pq 45 70 spec_CallsOk.v46 HT_.out (h := ?_)
                   refine Sk.tk10 46 71 spec_CallsOk.v47 HT_.out HW_.out hHeld (h := ?_)
                   refine one_ (i := 47) (N := some 72) spec_CallsOk.v48 rfl rfl (one_of HT_.out (by kernel_rfl)) (by decide) (fun K hK => ?_)
                   refine goes_ Try.func51 (by kernel_rfl) rfl #[.int .i64 ((rd_T91 l1 x5_2).f4), .int .i64 (-1), .int .i64 1000] (by rfl) rfl rfl (by (try simp only [List.map_toArray, List.map_cons, List.map_nil]); first | done | rfl | (simp only [List.length_drop, List.length_take]; rfl)) ?_
                   with_reducible refine (spec_l1In.calls ((rd_T91 l1 x5_2).f4) (-1) 1000 false _ A30.out).mono ?_
                   rintro e w' ⟨rfl, ⟨nd, rfl⟩⟩
                   refine ⟨_, rfl, ?_⟩
                   refine hK.out _ _ ⟨(blk_cell BK122.out 0).trans rfl, (blk_cell BK122.out 1).trans rfl, (blk_cell BK122.out 2).trans rfl, (blk_cell BK122.out 3).trans rfl, (blk_cell BK122.out 4).trans rfl, ((HB.out.cell (World.block_lt_of_cell? w _ hw124_0)).trans hw124_0), ((HB.out.cell (World.block_lt_of_cell? w _ hw124_1)).trans hw124_1), ((HB.out.cell (World.block_lt_of_cell? w _ hw124_2)).trans hw124_2), ((HB.out.cell (World.block_lt_of_cell? w _ hw124_3)).trans hw124_3), ((HB.out.cell (World.block_lt_of_cell? w _ hw124_4)).trans hw124_4)⟩ (fun hHeld => ?_)
                   clear hK K
                   refine Sk.nm 72 (h := ?_)
                   refine Sk.pq 48 73 spec_CallsOk.v49 HT_.out (h := ?_)
                   refine Sk.pq 49 74 spec_CallsOk.v50 HT_.out (h := ?_)
                   refine Sk.pq 50 75 spec_CallsOk.v51 HT_.out (h := ?_)
                   refine Sk.pu 51 76 spec_CallsOk.v52 HT_.out (h := ?_)
                   refine Sk.pu 52 77 spec_CallsOk.v53 HT_.out (h := ?_)
                   refine Sk.pu 53 78 spec_CallsOk.v54 HT_.out (h := ?_)
                   refine Sk.pu 54 79 spec_CallsOk.v55 HT_.out (h := ?_)
                   refine Sk.pu 55 80 spec_CallsOk.v56 HT_.out (h := ?_)
                   refine Sk.pu 56 81 spec_CallsOk.v57 HT_.out (h := ?_)
                   refine Sk.pu 57 82 spec_CallsOk.v58 HT_.out (h := ?_)
                   refine Sk.pu 58 83 spec_CallsOk.v59 HT_.out (h := ?_)
                   refine Sk.pu 59 84 spec_CallsOk.v60 HT_.out (h := ?_)
                   refine Sk.pu 60 85 spec_CallsOk.v61 HT_.out (h := ?_)
                   refine Sk.pu 61 86 spec_CallsOk.v62 HT_.out (h := ?_)
                   refine Sk.pu 62 87 spec_CallsOk.v63 HT_.out (h := ?_)
                   refine Sk.pq 63 88 spec_CallsOk.v64 HT_.out (h := ?_)
                   refine done_ (done_of HT_.out (by kernel_rfl)) ?_
                   try go_wp2
                   go_meet
                   case rel => exact ⟨_, (true), (by first | rfl | (simp; done) | (simp [*]; done)), H', ⟨by have := HJ2.out; have := HK2.out; first | omega | exact Nat.le_refl _⟩, ⟨by (with_reducible repeat (first | refine blk_drewN ?_ _ | refine blk_drew ?_ | refine blk_alloc ?_ _)); exact BK122.out⟩, ⟨by repeat (first | (with_reducible first | exact HB.out | apply below_alloc | apply pw_below_drewN | apply below_drew1 | refine below_set ?_ GE122.out) | exact HB.out)⟩⟩
                ·replace c26 := Bool.eq_false_iff.mpr c26
                 subst c26
                 rw [if_neg (show ¬ (false = true) by decide)] at H
                 have H' := Aside0.mk H
                 clear H
                 try go_wp2
                 have n0_ : Aside0 ((((((w10.setCell ⟨gb122, 0, none⟩ (.int .i64 ((rd_T91 l1 x5_2).f0))).setCell ⟨gb122, 1, none⟩ (.int .i64 ((rd_T91 l1 x5_2).f1))).setCell ⟨gb122, 2, none⟩ (.int .i64 ((rd_T91 l1 x5_2).f2))).setCell ⟨gb122, 3, none⟩ (.int .i64 ((rd_T91 l1 x5_2).f3))).setCell ⟨gb122, 4, none⟩ (.int .i64 ((rd_T91 l1 x5_2).f4))).heap[gb122]? = some (.cells #[.int .i64 ((rd_T91 l1 x5_2).f0), .int .i64 ((rd_T91 l1 x5_2).f1), .int .i64 ((rd_T91 l1 x5_2).f2), .int .i64 ((rd_T91 l1 x5_2).f3), .int .i64 ((rd_T91 l1 x5_2).f4)] 91 (0, 0))) := ⟨by (with_reducible repeat (first | refine blk_drewN ?_ _ | refine blk_drew ?_ | refine blk_alloc ?_ _)); refine blk_put (cs := #[.int .i64 ((rd_T91 l1 x5_2).f0), .int .i64 ((rd_T91 l1 x5_2).f1), .int .i64 ((rd_T91 l1 x5_2).f2), .int .i64 ((rd_T91 l1 x5_2).f3), .int .i64 0]) ?_ 4 _ rfl; (with_reducible repeat (first | refine blk_drewN ?_ _ | refine blk_drew ?_ | refine blk_alloc ?_ _)); refine blk_put (cs := #[.int .i64 ((rd_T91 l1 x5_2).f0), .int .i64 ((rd_T91 l1 x5_2).f1), .int .i64 ((rd_T91 l1 x5_2).f2), .int .i64 0, .int .i64 0]) ?_ 3 _ rfl; (with_reducible repeat (first | refine blk_drewN ?_ _ | refine blk_drew ?_ | refine blk_alloc ?_ _)); refine blk_put (cs := #[.int .i64 ((rd_T91 l1 x5_2).f0), .int .i64 ((rd_T91 l1 x5_2).f1), .int .i64 0, .int .i64 0, .int .i64 0]) ?_ 2 _ rfl; (with_reducible repeat (first | refine blk_drewN ?_ _ | refine blk_drew ?_ | refine blk_alloc ?_ _)); refine blk_put (cs := #[.int .i64 ((rd_T91 l1 x5_2).f0), .int .i64 0, .int .i64 0, .int .i64 0, .int .i64 0]) ?_ 1 _ rfl; (with_reducible repeat (first | refine blk_drewN ?_ _ | refine blk_drew ?_ | refine blk_alloc ?_ _)); refine blk_put (cs := #[.int .i64 0, .int .i64 0, .int .i64 0, .int .i64 0, .int .i64 0]) ?_ 0 _ rfl; (with_reducible repeat (first | refine blk_drewN ?_ _ | refine blk_drew ?_ | refine blk_alloc ?_ _)); exact BK122.out⟩
                 have n1_ : Aside0 (Below w.heap.size w (((((w10.setCell ⟨gb122, 0, none⟩ (.int .i64 ((rd_T91 l1 x5_2).f0))).setCell ⟨gb122, 1, none⟩ (.int .i64 ((rd_T91 l1 x5_2).f1))).setCell ⟨gb122, 2, none⟩ (.int .i64 ((rd_T91 l1 x5_2).f2))).setCell ⟨gb122, 3, none⟩ (.int .i64 ((rd_T91 l1 x5_2).f3))).setCell ⟨gb122, 4, none⟩ (.int .i64 ((rd_T91 l1 x5_2).f4)))) := ⟨by repeat (first | (with_reducible first | exact HB.out | apply below_alloc | apply pw_below_drewN | apply below_drew1 | refine below_set ?_ GE122.out) | exact HB.out)⟩
                 (try clear BK122)
                 (try clear HB)
                 generalize (((((w10.setCell ⟨gb122, 0, none⟩ (.int .i64 ((rd_T91 l1 x5_2).f0))).setCell ⟨gb122, 1, none⟩ (.int .i64 ((rd_T91 l1 x5_2).f1))).setCell ⟨gb122, 2, none⟩ (.int .i64 ((rd_T91 l1 x5_2).f2))).setCell ⟨gb122, 3, none⟩ (.int .i64 ((rd_T91 l1 x5_2).f3))).setCell ⟨gb122, 4, none⟩ (.int .i64 ((rd_T91 l1 x5_2).f4))) = w39 at n0_ n1_ ⊢
                 have BK122 := n0_
                 have HB := n1_
                 clear n0_ n1_
                 have n0_ := Aside0.mk (blk_drew BK122.out)
                 have n1_ := Aside0.mk (below_drew1 HB.out)
                 clear BK122
                 clear HB
                 have BK122 := n0_
                 have HB := n1_
                 clear n0_ n1_
                 have p124 : 0 ≤ ((ji15) : Int) := of_decide_eq_true (by first | (with_reducible assumption) | assumption)
                 have q124 : (ji15) < (l1.length : Int) := of_decide_eq_true (by first | (with_reducible assumption) | assumption)
                 obtain ⟨ad124, e124, hx124_0, hx124_1, hx124_2, hx124_3, hx124_4⟩ := at_T91 HR1.out (ji15) p124 q124
                 have hw124_4 := hx124_4
                 have hw124_3 := hx124_3
                 have hw124_2 := hx124_2
                 have hw124_1 := hx124_1
                 have hw124_0 := hx124_0
                 obtain rfl : ad121 = ad124 := (by injection e124)
                 replace hx124_0 := (HB.out.cell (World.block_lt_of_cell? w _ hx124_0)).trans hx124_0
                 replace hx124_1 := (HB.out.cell (World.block_lt_of_cell? w _ hx124_1)).trans hx124_1
                 replace hx124_2 := (HB.out.cell (World.block_lt_of_cell? w _ hx124_2)).trans hx124_2
                 replace hx124_3 := (HB.out.cell (World.block_lt_of_cell? w _ hx124_3)).trans hx124_3
                 replace hx124_4 := (HB.out.cell (World.block_lt_of_cell? w _ hx124_4)).trans hx124_4
                 replace p124 := eq_true p124
                 replace q124 := eq_true q124
                 refine start_ (n := 64) (S := fun w' => w'.cell? ⟨gb122, 0, none⟩ = some (.int .i64 ((rd_T91 l1 x5_2).f0)) ∧ w'.cell? ⟨gb122, 1, none⟩ = some (.int .i64 ((rd_T91 l1 x5_2).f1)) ∧ w'.cell? ⟨gb122, 2, none⟩ = some (.int .i64 ((rd_T91 l1 x5_2).f2)) ∧ w'.cell? ⟨gb122, 3, none⟩ = some (.int .i64 ((rd_T91 l1 x5_2).f3)) ∧ w'.cell? ⟨gb122, 4, none⟩ = some (.int .i64 ((rd_T91 l1 x5_2).f4)) ∧ w'.cell? (ad121.add (((ji15)).toNat * 5)) = some (.int .i64 ((rd_T91 l1 (ji15)).f0)) ∧ w'.cell? ⟨(ad121.add (((ji15)).toNat * 5)).block, (ad121.add (((ji15)).toNat * 5)).off + 1, none⟩ = some (.int .i64 ((rd_T91 l1 (ji15)).f1)) ∧ w'.cell? ⟨(ad121.add (((ji15)).toNat * 5)).block, (ad121.add (((ji15)).toNat * 5)).off + 2, none⟩ = some (.int .i64 ((rd_T91 l1 (ji15)).f2)) ∧ w'.cell? ⟨(ad121.add (((ji15)).toNat * 5)).block, (ad121.add (((ji15)).toNat * 5)).off + 3, none⟩ = some (.int .i64 ((rd_T91 l1 (ji15)).f3)) ∧ w'.cell? ⟨(ad121.add (((ji15)).toNat * 5)).block, (ad121.add (((ji15)).toNat * 5)).off + 4, none⟩ = some (.int .i64 ((rd_T91 l1 (ji15)).f4))) (ds := []) spec_CallsOk.v0 (by kernel_rfl) rfl rfl ⟨(blk_cell BK122.out 0).trans rfl, (blk_cell BK122.out 1).trans rfl, (blk_cell BK122.out 2).trans rfl, (blk_cell BK122.out 3).trans rfl, (blk_cell BK122.out 4).trans rfl, ((HB.out.cell (World.block_lt_of_cell? w _ hw124_0)).trans hw124_0), ((HB.out.cell (World.block_lt_of_cell? w _ hw124_1)).trans hw124_1), ((HB.out.cell (World.block_lt_of_cell? w _ hw124_2)).trans hw124_2), ((HB.out.cell (World.block_lt_of_cell? w _ hw124_3)).trans hw124_3), ((HB.out.cell (World.block_lt_of_cell? w _ hw124_4)).trans hw124_4)⟩ (fun hHeld => ?_); refine with_tabW spec_CallsOk.tab7 spec_CallsOk.bits7 (fun HT_ HW_ => ?_)
                 generalize w39.drew = w40 at BK122 HB hx124_0 hx124_1 hx124_2 hx124_3 hx124_4 hHeld ⊢
                 refine Sk.pq 0 25 spec_CallsOk.v1 HT_.out (h := ?_)
                 refine Sk.tk10 1 26 spec_CallsOk.v2 HT_.out HW_.out hHeld (h := ?_)
                 refine one_ (i := 2) (N := some 27) spec_CallsOk.v3 rfl rfl (one_of HT_.out (by kernel_rfl)) (by decide) (fun K hK => ?_)
                 refine goes_ Try.func51 (by kernel_rfl) rfl #[.int .i64 ((rd_T91 l1 x5_2).f0), .int .i64 1, .int .i64 1000000] (by rfl) rfl rfl (by (try simp only [List.map_toArray, List.map_cons, List.map_nil]); first | done | rfl | (simp only [List.length_drop, List.length_take]; rfl)) ?_
                 with_reducible refine (spec_l1In.calls ((rd_T91 l1 x5_2).f0) 1 1000000 true _ A12.out).mono ?_
                 rintro e w' ⟨rfl, ⟨nd, rfl⟩⟩
                 refine ⟨_, rfl, ?_⟩
                 refine hK.out _ _ ⟨(blk_cell BK122.out 0).trans rfl, (blk_cell BK122.out 1).trans rfl, (blk_cell BK122.out 2).trans rfl, (blk_cell BK122.out 3).trans rfl, (blk_cell BK122.out 4).trans rfl, ((HB.out.cell (World.block_lt_of_cell? w _ hw124_0)).trans hw124_0), ((HB.out.cell (World.block_lt_of_cell? w _ hw124_1)).trans hw124_1), ((HB.out.cell (World.block_lt_of_cell? w _ hw124_2)).trans hw124_2), ((HB.out.cell (World.block_lt_of_cell? w _ hw124_3)).trans hw124_3), ((HB.out.cell (World.block_lt_of_cell? w _ hw124_4)).trans hw124_4)⟩ (fun hHeld => ?_)
                 clear hK K
                 refine Sk.nm 27 (h := ?_)
                 refine Sk.pq 3 28 spec_CallsOk.v4 HT_.out (h := ?_)
                 refine Sk.pq 4 29 spec_CallsOk.v5 HT_.out (h := ?_)
                 refine Sk.pq 5 30 spec_CallsOk.v6 HT_.out (h := ?_)
                 refine Sk.pq 6 31 spec_CallsOk.v7 HT_.out (h := ?_)
                 refine Sk.pq 7 32 spec_CallsOk.v8 HT_.out (h := ?_)
                 refine Sk.pq 8 33 spec_CallsOk.v9 HT_.out (h := ?_)
                 refine Sk.pq 9 34 spec_CallsOk.v10 HT_.out (h := ?_)
                 refine Sk.pq 10 35 spec_CallsOk.v11 HT_.out (h := ?_)
                 refine Sk.pq 11 36 spec_CallsOk.v12 HT_.out (h := ?_)
                 refine Sk.pq 12 37 spec_CallsOk.v13 HT_.out (h := ?_)
                 refine Sk.pq 14 39 spec_CallsOk.v14 HT_.out (h := ?_)
                 refine Sk.tk10 13 38 spec_CallsOk.v15 HT_.out HW_.out hHeld (h := ?_)
                 refine Sk.tk10 15 40 spec_CallsOk.v16 HT_.out HW_.out hHeld (h := ?_)
                 refine Sk.pq 16 41 spec_CallsOk.v17 HT_.out (h := ?_)
                 refine Sk.pq 17 42 spec_CallsOk.v18 HT_.out (h := ?_)
                 refine Sk.pq 18 43 spec_CallsOk.v19 HT_.out (h := ?_)
                 refine Sk.pq 19 44 spec_CallsOk.v20 HT_.out (h := ?_)
                 refine Sk.pq 20 45 spec_CallsOk.v21 HT_.out (h := ?_)
                 refine Sk.tk10 21 46 spec_CallsOk.v22 HT_.out HW_.out hHeld (h := ?_)
                 refine one_ (i := 22) (N := some 47) spec_CallsOk.v23 rfl rfl (one_of HT_.out (by kernel_rfl)) (by decide) (fun K hK => ?_)
                 refine goes_ Try.func51 (by kernel_rfl) rfl #[.int .i64 ((rd_T91 l1 x5_2).f1), .int .i64 1, .int .i64 1000] (by rfl) rfl rfl (by (try simp only [List.map_toArray, List.map_cons, List.map_nil]); first | done | rfl | (simp only [List.length_drop, List.length_take]; rfl)) ?_
                 with_reducible refine (spec_l1In.calls ((rd_T91 l1 x5_2).f1) 1 1000 true _ A21.out).mono ?_
                 rintro e w' ⟨rfl, ⟨nd, rfl⟩⟩
                 refine ⟨_, rfl, ?_⟩
                 refine hK.out _ _ ⟨(blk_cell BK122.out 0).trans rfl, (blk_cell BK122.out 1).trans rfl, (blk_cell BK122.out 2).trans rfl, (blk_cell BK122.out 3).trans rfl, (blk_cell BK122.out 4).trans rfl, ((HB.out.cell (World.block_lt_of_cell? w _ hw124_0)).trans hw124_0), ((HB.out.cell (World.block_lt_of_cell? w _ hw124_1)).trans hw124_1), ((HB.out.cell (World.block_lt_of_cell? w _ hw124_2)).trans hw124_2), ((HB.out.cell (World.block_lt_of_cell? w _ hw124_3)).trans hw124_3), ((HB.out.cell (World.block_lt_of_cell? w _ hw124_4)).trans hw124_4)⟩ (fun hHeld => ?_)
                 clear hK K
                 refine Sk.nm 47 (h := ?_)
                 refine Sk.pq 23 48 spec_CallsOk.v24 HT_.out (h := ?_)
                 refine Sk.pq 24 49 spec_CallsOk.v25 HT_.out (h := ?_)
                 refine Sk.pq 25 50 spec_CallsOk.v26 HT_.out (h := ?_)
                 refine Sk.pq 26 51 spec_CallsOk.v27 HT_.out (h := ?_)
                 refine Sk.tk10 27 52 spec_CallsOk.v28 HT_.out HW_.out hHeld (h := ?_)
                 refine one_ (i := 28) (N := some 53) spec_CallsOk.v29 rfl rfl (one_of HT_.out (by kernel_rfl)) (by decide) (fun K hK => ?_)
                 refine goes_ Try.func102 (by kernel_rfl) rfl #[.int .i64 ((rd_T91 l1 x5_2).f2)] (by rfl) rfl rfl (by (try simp only [List.map_toArray, List.map_cons, List.map_nil]); first | done | rfl | (simp only [List.length_drop, List.length_take]; rfl)) ?_
                 with_reducible refine (spec_l1Minute.calls ((rd_T91 l1 x5_2).f2) true _ A23.out).mono ?_
                 rintro e w' ⟨rfl, ⟨nd, rfl⟩⟩
                 refine ⟨_, rfl, ?_⟩
                 refine hK.out _ _ ⟨(blk_cell BK122.out 0).trans rfl, (blk_cell BK122.out 1).trans rfl, (blk_cell BK122.out 2).trans rfl, (blk_cell BK122.out 3).trans rfl, (blk_cell BK122.out 4).trans rfl, ((HB.out.cell (World.block_lt_of_cell? w _ hw124_0)).trans hw124_0), ((HB.out.cell (World.block_lt_of_cell? w _ hw124_1)).trans hw124_1), ((HB.out.cell (World.block_lt_of_cell? w _ hw124_2)).trans hw124_2), ((HB.out.cell (World.block_lt_of_cell? w _ hw124_3)).trans hw124_3), ((HB.out.cell (World.block_lt_of_cell? w _ hw124_4)).trans hw124_4)⟩ (fun hHeld => ?_)
                 clear hK K
                 refine Sk.nm 53 (h := ?_)
                 refine Sk.pq 29 54 spec_CallsOk.v30 HT_.out (h := ?_)
                 refine Sk.pq 30 55 spec_CallsOk.v31 HT_.out (h := ?_)
                 refine Sk.pq 31 56 spec_CallsOk.v32 HT_.out (h := ?_)
                 refine Sk.pq 32 57 spec_CallsOk.v33 HT_.out (h := ?_)
                 refine Sk.tk10 33 58 spec_CallsOk.v34 HT_.out HW_.out hHeld (h := ?_)
                 refine one_ (i := 34) (N := some 59) spec_CallsOk.v35 rfl rfl (one_of HT_.out (by kernel_rfl)) (by decide) (fun K hK => ?_)
                 refine goes_ Try.func102 (by kernel_rfl) rfl #[.int .i64 ((rd_T91 l1 x5_2).f3)] (by rfl) rfl rfl (by (try simp only [List.map_toArray, List.map_cons, List.map_nil]); first | done | rfl | (simp only [List.length_drop, List.length_take]; rfl)) ?_
                 with_reducible refine (spec_l1Minute.calls ((rd_T91 l1 x5_2).f3) false _ A25.out).mono ?_
                 rintro e w' ⟨rfl, ⟨nd, rfl⟩⟩
                 refine ⟨_, rfl, ?_⟩
                 refine hK.out _ _ ⟨(blk_cell BK122.out 0).trans rfl, (blk_cell BK122.out 1).trans rfl, (blk_cell BK122.out 2).trans rfl, (blk_cell BK122.out 3).trans rfl, (blk_cell BK122.out 4).trans rfl, ((HB.out.cell (World.block_lt_of_cell? w _ hw124_0)).trans hw124_0), ((HB.out.cell (World.block_lt_of_cell? w _ hw124_1)).trans hw124_1), ((HB.out.cell (World.block_lt_of_cell? w _ hw124_2)).trans hw124_2), ((HB.out.cell (World.block_lt_of_cell? w _ hw124_3)).trans hw124_3), ((HB.out.cell (World.block_lt_of_cell? w _ hw124_4)).trans hw124_4)⟩ (fun hHeld => ?_)
                 clear hK K
                 refine Sk.nm 59 (h := ?_)
                 refine Sk.pq 35 60 spec_CallsOk.v36 HT_.out (h := ?_)
                 refine Sk.pq 36 61 spec_CallsOk.v37 HT_.out (h := ?_)
                 refine Sk.pq 37 62 spec_CallsOk.v38 HT_.out (h := ?_)
                 refine Sk.pu 38 63 spec_CallsOk.v39 HT_.out (h := ?_)
                 refine Sk.pu 39 64 spec_CallsOk.v40 HT_.out (h := ?_)
                 refine Sk.pu 40 65 spec_CallsOk.v41 HT_.out (h := ?_)
                 refine Sk.pu 41 66 spec_CallsOk.v42 HT_.out (h := ?_)
                 refine Sk.pu 42 67 spec_CallsOk.v43 HT_.out (h := ?_)
                 refine Sk.pq 43 68 spec_CallsOk.v44 HT_.out (h := ?_)
                 refine Sk.pq 44 69 spec_CallsOk.v45 HT_.out (h := ?_)
                 refine Sk.pu 45 70 spec_CallsOk.v46 HT_.out (h := ?_)
                 refine Sk.pu 46 71 spec_CallsOk.v47 HT_.out (h := ?_)
                 refine Sk.pu 47 72 spec_CallsOk.v48 HT_.out (h := ?_)
                 refine Sk.pu 48 73 spec_CallsOk.v49 HT_.out (h := ?_)
                 refine Sk.pq 49 74 spec_CallsOk.v50 HT_.out (h := ?_)
                 refine Sk.pq 50 75 spec_CallsOk.v51 HT_.out (h := ?_)
                 refine Sk.pu 51 76 spec_CallsOk.v52 HT_.out (h := ?_)
                 refine Sk.pu 52 77 spec_CallsOk.v53 HT_.out (h := ?_)
                 refine Sk.pu 53 78 spec_CallsOk.v54 HT_.out (h := ?_)
                 refine Sk.pu 54 79 spec_CallsOk.v55 HT_.out (h := ?_)
                 refine Sk.pu 55 80 spec_CallsOk.v56 HT_.out (h := ?_)
                 refine Sk.pu 56 81 spec_CallsOk.v57 HT_.out (h := ?_)
                 refine Sk.pu 57 82 spec_CallsOk.v58 HT_.out (h := ?_)
                 refine Sk.pu 58 83 spec_CallsOk.v59 HT_.out (h := ?_)
                 refine Sk.pu 59 84 spec_CallsOk.v60 HT_.out (h := ?_)
                 refine Sk.pu 60 85 spec_CallsOk.v61 HT_.out (h := ?_)
                 refine Sk.pu 61 86 spec_CallsOk.v62 HT_.out (h := ?_)
                 refine Sk.pu 62 87 spec_CallsOk.v63 HT_.out (h := ?_)
                 refine Sk.pq 63 88 spec_CallsOk.v64 HT_.out (h := ?_)
                 refine done_ (done_of HT_.out (by kernel_rfl)) ?_
                 try go_wp2
                 go_meet
                 case rel => exact ⟨_, (true), (by first | rfl | (simp; done) | (simp [*]; done)), H', ⟨by have := HJ2.out; have := HK2.out; first | omega | exact Nat.le_refl _⟩, ⟨by (with_reducible repeat (first | refine blk_drewN ?_ _ | refine blk_drew ?_ | refine blk_alloc ?_ _)); exact BK122.out⟩, ⟨by repeat (first | (with_reducible first | exact HB.out | apply below_alloc | apply pw_below_drewN | apply below_drew1 | refine below_set ?_ GE122.out) | exact HB.out)⟩⟩
               ·replace c24 := Bool.eq_false_iff.mpr c24
                subst c24
                rw [if_neg (show ¬ (false = true) by decide)] at H
                have H' := Aside0.mk H
                clear H
                try go_wp2
                have n0_ : Aside0 ((((((w10.setCell ⟨gb122, 0, none⟩ (.int .i64 ((rd_T91 l1 x5_2).f0))).setCell ⟨gb122, 1, none⟩ (.int .i64 ((rd_T91 l1 x5_2).f1))).setCell ⟨gb122, 2, none⟩ (.int .i64 ((rd_T91 l1 x5_2).f2))).setCell ⟨gb122, 3, none⟩ (.int .i64 ((rd_T91 l1 x5_2).f3))).setCell ⟨gb122, 4, none⟩ (.int .i64 ((rd_T91 l1 x5_2).f4))).heap[gb122]? = some (.cells #[.int .i64 ((rd_T91 l1 x5_2).f0), .int .i64 ((rd_T91 l1 x5_2).f1), .int .i64 ((rd_T91 l1 x5_2).f2), .int .i64 ((rd_T91 l1 x5_2).f3), .int .i64 ((rd_T91 l1 x5_2).f4)] 91 (0, 0))) := ⟨by (with_reducible repeat (first | refine blk_drewN ?_ _ | refine blk_drew ?_ | refine blk_alloc ?_ _)); refine blk_put (cs := #[.int .i64 ((rd_T91 l1 x5_2).f0), .int .i64 ((rd_T91 l1 x5_2).f1), .int .i64 ((rd_T91 l1 x5_2).f2), .int .i64 ((rd_T91 l1 x5_2).f3), .int .i64 0]) ?_ 4 _ rfl; (with_reducible repeat (first | refine blk_drewN ?_ _ | refine blk_drew ?_ | refine blk_alloc ?_ _)); refine blk_put (cs := #[.int .i64 ((rd_T91 l1 x5_2).f0), .int .i64 ((rd_T91 l1 x5_2).f1), .int .i64 ((rd_T91 l1 x5_2).f2), .int .i64 0, .int .i64 0]) ?_ 3 _ rfl; (with_reducible repeat (first | refine blk_drewN ?_ _ | refine blk_drew ?_ | refine blk_alloc ?_ _)); refine blk_put (cs := #[.int .i64 ((rd_T91 l1 x5_2).f0), .int .i64 ((rd_T91 l1 x5_2).f1), .int .i64 0, .int .i64 0, .int .i64 0]) ?_ 2 _ rfl; (with_reducible repeat (first | refine blk_drewN ?_ _ | refine blk_drew ?_ | refine blk_alloc ?_ _)); refine blk_put (cs := #[.int .i64 ((rd_T91 l1 x5_2).f0), .int .i64 0, .int .i64 0, .int .i64 0, .int .i64 0]) ?_ 1 _ rfl; (with_reducible repeat (first | refine blk_drewN ?_ _ | refine blk_drew ?_ | refine blk_alloc ?_ _)); refine blk_put (cs := #[.int .i64 0, .int .i64 0, .int .i64 0, .int .i64 0, .int .i64 0]) ?_ 0 _ rfl; (with_reducible repeat (first | refine blk_drewN ?_ _ | refine blk_drew ?_ | refine blk_alloc ?_ _)); exact BK122.out⟩
                have n1_ : Aside0 (Below w.heap.size w (((((w10.setCell ⟨gb122, 0, none⟩ (.int .i64 ((rd_T91 l1 x5_2).f0))).setCell ⟨gb122, 1, none⟩ (.int .i64 ((rd_T91 l1 x5_2).f1))).setCell ⟨gb122, 2, none⟩ (.int .i64 ((rd_T91 l1 x5_2).f2))).setCell ⟨gb122, 3, none⟩ (.int .i64 ((rd_T91 l1 x5_2).f3))).setCell ⟨gb122, 4, none⟩ (.int .i64 ((rd_T91 l1 x5_2).f4)))) := ⟨by repeat (first | (with_reducible first | exact HB.out | apply below_alloc | apply pw_below_drewN | apply below_drew1 | refine below_set ?_ GE122.out) | exact HB.out)⟩
                (try clear BK122)
                (try clear HB)
                generalize (((((w10.setCell ⟨gb122, 0, none⟩ (.int .i64 ((rd_T91 l1 x5_2).f0))).setCell ⟨gb122, 1, none⟩ (.int .i64 ((rd_T91 l1 x5_2).f1))).setCell ⟨gb122, 2, none⟩ (.int .i64 ((rd_T91 l1 x5_2).f2))).setCell ⟨gb122, 3, none⟩ (.int .i64 ((rd_T91 l1 x5_2).f3))).setCell ⟨gb122, 4, none⟩ (.int .i64 ((rd_T91 l1 x5_2).f4))) = w41 at n0_ n1_ ⊢
                have BK122 := n0_
                have HB := n1_
                clear n0_ n1_
                have n0_ := Aside0.mk (blk_drew BK122.out)
                have n1_ := Aside0.mk (below_drew1 HB.out)
                clear BK122
                clear HB
                have BK122 := n0_
                have HB := n1_
                clear n0_ n1_
                have p124 : 0 ≤ ((ji15) : Int) := of_decide_eq_true (by first | (with_reducible assumption) | assumption)
                have q124 : (ji15) < (l1.length : Int) := of_decide_eq_true (by first | (with_reducible assumption) | assumption)
                obtain ⟨ad124, e124, hx124_0, hx124_1, hx124_2, hx124_3, hx124_4⟩ := at_T91 HR1.out (ji15) p124 q124
                have hw124_4 := hx124_4
                have hw124_3 := hx124_3
                have hw124_2 := hx124_2
                have hw124_1 := hx124_1
                have hw124_0 := hx124_0
                obtain rfl : ad121 = ad124 := (by injection e124)
                replace hx124_0 := (HB.out.cell (World.block_lt_of_cell? w _ hx124_0)).trans hx124_0
                replace hx124_1 := (HB.out.cell (World.block_lt_of_cell? w _ hx124_1)).trans hx124_1
                replace hx124_2 := (HB.out.cell (World.block_lt_of_cell? w _ hx124_2)).trans hx124_2
                replace hx124_3 := (HB.out.cell (World.block_lt_of_cell? w _ hx124_3)).trans hx124_3
                replace hx124_4 := (HB.out.cell (World.block_lt_of_cell? w _ hx124_4)).trans hx124_4
                replace p124 := eq_true p124
                replace q124 := eq_true q124
                refine start_ (n := 64) (S := fun w' => w'.cell? ⟨gb122, 0, none⟩ = some (.int .i64 ((rd_T91 l1 x5_2).f0)) ∧ w'.cell? ⟨gb122, 1, none⟩ = some (.int .i64 ((rd_T91 l1 x5_2).f1)) ∧ w'.cell? ⟨gb122, 2, none⟩ = some (.int .i64 ((rd_T91 l1 x5_2).f2)) ∧ w'.cell? ⟨gb122, 3, none⟩ = some (.int .i64 ((rd_T91 l1 x5_2).f3)) ∧ w'.cell? ⟨gb122, 4, none⟩ = some (.int .i64 ((rd_T91 l1 x5_2).f4)) ∧ w'.cell? (ad121.add (((ji15)).toNat * 5)) = some (.int .i64 ((rd_T91 l1 (ji15)).f0)) ∧ w'.cell? ⟨(ad121.add (((ji15)).toNat * 5)).block, (ad121.add (((ji15)).toNat * 5)).off + 1, none⟩ = some (.int .i64 ((rd_T91 l1 (ji15)).f1)) ∧ w'.cell? ⟨(ad121.add (((ji15)).toNat * 5)).block, (ad121.add (((ji15)).toNat * 5)).off + 2, none⟩ = some (.int .i64 ((rd_T91 l1 (ji15)).f2)) ∧ w'.cell? ⟨(ad121.add (((ji15)).toNat * 5)).block, (ad121.add (((ji15)).toNat * 5)).off + 3, none⟩ = some (.int .i64 ((rd_T91 l1 (ji15)).f3)) ∧ w'.cell? ⟨(ad121.add (((ji15)).toNat * 5)).block, (ad121.add (((ji15)).toNat * 5)).off + 4, none⟩ = some (.int .i64 ((rd_T91 l1 (ji15)).f4))) (ds := []) spec_CallsOk.v0 (by kernel_rfl) rfl rfl ⟨(blk_cell BK122.out 0).trans rfl, (blk_cell BK122.out 1).trans rfl, (blk_cell BK122.out 2).trans rfl, (blk_cell BK122.out 3).trans rfl, (blk_cell BK122.out 4).trans rfl, ((HB.out.cell (World.block_lt_of_cell? w _ hw124_0)).trans hw124_0), ((HB.out.cell (World.block_lt_of_cell? w _ hw124_1)).trans hw124_1), ((HB.out.cell (World.block_lt_of_cell? w _ hw124_2)).trans hw124_2), ((HB.out.cell (World.block_lt_of_cell? w _ hw124_3)).trans hw124_3), ((HB.out.cell (World.block_lt_of_cell? w _ hw124_4)).trans hw124_4)⟩ (fun hHeld => ?_); refine with_tabW spec_CallsOk.tab7 spec_CallsOk.bits7 (fun HT_ HW_ => ?_)
                generalize w41.drew = w42 at BK122 HB hx124_0 hx124_1 hx124_2 hx124_3 hx124_4 hHeld ⊢
                refine Sk.pq 0 25 spec_CallsOk.v1 HT_.out (h := ?_)
                refine Sk.tk10 1 26 spec_CallsOk.v2 HT_.out HW_.out hHeld (h := ?_)
                refine one_ (i := 2) (N := some 27) spec_CallsOk.v3 rfl rfl (one_of HT_.out (by kernel_rfl)) (by decide) (fun K hK => ?_)
                refine goes_ Try.func51 (by kernel_rfl) rfl #[.int .i64 ((rd_T91 l1 x5_2).f0), .int .i64 1, .int .i64 1000000] (by rfl) rfl rfl (by (try simp only [List.map_toArray, List.map_cons, List.map_nil]); first | done | rfl | (simp only [List.length_drop, List.length_take]; rfl)) ?_
                with_reducible refine (spec_l1In.calls ((rd_T91 l1 x5_2).f0) 1 1000000 true _ A12.out).mono ?_
                rintro e w' ⟨rfl, ⟨nd, rfl⟩⟩
                refine ⟨_, rfl, ?_⟩
                refine hK.out _ _ ⟨(blk_cell BK122.out 0).trans rfl, (blk_cell BK122.out 1).trans rfl, (blk_cell BK122.out 2).trans rfl, (blk_cell BK122.out 3).trans rfl, (blk_cell BK122.out 4).trans rfl, ((HB.out.cell (World.block_lt_of_cell? w _ hw124_0)).trans hw124_0), ((HB.out.cell (World.block_lt_of_cell? w _ hw124_1)).trans hw124_1), ((HB.out.cell (World.block_lt_of_cell? w _ hw124_2)).trans hw124_2), ((HB.out.cell (World.block_lt_of_cell? w _ hw124_3)).trans hw124_3), ((HB.out.cell (World.block_lt_of_cell? w _ hw124_4)).trans hw124_4)⟩ (fun hHeld => ?_)
                clear hK K
                refine Sk.nm 27 (h := ?_)
                refine Sk.pq 3 28 spec_CallsOk.v4 HT_.out (h := ?_)
                refine Sk.pq 4 29 spec_CallsOk.v5 HT_.out (h := ?_)
                refine Sk.pq 5 30 spec_CallsOk.v6 HT_.out (h := ?_)
                refine Sk.pq 6 31 spec_CallsOk.v7 HT_.out (h := ?_)
                refine Sk.pq 7 32 spec_CallsOk.v8 HT_.out (h := ?_)
                refine Sk.pq 8 33 spec_CallsOk.v9 HT_.out (h := ?_)
                refine Sk.pq 9 34 spec_CallsOk.v10 HT_.out (h := ?_)
                refine Sk.pq 10 35 spec_CallsOk.v11 HT_.out (h := ?_)
                refine Sk.pq 11 36 spec_CallsOk.v12 HT_.out (h := ?_)
                refine Sk.pq 12 37 spec_CallsOk.v13 HT_.out (h := ?_)
                refine Sk.pq 14 39 spec_CallsOk.v14 HT_.out (h := ?_)
                refine Sk.tk10 13 38 spec_CallsOk.v15 HT_.out HW_.out hHeld (h := ?_)
                refine Sk.tk10 15 40 spec_CallsOk.v16 HT_.out HW_.out hHeld (h := ?_)
                refine Sk.pq 16 41 spec_CallsOk.v17 HT_.out (h := ?_)
                refine Sk.pq 17 42 spec_CallsOk.v18 HT_.out (h := ?_)
                refine Sk.pq 18 43 spec_CallsOk.v19 HT_.out (h := ?_)
                refine Sk.pq 19 44 spec_CallsOk.v20 HT_.out (h := ?_)
                refine Sk.pq 20 45 spec_CallsOk.v21 HT_.out (h := ?_)
                refine Sk.tk10 21 46 spec_CallsOk.v22 HT_.out HW_.out hHeld (h := ?_)
                refine one_ (i := 22) (N := some 47) spec_CallsOk.v23 rfl rfl (one_of HT_.out (by kernel_rfl)) (by decide) (fun K hK => ?_)
                refine goes_ Try.func51 (by kernel_rfl) rfl #[.int .i64 ((rd_T91 l1 x5_2).f1), .int .i64 1, .int .i64 1000] (by rfl) rfl rfl (by (try simp only [List.map_toArray, List.map_cons, List.map_nil]); first | done | rfl | (simp only [List.length_drop, List.length_take]; rfl)) ?_
                with_reducible refine (spec_l1In.calls ((rd_T91 l1 x5_2).f1) 1 1000 true _ A21.out).mono ?_
                rintro e w' ⟨rfl, ⟨nd, rfl⟩⟩
                refine ⟨_, rfl, ?_⟩
                refine hK.out _ _ ⟨(blk_cell BK122.out 0).trans rfl, (blk_cell BK122.out 1).trans rfl, (blk_cell BK122.out 2).trans rfl, (blk_cell BK122.out 3).trans rfl, (blk_cell BK122.out 4).trans rfl, ((HB.out.cell (World.block_lt_of_cell? w _ hw124_0)).trans hw124_0), ((HB.out.cell (World.block_lt_of_cell? w _ hw124_1)).trans hw124_1), ((HB.out.cell (World.block_lt_of_cell? w _ hw124_2)).trans hw124_2), ((HB.out.cell (World.block_lt_of_cell? w _ hw124_3)).trans hw124_3), ((HB.out.cell (World.block_lt_of_cell? w _ hw124_4)).trans hw124_4)⟩ (fun hHeld => ?_)
                clear hK K
                refine Sk.nm 47 (h := ?_)
                refine Sk.pq 23 48 spec_CallsOk.v24 HT_.out (h := ?_)
                refine Sk.pq 24 49 spec_CallsOk.v25 HT_.out (h := ?_)
                refine Sk.pq 25 50 spec_CallsOk.v26 HT_.out (h := ?_)
                refine Sk.pq 26 51 spec_CallsOk.v27 HT_.out (h := ?_)
                refine Sk.tk10 27 52 spec_CallsOk.v28 HT_.out HW_.out hHeld (h := ?_)
                refine one_ (i := 28) (N := some 53) spec_CallsOk.v29 rfl rfl (one_of HT_.out (by kernel_rfl)) (by decide) (fun K hK => ?_)
                refine goes_ Try.func102 (by kernel_rfl) rfl #[.int .i64 ((rd_T91 l1 x5_2).f2)] (by rfl) rfl rfl (by (try simp only [List.map_toArray, List.map_cons, List.map_nil]); first | done | rfl | (simp only [List.length_drop, List.length_take]; rfl)) ?_
                with_reducible refine (spec_l1Minute.calls ((rd_T91 l1 x5_2).f2) false _ A23.out).mono ?_
                rintro e w' ⟨rfl, ⟨nd, rfl⟩⟩
                refine ⟨_, rfl, ?_⟩
                refine hK.out _ _ ⟨(blk_cell BK122.out 0).trans rfl, (blk_cell BK122.out 1).trans rfl, (blk_cell BK122.out 2).trans rfl, (blk_cell BK122.out 3).trans rfl, (blk_cell BK122.out 4).trans rfl, ((HB.out.cell (World.block_lt_of_cell? w _ hw124_0)).trans hw124_0), ((HB.out.cell (World.block_lt_of_cell? w _ hw124_1)).trans hw124_1), ((HB.out.cell (World.block_lt_of_cell? w _ hw124_2)).trans hw124_2), ((HB.out.cell (World.block_lt_of_cell? w _ hw124_3)).trans hw124_3), ((HB.out.cell (World.block_lt_of_cell? w _ hw124_4)).trans hw124_4)⟩ (fun hHeld => ?_)
                clear hK K
                refine Sk.nm 53 (h := ?_)
                refine Sk.pq 29 54 spec_CallsOk.v30 HT_.out (h := ?_)
                refine Sk.pq 30 55 spec_CallsOk.v31 HT_.out (h := ?_)
                refine Sk.pq 31 56 spec_CallsOk.v32 HT_.out (h := ?_)
                refine Sk.pu 32 57 spec_CallsOk.v33 HT_.out (h := ?_)
                refine Sk.pu 33 58 spec_CallsOk.v34 HT_.out (h := ?_)
                refine Sk.pu 34 59 spec_CallsOk.v35 HT_.out (h := ?_)
                refine Sk.pu 35 60 spec_CallsOk.v36 HT_.out (h := ?_)
                refine Sk.pq 36 61 spec_CallsOk.v37 HT_.out (h := ?_)
                refine Sk.pq 37 62 spec_CallsOk.v38 HT_.out (h := ?_)
                refine Sk.pu 38 63 spec_CallsOk.v39 HT_.out (h := ?_)
                refine Sk.pu 39 64 spec_CallsOk.v40 HT_.out (h := ?_)
                refine Sk.pu 40 65 spec_CallsOk.v41 HT_.out (h := ?_)
                refine Sk.pu 41 66 spec_CallsOk.v42 HT_.out (h := ?_)
                refine Sk.pu 42 67 spec_CallsOk.v43 HT_.out (h := ?_)
                refine Sk.pq 43 68 spec_CallsOk.v44 HT_.out (h := ?_)
                refine Sk.pq 44 69 spec_CallsOk.v45 HT_.out (h := ?_)
                refine Sk.pu 45 70 spec_CallsOk.v46 HT_.out (h := ?_)
                refine Sk.pu 46 71 spec_CallsOk.v47 HT_.out (h := ?_)
                refine Sk.pu 47 72 spec_CallsOk.v48 HT_.out (h := ?_)
                refine Sk.pu 48 73 spec_CallsOk.v49 HT_.out (h := ?_)
                refine Sk.pq 49 74 spec_CallsOk.v50 HT_.out (h := ?_)
                refine Sk.pq 50 75 spec_CallsOk.v51 HT_.out (h := ?_)
                refine Sk.pu 51 76 spec_CallsOk.v52 HT_.out (h := ?_)
                refine Sk.pu 52 77 spec_CallsOk.v53 HT_.out (h := ?_)
                refine Sk.pu 53 78 spec_CallsOk.v54 HT_.out (h := ?_)
                refine Sk.pu 54 79 spec_CallsOk.v55 HT_.out (h := ?_)
                refine Sk.pu 55 80 spec_CallsOk.v56 HT_.out (h := ?_)
                refine Sk.pu 56 81 spec_CallsOk.v57 HT_.out (h := ?_)
                refine Sk.pu 57 82 spec_CallsOk.v58 HT_.out (h := ?_)
                refine Sk.pu 58 83 spec_CallsOk.v59 HT_.out (h := ?_)
                refine Sk.pu 59 84 spec_CallsOk.v60 HT_.out (h := ?_)
                refine Sk.pu 60 85 spec_CallsOk.v61 HT_.out (h := ?_)
                refine Sk.pu 61 86 spec_CallsOk.v62 HT_.out (h := ?_)
                refine Sk.pu 62 87 spec_CallsOk.v63 HT_.out (h := ?_)
                refine Sk.pq 63 88 spec_CallsOk.v64 HT_.out (h := ?_)
                refine done_ (done_of HT_.out (by kernel_rfl)) ?_
                try go_wp2
                go_meet
                case rel => exact ⟨_, (true), (by first | rfl | (simp; done) | (simp [*]; done)), H', ⟨by have := HJ2.out; have := HK2.out; first | omega | exact Nat.le_refl _⟩, ⟨by (with_reducible repeat (first | refine blk_drewN ?_ _ | refine blk_drew ?_ | refine blk_alloc ?_ _)); exact BK122.out⟩, ⟨by repeat (first | (with_reducible first | exact HB.out | apply below_alloc | apply pw_below_drewN | apply below_drew1 | refine below_set ?_ GE122.out) | exact HB.out)⟩⟩
              ·replace c22 := Bool.eq_false_iff.mpr c22
               subst c22
               rw [if_neg (show ¬ (false = true) by decide)] at H
               have H' := Aside0.mk H
               clear H
               try go_wp2
               have n0_ : Aside0 ((((((w10.setCell ⟨gb122, 0, none⟩ (.int .i64 ((rd_T91 l1 x5_2).f0))).setCell ⟨gb122, 1, none⟩ (.int .i64 ((rd_T91 l1 x5_2).f1))).setCell ⟨gb122, 2, none⟩ (.int .i64 ((rd_T91 l1 x5_2).f2))).setCell ⟨gb122, 3, none⟩ (.int .i64 ((rd_T91 l1 x5_2).f3))).setCell ⟨gb122, 4, none⟩ (.int .i64 ((rd_T91 l1 x5_2).f4))).heap[gb122]? = some (.cells #[.int .i64 ((rd_T91 l1 x5_2).f0), .int .i64 ((rd_T91 l1 x5_2).f1), .int .i64 ((rd_T91 l1 x5_2).f2), .int .i64 ((rd_T91 l1 x5_2).f3), .int .i64 ((rd_T91 l1 x5_2).f4)] 91 (0, 0))) := ⟨by (with_reducible repeat (first | refine blk_drewN ?_ _ | refine blk_drew ?_ | refine blk_alloc ?_ _)); refine blk_put (cs := #[.int .i64 ((rd_T91 l1 x5_2).f0), .int .i64 ((rd_T91 l1 x5_2).f1), .int .i64 ((rd_T91 l1 x5_2).f2), .int .i64 ((rd_T91 l1 x5_2).f3), .int .i64 0]) ?_ 4 _ rfl; (with_reducible repeat (first | refine blk_drewN ?_ _ | refine blk_drew ?_ | refine blk_alloc ?_ _)); refine blk_put (cs := #[.int .i64 ((rd_T91 l1 x5_2).f0), .int .i64 ((rd_T91 l1 x5_2).f1), .int .i64 ((rd_T91 l1 x5_2).f2), .int .i64 0, .int .i64 0]) ?_ 3 _ rfl; (with_reducible repeat (first | refine blk_drewN ?_ _ | refine blk_drew ?_ | refine blk_alloc ?_ _)); refine blk_put (cs := #[.int .i64 ((rd_T91 l1 x5_2).f0), .int .i64 ((rd_T91 l1 x5_2).f1), .int .i64 0, .int .i64 0, .int .i64 0]) ?_ 2 _ rfl; (with_reducible repeat (first | refine blk_drewN ?_ _ | refine blk_drew ?_ | refine blk_alloc ?_ _)); refine blk_put (cs := #[.int .i64 ((rd_T91 l1 x5_2).f0), .int .i64 0, .int .i64 0, .int .i64 0, .int .i64 0]) ?_ 1 _ rfl; (with_reducible repeat (first | refine blk_drewN ?_ _ | refine blk_drew ?_ | refine blk_alloc ?_ _)); refine blk_put (cs := #[.int .i64 0, .int .i64 0, .int .i64 0, .int .i64 0, .int .i64 0]) ?_ 0 _ rfl; (with_reducible repeat (first | refine blk_drewN ?_ _ | refine blk_drew ?_ | refine blk_alloc ?_ _)); exact BK122.out⟩
               have n1_ : Aside0 (Below w.heap.size w (((((w10.setCell ⟨gb122, 0, none⟩ (.int .i64 ((rd_T91 l1 x5_2).f0))).setCell ⟨gb122, 1, none⟩ (.int .i64 ((rd_T91 l1 x5_2).f1))).setCell ⟨gb122, 2, none⟩ (.int .i64 ((rd_T91 l1 x5_2).f2))).setCell ⟨gb122, 3, none⟩ (.int .i64 ((rd_T91 l1 x5_2).f3))).setCell ⟨gb122, 4, none⟩ (.int .i64 ((rd_T91 l1 x5_2).f4)))) := ⟨by repeat (first | (with_reducible first | exact HB.out | apply below_alloc | apply pw_below_drewN | apply below_drew1 | refine below_set ?_ GE122.out) | exact HB.out)⟩
               (try clear BK122)
               (try clear HB)
               generalize (((((w10.setCell ⟨gb122, 0, none⟩ (.int .i64 ((rd_T91 l1 x5_2).f0))).setCell ⟨gb122, 1, none⟩ (.int .i64 ((rd_T91 l1 x5_2).f1))).setCell ⟨gb122, 2, none⟩ (.int .i64 ((rd_T91 l1 x5_2).f2))).setCell ⟨gb122, 3, none⟩ (.int .i64 ((rd_T91 l1 x5_2).f3))).setCell ⟨gb122, 4, none⟩ (.int .i64 ((rd_T91 l1 x5_2).f4))) = w43 at n0_ n1_ ⊢
               have BK122 := n0_
               have HB := n1_
               clear n0_ n1_
               have n0_ := Aside0.mk (blk_drew BK122.out)
               have n1_ := Aside0.mk (below_drew1 HB.out)
               clear BK122
               clear HB
               have BK122 := n0_
               have HB := n1_
               clear n0_ n1_
               have p124 : 0 ≤ ((ji15) : Int) := of_decide_eq_true (by first | (with_reducible assumption) | assumption)
               have q124 : (ji15) < (l1.length : Int) := of_decide_eq_true (by first | (with_reducible assumption) | assumption)
               obtain ⟨ad124, e124, hx124_0, hx124_1, hx124_2, hx124_3, hx124_4⟩ := at_T91 HR1.out (ji15) p124 q124
               have hw124_4 := hx124_4
               have hw124_3 := hx124_3
               have hw124_2 := hx124_2
               have hw124_1 := hx124_1
               have hw124_0 := hx124_0
               obtain rfl : ad121 = ad124 := (by injection e124)
               replace hx124_0 := (HB.out.cell (World.block_lt_of_cell? w _ hx124_0)).trans hx124_0
               replace hx124_1 := (HB.out.cell (World.block_lt_of_cell? w _ hx124_1)).trans hx124_1
               replace hx124_2 := (HB.out.cell (World.block_lt_of_cell? w _ hx124_2)).trans hx124_2
               replace hx124_3 := (HB.out.cell (World.block_lt_of_cell? w _ hx124_3)).trans hx124_3
               replace hx124_4 := (HB.out.cell (World.block_lt_of_cell? w _ hx124_4)).trans hx124_4
               replace p124 := eq_true p124
               replace q124 := eq_true q124
               refine start_ (n := 64) (S := fun w' => w'.cell? ⟨gb122, 0, none⟩ = some (.int .i64 ((rd_T91 l1 x5_2).f0)) ∧ w'.cell? ⟨gb122, 1, none⟩ = some (.int .i64 ((rd_T91 l1 x5_2).f1)) ∧ w'.cell? ⟨gb122, 2, none⟩ = some (.int .i64 ((rd_T91 l1 x5_2).f2)) ∧ w'.cell? ⟨gb122, 3, none⟩ = some (.int .i64 ((rd_T91 l1 x5_2).f3)) ∧ w'.cell? ⟨gb122, 4, none⟩ = some (.int .i64 ((rd_T91 l1 x5_2).f4)) ∧ w'.cell? (ad121.add (((ji15)).toNat * 5)) = some (.int .i64 ((rd_T91 l1 (ji15)).f0)) ∧ w'.cell? ⟨(ad121.add (((ji15)).toNat * 5)).block, (ad121.add (((ji15)).toNat * 5)).off + 1, none⟩ = some (.int .i64 ((rd_T91 l1 (ji15)).f1)) ∧ w'.cell? ⟨(ad121.add (((ji15)).toNat * 5)).block, (ad121.add (((ji15)).toNat * 5)).off + 2, none⟩ = some (.int .i64 ((rd_T91 l1 (ji15)).f2)) ∧ w'.cell? ⟨(ad121.add (((ji15)).toNat * 5)).block, (ad121.add (((ji15)).toNat * 5)).off + 3, none⟩ = some (.int .i64 ((rd_T91 l1 (ji15)).f3)) ∧ w'.cell? ⟨(ad121.add (((ji15)).toNat * 5)).block, (ad121.add (((ji15)).toNat * 5)).off + 4, none⟩ = some (.int .i64 ((rd_T91 l1 (ji15)).f4))) (ds := []) spec_CallsOk.v0 (by kernel_rfl) rfl rfl ⟨(blk_cell BK122.out 0).trans rfl, (blk_cell BK122.out 1).trans rfl, (blk_cell BK122.out 2).trans rfl, (blk_cell BK122.out 3).trans rfl, (blk_cell BK122.out 4).trans rfl, ((HB.out.cell (World.block_lt_of_cell? w _ hw124_0)).trans hw124_0), ((HB.out.cell (World.block_lt_of_cell? w _ hw124_1)).trans hw124_1), ((HB.out.cell (World.block_lt_of_cell? w _ hw124_2)).trans hw124_2), ((HB.out.cell (World.block_lt_of_cell? w _ hw124_3)).trans hw124_3), ((HB.out.cell (World.block_lt_of_cell? w _ hw124_4)).trans hw124_4)⟩ (fun hHeld => ?_); refine with_tabW spec_CallsOk.tab7 spec_CallsOk.bits7 (fun HT_ HW_ => ?_)
               generalize w43.drew = w44 at BK122 HB hx124_0 hx124_1 hx124_2 hx124_3 hx124_4 hHeld ⊢
               refine Sk.pq 0 25 spec_CallsOk.v1 HT_.out (h := ?_)
               refine Sk.tk10 1 26 spec_CallsOk.v2 HT_.out HW_.out hHeld (h := ?_)
               refine one_ (i := 2) (N := some 27) spec_CallsOk.v3 rfl rfl (one_of HT_.out (by kernel_rfl)) (by decide) (fun K hK => ?_)
               refine goes_ Try.func51 (by kernel_rfl) rfl #[.int .i64 ((rd_T91 l1 x5_2).f0), .int .i64 1, .int .i64 1000000] (by rfl) rfl rfl (by (try simp only [List.map_toArray, List.map_cons, List.map_nil]); first | done | rfl | (simp only [List.length_drop, List.length_take]; rfl)) ?_
               with_reducible refine (spec_l1In.calls ((rd_T91 l1 x5_2).f0) 1 1000000 true _ A12.out).mono ?_
               rintro e w' ⟨rfl, ⟨nd, rfl⟩⟩
               refine ⟨_, rfl, ?_⟩
               refine hK.out _ _ ⟨(blk_cell BK122.out 0).trans rfl, (blk_cell BK122.out 1).trans rfl, (blk_cell BK122.out 2).trans rfl, (blk_cell BK122.out 3).trans rfl, (blk_cell BK122.out 4).trans rfl, ((HB.out.cell (World.block_lt_of_cell? w _ hw124_0)).trans hw124_0), ((HB.out.cell (World.block_lt_of_cell? w _ hw124_1)).trans hw124_1), ((HB.out.cell (World.block_lt_of_cell? w _ hw124_2)).trans hw124_2), ((HB.out.cell (World.block_lt_of_cell? w _ hw124_3)).trans hw124_3), ((HB.out.cell (World.block_lt_of_cell? w _ hw124_4)).trans hw124_4)⟩ (fun hHeld => ?_)
               clear hK K
               refine Sk.nm 27 (h := ?_)
               refine Sk.pq 3 28 spec_CallsOk.v4 HT_.out (h := ?_)
               refine Sk.pq 4 29 spec_CallsOk.v5 HT_.out (h := ?_)
               refine Sk.pq 5 30 spec_CallsOk.v6 HT_.out (h := ?_)
               refine Sk.pq 6 31 spec_CallsOk.v7 HT_.out (h := ?_)
               refine Sk.pq 7 32 spec_CallsOk.v8 HT_.out (h := ?_)
               refine Sk.pq 8 33 spec_CallsOk.v9 HT_.out (h := ?_)
               refine Sk.pq 9 34 spec_CallsOk.v10 HT_.out (h := ?_)
               refine Sk.pq 10 35 spec_CallsOk.v11 HT_.out (h := ?_)
               refine Sk.pq 11 36 spec_CallsOk.v12 HT_.out (h := ?_)
               refine Sk.pq 12 37 spec_CallsOk.v13 HT_.out (h := ?_)
               refine Sk.pq 14 39 spec_CallsOk.v14 HT_.out (h := ?_)
               refine Sk.tk10 13 38 spec_CallsOk.v15 HT_.out HW_.out hHeld (h := ?_)
               refine Sk.tk10 15 40 spec_CallsOk.v16 HT_.out HW_.out hHeld (h := ?_)
               refine Sk.pq 16 41 spec_CallsOk.v17 HT_.out (h := ?_)
               refine Sk.pq 17 42 spec_CallsOk.v18 HT_.out (h := ?_)
               refine Sk.pq 18 43 spec_CallsOk.v19 HT_.out (h := ?_)
               refine Sk.pq 19 44 spec_CallsOk.v20 HT_.out (h := ?_)
               refine Sk.pq 20 45 spec_CallsOk.v21 HT_.out (h := ?_)
               refine Sk.tk10 21 46 spec_CallsOk.v22 HT_.out HW_.out hHeld (h := ?_)
               refine one_ (i := 22) (N := some 47) spec_CallsOk.v23 rfl rfl (one_of HT_.out (by kernel_rfl)) (by decide) (fun K hK => ?_)
               refine goes_ Try.func51 (by kernel_rfl) rfl #[.int .i64 ((rd_T91 l1 x5_2).f1), .int .i64 1, .int .i64 1000] (by rfl) rfl rfl (by (try simp only [List.map_toArray, List.map_cons, List.map_nil]); first | done | rfl | (simp only [List.length_drop, List.length_take]; rfl)) ?_
               with_reducible refine (spec_l1In.calls ((rd_T91 l1 x5_2).f1) 1 1000 false _ A21.out).mono ?_
               rintro e w' ⟨rfl, ⟨nd, rfl⟩⟩
               refine ⟨_, rfl, ?_⟩
               refine hK.out _ _ ⟨(blk_cell BK122.out 0).trans rfl, (blk_cell BK122.out 1).trans rfl, (blk_cell BK122.out 2).trans rfl, (blk_cell BK122.out 3).trans rfl, (blk_cell BK122.out 4).trans rfl, ((HB.out.cell (World.block_lt_of_cell? w _ hw124_0)).trans hw124_0), ((HB.out.cell (World.block_lt_of_cell? w _ hw124_1)).trans hw124_1), ((HB.out.cell (World.block_lt_of_cell? w _ hw124_2)).trans hw124_2), ((HB.out.cell (World.block_lt_of_cell? w _ hw124_3)).trans hw124_3), ((HB.out.cell (World.block_lt_of_cell? w _ hw124_4)).trans hw124_4)⟩ (fun hHeld => ?_)
               clear hK K
               refine Sk.nm 47 (h := ?_)
               refine Sk.pq 23 48 spec_CallsOk.v24 HT_.out (h := ?_)
               refine Sk.pq 24 49 spec_CallsOk.v25 HT_.out (h := ?_)
               refine Sk.pq 25 50 spec_CallsOk.v26 HT_.out (h := ?_)
               refine Sk.pu 26 51 spec_CallsOk.v27 HT_.out (h := ?_)
               refine Sk.pu 27 52 spec_CallsOk.v28 HT_.out (h := ?_)
               refine Sk.pu 28 53 spec_CallsOk.v29 HT_.out (h := ?_)
               refine Sk.pu 29 54 spec_CallsOk.v30 HT_.out (h := ?_)
               refine Sk.pq 30 55 spec_CallsOk.v31 HT_.out (h := ?_)
               refine Sk.pq 31 56 spec_CallsOk.v32 HT_.out (h := ?_)
               refine Sk.pu 32 57 spec_CallsOk.v33 HT_.out (h := ?_)
               refine Sk.pu 33 58 spec_CallsOk.v34 HT_.out (h := ?_)
               refine Sk.pu 34 59 spec_CallsOk.v35 HT_.out (h := ?_)
               refine Sk.pu 35 60 spec_CallsOk.v36 HT_.out (h := ?_)
               refine Sk.pq 36 61 spec_CallsOk.v37 HT_.out (h := ?_)
               refine Sk.pq 37 62 spec_CallsOk.v38 HT_.out (h := ?_)
               refine Sk.pu 38 63 spec_CallsOk.v39 HT_.out (h := ?_)
               refine Sk.pu 39 64 spec_CallsOk.v40 HT_.out (h := ?_)
               refine Sk.pu 40 65 spec_CallsOk.v41 HT_.out (h := ?_)
               refine Sk.pu 41 66 spec_CallsOk.v42 HT_.out (h := ?_)
               refine Sk.pu 42 67 spec_CallsOk.v43 HT_.out (h := ?_)
               refine Sk.pq 43 68 spec_CallsOk.v44 HT_.out (h := ?_)
               refine Sk.pq 44 69 spec_CallsOk.v45 HT_.out (h := ?_)
               refine Sk.pu 45 70 spec_CallsOk.v46 HT_.out (h := ?_)
               refine Sk.pu 46 71 spec_CallsOk.v47 HT_.out (h := ?_)
               refine Sk.pu 47 72 spec_CallsOk.v48 HT_.out (h := ?_)
               refine Sk.pu 48 73 spec_CallsOk.v49 HT_.out (h := ?_)
               refine Sk.pq 49 74 spec_CallsOk.v50 HT_.out (h := ?_)
               refine Sk.pq 50 75 spec_CallsOk.v51 HT_.out (h := ?_)
               refine Sk.pu 51 76 spec_CallsOk.v52 HT_.out (h := ?_)
               refine Sk.pu 52 77 spec_CallsOk.v53 HT_.out (h := ?_)
               refine Sk.pu 53 78 spec_CallsOk.v54 HT_.out (h := ?_)
               refine Sk.pu 54 79 spec_CallsOk.v55 HT_.out (h := ?_)
               refine Sk.pu 55 80 spec_CallsOk.v56 HT_.out (h := ?_)
               refine Sk.pu 56 81 spec_CallsOk.v57 HT_.out (h := ?_)
               refine Sk.pu 57 82 spec_CallsOk.v58 HT_.out (h := ?_)
               refine Sk.pu 58 83 spec_CallsOk.v59 HT_.out (h := ?_)
               refine Sk.pu 59 84 spec_CallsOk.v60 HT_.out (h := ?_)
               refine Sk.pu 60 85 spec_CallsOk.v61 HT_.out (h := ?_)
               refine Sk.pu 61 86 spec_CallsOk.v62 HT_.out (h := ?_)
               refine Sk.pu 62 87 spec_CallsOk.v63 HT_.out (h := ?_)
               refine Sk.pq 63 88 spec_CallsOk.v64 HT_.out (h := ?_)
               refine done_ (done_of HT_.out (by kernel_rfl)) ?_
               try go_wp2
               go_meet
               case rel => exact ⟨_, (true), (by first | rfl | (simp; done) | (simp [*]; done)), H', ⟨by have := HJ2.out; have := HK2.out; first | omega | exact Nat.le_refl _⟩, ⟨by (with_reducible repeat (first | refine blk_drewN ?_ _ | refine blk_drew ?_ | refine blk_alloc ?_ _)); exact BK122.out⟩, ⟨by repeat (first | (with_reducible first | exact HB.out | apply below_alloc | apply pw_below_drewN | apply below_drew1 | refine below_set ?_ GE122.out) | exact HB.out)⟩⟩
            ·rw [if_neg c17] at H
             exact absurd H (by simp)
           ·rw [if_neg c16] at H
            exact absurd H (by simp)
          ·rw [if_neg c14] at H
           have c14b0 : decide (0 < x5_2) = false := decide_eq_false c14
           clear c14
           (first | rw [c14b0] | (simp only [i64_w, i32_w]; rw [c14b0]) | skip)
           replace H := Option.bind_eq_some_iff.mp H
           obtain ⟨t129, A450, H⟩ := H
           (try dsimp only at H)
           have A45 := Aside0.mk A450
           clear A450
           by_cases c46 : t129 = true
           ·subst c46
            rw [if_pos rfl] at H
            replace H := Option.bind_eq_some_iff.mp H
            obtain ⟨t130, A470, H⟩ := H
            (try dsimp only at H)
            have A47 := Aside0.mk A470
            clear A470
            by_cases c48 : t130 = true
            ·subst c48
             rw [if_pos rfl] at H
             replace H := Option.bind_eq_some_iff.mp H
             obtain ⟨t131, A490, H⟩ := H
             (try dsimp only at H)
             have A49 := Aside0.mk A490
             clear A490
             by_cases c50 : t131 = true
             ·subst c50
              rw [if_pos rfl] at H
              by_cases c51 : ((rd_T91 l1 x5_2).f2) ≥ ((rd_T91 l1 x5_2).f3)
              ·rw [if_pos c51] at H
               have c51b0 : decide (((rd_T91 l1 x5_2).f3) ≤ ((rd_T91 l1 x5_2).f2)) = true := decide_eq_true c51
               clear c51
               have H' := Aside0.mk H
               clear H
               try go_wp2
               have n0_ : Aside0 ((((((w10.setCell ⟨gb122, 0, none⟩ (.int .i64 ((rd_T91 l1 x5_2).f0))).setCell ⟨gb122, 1, none⟩ (.int .i64 ((rd_T91 l1 x5_2).f1))).setCell ⟨gb122, 2, none⟩ (.int .i64 ((rd_T91 l1 x5_2).f2))).setCell ⟨gb122, 3, none⟩ (.int .i64 ((rd_T91 l1 x5_2).f3))).setCell ⟨gb122, 4, none⟩ (.int .i64 ((rd_T91 l1 x5_2).f4))).heap[gb122]? = some (.cells #[.int .i64 ((rd_T91 l1 x5_2).f0), .int .i64 ((rd_T91 l1 x5_2).f1), .int .i64 ((rd_T91 l1 x5_2).f2), .int .i64 ((rd_T91 l1 x5_2).f3), .int .i64 ((rd_T91 l1 x5_2).f4)] 91 (0, 0))) := ⟨by (with_reducible repeat (first | refine blk_drewN ?_ _ | refine blk_drew ?_ | refine blk_alloc ?_ _)); refine blk_put (cs := #[.int .i64 ((rd_T91 l1 x5_2).f0), .int .i64 ((rd_T91 l1 x5_2).f1), .int .i64 ((rd_T91 l1 x5_2).f2), .int .i64 ((rd_T91 l1 x5_2).f3), .int .i64 0]) ?_ 4 _ rfl; (with_reducible repeat (first | refine blk_drewN ?_ _ | refine blk_drew ?_ | refine blk_alloc ?_ _)); refine blk_put (cs := #[.int .i64 ((rd_T91 l1 x5_2).f0), .int .i64 ((rd_T91 l1 x5_2).f1), .int .i64 ((rd_T91 l1 x5_2).f2), .int .i64 0, .int .i64 0]) ?_ 3 _ rfl; (with_reducible repeat (first | refine blk_drewN ?_ _ | refine blk_drew ?_ | refine blk_alloc ?_ _)); refine blk_put (cs := #[.int .i64 ((rd_T91 l1 x5_2).f0), .int .i64 ((rd_T91 l1 x5_2).f1), .int .i64 0, .int .i64 0, .int .i64 0]) ?_ 2 _ rfl; (with_reducible repeat (first | refine blk_drewN ?_ _ | refine blk_drew ?_ | refine blk_alloc ?_ _)); refine blk_put (cs := #[.int .i64 ((rd_T91 l1 x5_2).f0), .int .i64 0, .int .i64 0, .int .i64 0, .int .i64 0]) ?_ 1 _ rfl; (with_reducible repeat (first | refine blk_drewN ?_ _ | refine blk_drew ?_ | refine blk_alloc ?_ _)); refine blk_put (cs := #[.int .i64 0, .int .i64 0, .int .i64 0, .int .i64 0, .int .i64 0]) ?_ 0 _ rfl; (with_reducible repeat (first | refine blk_drewN ?_ _ | refine blk_drew ?_ | refine blk_alloc ?_ _)); exact BK122.out⟩
               have n1_ : Aside0 (Below w.heap.size w (((((w10.setCell ⟨gb122, 0, none⟩ (.int .i64 ((rd_T91 l1 x5_2).f0))).setCell ⟨gb122, 1, none⟩ (.int .i64 ((rd_T91 l1 x5_2).f1))).setCell ⟨gb122, 2, none⟩ (.int .i64 ((rd_T91 l1 x5_2).f2))).setCell ⟨gb122, 3, none⟩ (.int .i64 ((rd_T91 l1 x5_2).f3))).setCell ⟨gb122, 4, none⟩ (.int .i64 ((rd_T91 l1 x5_2).f4)))) := ⟨by repeat (first | (with_reducible first | exact HB.out | apply below_alloc | apply pw_below_drewN | apply below_drew1 | refine below_set ?_ GE122.out) | exact HB.out)⟩
               (try clear BK122)
               (try clear HB)
               generalize (((((w10.setCell ⟨gb122, 0, none⟩ (.int .i64 ((rd_T91 l1 x5_2).f0))).setCell ⟨gb122, 1, none⟩ (.int .i64 ((rd_T91 l1 x5_2).f1))).setCell ⟨gb122, 2, none⟩ (.int .i64 ((rd_T91 l1 x5_2).f2))).setCell ⟨gb122, 3, none⟩ (.int .i64 ((rd_T91 l1 x5_2).f3))).setCell ⟨gb122, 4, none⟩ (.int .i64 ((rd_T91 l1 x5_2).f4))) = w52 at n0_ n1_ ⊢
               have BK122 := n0_
               have HB := n1_
               clear n0_ n1_
               have n0_ := Aside0.mk (blk_drew BK122.out)
               have n1_ := Aside0.mk (below_drew1 HB.out)
               clear BK122
               clear HB
               have BK122 := n0_
               have HB := n1_
               clear n0_ n1_
               refine start_ (n := 64) (S := fun w' => w'.cell? ⟨gb122, 0, none⟩ = some (.int .i64 ((rd_T91 l1 x5_2).f0)) ∧ w'.cell? ⟨gb122, 1, none⟩ = some (.int .i64 ((rd_T91 l1 x5_2).f1)) ∧ w'.cell? ⟨gb122, 2, none⟩ = some (.int .i64 ((rd_T91 l1 x5_2).f2)) ∧ w'.cell? ⟨gb122, 3, none⟩ = some (.int .i64 ((rd_T91 l1 x5_2).f3)) ∧ w'.cell? ⟨gb122, 4, none⟩ = some (.int .i64 ((rd_T91 l1 x5_2).f4))) (ds := []) spec_CallsOk.v0 (by kernel_rfl) rfl rfl ⟨(blk_cell BK122.out 0).trans rfl, (blk_cell BK122.out 1).trans rfl, (blk_cell BK122.out 2).trans rfl, (blk_cell BK122.out 3).trans rfl, (blk_cell BK122.out 4).trans rfl⟩ (fun hHeld => ?_); refine with_tabW spec_CallsOk.tab7 spec_CallsOk.bits7 (fun HT_ HW_ => ?_)
               generalize w52.drew = w53 at BK122 HB hHeld ⊢
               refine Sk.pq 0 25 spec_CallsOk.v1 HT_.out (h := ?_)
               refine Sk.tk5 1 26 spec_CallsOk.v2 HT_.out HW_.out hHeld (h := ?_)
               refine one_ (i := 2) (N := some 27) spec_CallsOk.v3 rfl rfl (one_of HT_.out (by kernel_rfl)) (by decide) (fun K hK => ?_)
               refine goes_ Try.func51 (by kernel_rfl) rfl #[.int .i64 ((rd_T91 l1 x5_2).f0), .int .i64 1, .int .i64 1000000] (by rfl) rfl rfl (by (try simp only [List.map_toArray, List.map_cons, List.map_nil]); first | done | rfl | (simp only [List.length_drop, List.length_take]; rfl)) ?_
               with_reducible refine (spec_l1In.calls ((rd_T91 l1 x5_2).f0) 1 1000000 true _ A12.out).mono ?_
               rintro e w' ⟨rfl, ⟨nd, rfl⟩⟩
               refine ⟨_, rfl, ?_⟩
               refine hK.out _ _ ⟨(blk_cell BK122.out 0).trans rfl, (blk_cell BK122.out 1).trans rfl, (blk_cell BK122.out 2).trans rfl, (blk_cell BK122.out 3).trans rfl, (blk_cell BK122.out 4).trans rfl⟩ (fun hHeld => ?_)
               clear hK K
               refine Sk.nm 27 (h := ?_)
               refine Sk.pq 3 28 spec_CallsOk.v4 HT_.out (h := ?_)
               refine Sk.pq 4 29 spec_CallsOk.v5 HT_.out (h := ?_)
               refine Sk.pq 5 30 spec_CallsOk.v6 HT_.out (h := ?_)
               refine Sk.pq 6 31 spec_CallsOk.v7 HT_.out (h := ?_)
               refine Sk.pq 7 32 spec_CallsOk.v8 HT_.out (h := ?_)
               refine Sk.pu 8 33 spec_CallsOk.v9 HT_.out (h := ?_)
               refine Sk.pu 9 34 spec_CallsOk.v10 HT_.out (h := ?_)
               refine Sk.pu 10 35 spec_CallsOk.v11 HT_.out (h := ?_)
               refine Sk.pu 11 36 spec_CallsOk.v12 HT_.out (h := ?_)
               refine Sk.pu 12 37 spec_CallsOk.v13 HT_.out (h := ?_)
               refine Sk.pu 13 38 spec_CallsOk.v70 HT_.out (h := ?_)
               refine Sk.pu 14 39 spec_CallsOk.v15 HT_.out (h := ?_)
               refine Sk.pu 15 40 spec_CallsOk.v16 HT_.out (h := ?_)
               refine Sk.pu 16 41 spec_CallsOk.v17 HT_.out (h := ?_)
               refine Sk.pq 17 42 spec_CallsOk.v18 HT_.out (h := ?_)
               refine Sk.pq 18 43 spec_CallsOk.v19 HT_.out (h := ?_)
               refine Sk.pq 19 44 spec_CallsOk.v20 HT_.out (h := ?_)
               refine Sk.pq 20 45 spec_CallsOk.v21 HT_.out (h := ?_)
               refine Sk.tk5 21 46 spec_CallsOk.v22 HT_.out HW_.out hHeld (h := ?_)
               refine one_ (i := 22) (N := some 47) spec_CallsOk.v23 rfl rfl (one_of HT_.out (by kernel_rfl)) (by decide) (fun K hK => ?_)
               refine goes_ Try.func51 (by kernel_rfl) rfl #[.int .i64 ((rd_T91 l1 x5_2).f1), .int .i64 1, .int .i64 1000] (by rfl) rfl rfl (by (try simp only [List.map_toArray, List.map_cons, List.map_nil]); first | done | rfl | (simp only [List.length_drop, List.length_take]; rfl)) ?_
               with_reducible refine (spec_l1In.calls ((rd_T91 l1 x5_2).f1) 1 1000 true _ A45.out).mono ?_
               rintro e w' ⟨rfl, ⟨nd, rfl⟩⟩
               refine ⟨_, rfl, ?_⟩
               refine hK.out _ _ ⟨(blk_cell BK122.out 0).trans rfl, (blk_cell BK122.out 1).trans rfl, (blk_cell BK122.out 2).trans rfl, (blk_cell BK122.out 3).trans rfl, (blk_cell BK122.out 4).trans rfl⟩ (fun hHeld => ?_)
               clear hK K
               refine Sk.nm 47 (h := ?_)
               refine Sk.pq 23 48 spec_CallsOk.v24 HT_.out (h := ?_)
               refine Sk.pq 24 49 spec_CallsOk.v25 HT_.out (h := ?_)
               refine Sk.pq 25 50 spec_CallsOk.v26 HT_.out (h := ?_)
               refine Sk.pq 26 51 spec_CallsOk.v27 HT_.out (h := ?_)
               refine Sk.tk5 27 52 spec_CallsOk.v28 HT_.out HW_.out hHeld (h := ?_)
               refine one_ (i := 28) (N := some 53) spec_CallsOk.v29 rfl rfl (one_of HT_.out (by kernel_rfl)) (by decide) (fun K hK => ?_)
               refine goes_ Try.func102 (by kernel_rfl) rfl #[.int .i64 ((rd_T91 l1 x5_2).f2)] (by rfl) rfl rfl (by (try simp only [List.map_toArray, List.map_cons, List.map_nil]); first | done | rfl | (simp only [List.length_drop, List.length_take]; rfl)) ?_
               with_reducible refine (spec_l1Minute.calls ((rd_T91 l1 x5_2).f2) true _ A47.out).mono ?_
               rintro e w' ⟨rfl, ⟨nd, rfl⟩⟩
               refine ⟨_, rfl, ?_⟩
               refine hK.out _ _ ⟨(blk_cell BK122.out 0).trans rfl, (blk_cell BK122.out 1).trans rfl, (blk_cell BK122.out 2).trans rfl, (blk_cell BK122.out 3).trans rfl, (blk_cell BK122.out 4).trans rfl⟩ (fun hHeld => ?_)
               clear hK K
               refine Sk.nm 53 (h := ?_)
               refine Sk.pq 29 54 spec_CallsOk.v30 HT_.out (h := ?_)
               refine Sk.pq 30 55 spec_CallsOk.v31 HT_.out (h := ?_)
               refine Sk.pq 31 56 spec_CallsOk.v32 HT_.out (h := ?_)
               refine Sk.pq 32 57 spec_CallsOk.v33 HT_.out (h := ?_)
               refine Sk.tk5 33 58 spec_CallsOk.v34 HT_.out HW_.out hHeld (h := ?_)
               refine one_ (i := 34) (N := some 59) spec_CallsOk.v35 rfl rfl (one_of HT_.out (by kernel_rfl)) (by decide) (fun K hK => ?_)
               refine goes_ Try.func102 (by kernel_rfl) rfl #[.int .i64 ((rd_T91 l1 x5_2).f3)] (by rfl) rfl rfl (by (try simp only [List.map_toArray, List.map_cons, List.map_nil]); first | done | rfl | (simp only [List.length_drop, List.length_take]; rfl)) ?_
               with_reducible refine (spec_l1Minute.calls ((rd_T91 l1 x5_2).f3) true _ A49.out).mono ?_
               rintro e w' ⟨rfl, ⟨nd, rfl⟩⟩
               refine ⟨_, rfl, ?_⟩
               refine hK.out _ _ ⟨(blk_cell BK122.out 0).trans rfl, (blk_cell BK122.out 1).trans rfl, (blk_cell BK122.out 2).trans rfl, (blk_cell BK122.out 3).trans rfl, (blk_cell BK122.out 4).trans rfl⟩ (fun hHeld => ?_)
               clear hK K
               refine Sk.nm 59 (h := ?_)
               refine Sk.pq 35 60 spec_CallsOk.v36 HT_.out (h := ?_)
               refine Sk.pq 36 61 spec_CallsOk.v37 HT_.out (h := ?_)
               refine Sk.pq 37 62 spec_CallsOk.v38 HT_.out (h := ?_)
               refine Sk.pq 38 63 spec_CallsOk.v39 HT_.out (h := ?_)
               refine Sk.pq 40 65 spec_CallsOk.v65 HT_.out (h := ?_)
               refine Sk.tk5 39 64 spec_CallsOk.v41 HT_.out HW_.out hHeld (h := ?_)
               refine Sk.tk5 41 66 spec_CallsOk.v42 HT_.out HW_.out hHeld (h := ?_)
               refine Sk.pq 42 67 spec_CallsOk.v43 HT_.out (h := ?_)
               refine Sk.pq 43 68 spec_CallsOk.v44 HT_.out (h := ?_)
               refine Sk.pq 44 69 spec_CallsOk.v45 HT_.out (h := ?_)
               refine Sk.pu 45 70 spec_CallsOk.v46 HT_.out (h := ?_)
               refine Sk.pu 46 71 spec_CallsOk.v47 HT_.out (h := ?_)
               refine Sk.pu 47 72 spec_CallsOk.v48 HT_.out (h := ?_)
               refine Sk.pu 48 73 spec_CallsOk.v49 HT_.out (h := ?_)
               refine Sk.pq 49 74 spec_CallsOk.v50 HT_.out (h := ?_)
               refine Sk.pq 50 75 spec_CallsOk.v51 HT_.out (h := ?_)
               refine Sk.pu 51 76 spec_CallsOk.v52 HT_.out (h := ?_)
               refine Sk.pu 52 77 spec_CallsOk.v53 HT_.out (h := ?_)
               refine Sk.pu 53 78 spec_CallsOk.v54 HT_.out (h := ?_)
               refine Sk.pu 54 79 spec_CallsOk.v55 HT_.out (h := ?_)
               refine Sk.pu 55 80 spec_CallsOk.v56 HT_.out (h := ?_)
               refine Sk.pu 56 81 spec_CallsOk.v57 HT_.out (h := ?_)
               refine Sk.pu 57 82 spec_CallsOk.v58 HT_.out (h := ?_)
               refine Sk.pu 58 83 spec_CallsOk.v59 HT_.out (h := ?_)
               refine Sk.pu 59 84 spec_CallsOk.v60 HT_.out (h := ?_)
               refine Sk.pu 60 85 spec_CallsOk.v61 HT_.out (h := ?_)
               refine Sk.pu 61 86 spec_CallsOk.v62 HT_.out (h := ?_)
               refine Sk.pu 62 87 spec_CallsOk.v63 HT_.out (h := ?_)
               refine Sk.pq 63 88 spec_CallsOk.v64 HT_.out (h := ?_)
               refine done_ (done_of HT_.out (by kernel_rfl)) ?_
               try go_wp2
               go_meet
               case rel => exact ⟨_, (true), (by first | rfl | (simp; done) | (simp [*]; done)), H', ⟨by have := HJ2.out; have := HK2.out; first | omega | exact Nat.le_refl _⟩, ⟨by (with_reducible repeat (first | refine blk_drewN ?_ _ | refine blk_drew ?_ | refine blk_alloc ?_ _)); exact BK122.out⟩, ⟨by repeat (first | (with_reducible first | exact HB.out | apply below_alloc | apply pw_below_drewN | apply below_drew1 | refine below_set ?_ GE122.out) | exact HB.out)⟩⟩
              ·rw [if_neg c51] at H
               have c51b0 : decide (((rd_T91 l1 x5_2).f3) ≤ ((rd_T91 l1 x5_2).f2)) = false := decide_eq_false c51
               clear c51
               replace H := Option.bind_eq_some_iff.mp H
               obtain ⟨t132, A540, H⟩ := H
               (try dsimp only at H)
               have A54 := Aside0.mk A540
               clear A540
               by_cases c55 : t132 = true
               ·subst c55
                rw [if_pos rfl] at H
                by_cases c56 : ((rd_T91 l1 x5_2).f4) ≥ 0
                ·rw [if_pos c56] at H
                 have c56b0 : decide (0 ≤ ((rd_T91 l1 x5_2).f4)) = true := decide_eq_true c56
                 clear c56
                 have H' := Aside0.mk H
                 clear H
                 try go_wp2
                 have n0_ : Aside0 ((((((w10.setCell ⟨gb122, 0, none⟩ (.int .i64 ((rd_T91 l1 x5_2).f0))).setCell ⟨gb122, 1, none⟩ (.int .i64 ((rd_T91 l1 x5_2).f1))).setCell ⟨gb122, 2, none⟩ (.int .i64 ((rd_T91 l1 x5_2).f2))).setCell ⟨gb122, 3, none⟩ (.int .i64 ((rd_T91 l1 x5_2).f3))).setCell ⟨gb122, 4, none⟩ (.int .i64 ((rd_T91 l1 x5_2).f4))).heap[gb122]? = some (.cells #[.int .i64 ((rd_T91 l1 x5_2).f0), .int .i64 ((rd_T91 l1 x5_2).f1), .int .i64 ((rd_T91 l1 x5_2).f2), .int .i64 ((rd_T91 l1 x5_2).f3), .int .i64 ((rd_T91 l1 x5_2).f4)] 91 (0, 0))) := ⟨by (with_reducible repeat (first | refine blk_drewN ?_ _ | refine blk_drew ?_ | refine blk_alloc ?_ _)); refine blk_put (cs := #[.int .i64 ((rd_T91 l1 x5_2).f0), .int .i64 ((rd_T91 l1 x5_2).f1), .int .i64 ((rd_T91 l1 x5_2).f2), .int .i64 ((rd_T91 l1 x5_2).f3), .int .i64 0]) ?_ 4 _ rfl; (with_reducible repeat (first | refine blk_drewN ?_ _ | refine blk_drew ?_ | refine blk_alloc ?_ _)); refine blk_put (cs := #[.int .i64 ((rd_T91 l1 x5_2).f0), .int .i64 ((rd_T91 l1 x5_2).f1), .int .i64 ((rd_T91 l1 x5_2).f2), .int .i64 0, .int .i64 0]) ?_ 3 _ rfl; (with_reducible repeat (first | refine blk_drewN ?_ _ | refine blk_drew ?_ | refine blk_alloc ?_ _)); refine blk_put (cs := #[.int .i64 ((rd_T91 l1 x5_2).f0), .int .i64 ((rd_T91 l1 x5_2).f1), .int .i64 0, .int .i64 0, .int .i64 0]) ?_ 2 _ rfl; (with_reducible repeat (first | refine blk_drewN ?_ _ | refine blk_drew ?_ | refine blk_alloc ?_ _)); refine blk_put (cs := #[.int .i64 ((rd_T91 l1 x5_2).f0), .int .i64 0, .int .i64 0, .int .i64 0, .int .i64 0]) ?_ 1 _ rfl; (with_reducible repeat (first | refine blk_drewN ?_ _ | refine blk_drew ?_ | refine blk_alloc ?_ _)); refine blk_put (cs := #[.int .i64 0, .int .i64 0, .int .i64 0, .int .i64 0, .int .i64 0]) ?_ 0 _ rfl; (with_reducible repeat (first | refine blk_drewN ?_ _ | refine blk_drew ?_ | refine blk_alloc ?_ _)); exact BK122.out⟩
                 have n1_ : Aside0 (Below w.heap.size w (((((w10.setCell ⟨gb122, 0, none⟩ (.int .i64 ((rd_T91 l1 x5_2).f0))).setCell ⟨gb122, 1, none⟩ (.int .i64 ((rd_T91 l1 x5_2).f1))).setCell ⟨gb122, 2, none⟩ (.int .i64 ((rd_T91 l1 x5_2).f2))).setCell ⟨gb122, 3, none⟩ (.int .i64 ((rd_T91 l1 x5_2).f3))).setCell ⟨gb122, 4, none⟩ (.int .i64 ((rd_T91 l1 x5_2).f4)))) := ⟨by repeat (first | (with_reducible first | exact HB.out | apply below_alloc | apply pw_below_drewN | apply below_drew1 | refine below_set ?_ GE122.out) | exact HB.out)⟩
                 (try clear BK122)
                 (try clear HB)
                 generalize (((((w10.setCell ⟨gb122, 0, none⟩ (.int .i64 ((rd_T91 l1 x5_2).f0))).setCell ⟨gb122, 1, none⟩ (.int .i64 ((rd_T91 l1 x5_2).f1))).setCell ⟨gb122, 2, none⟩ (.int .i64 ((rd_T91 l1 x5_2).f2))).setCell ⟨gb122, 3, none⟩ (.int .i64 ((rd_T91 l1 x5_2).f3))).setCell ⟨gb122, 4, none⟩ (.int .i64 ((rd_T91 l1 x5_2).f4))) = w57 at n0_ n1_ ⊢
                 have BK122 := n0_
                 have HB := n1_
                 clear n0_ n1_
                 have n0_ := Aside0.mk (blk_drew BK122.out)
                 have n1_ := Aside0.mk (below_drew1 HB.out)
                 clear BK122
                 clear HB
                 have BK122 := n0_
                 have HB := n1_
                 clear n0_ n1_
                 refine start_ (n := 64) (S := fun w' => w'.cell? ⟨gb122, 0, none⟩ = some (.int .i64 ((rd_T91 l1 x5_2).f0)) ∧ w'.cell? ⟨gb122, 1, none⟩ = some (.int .i64 ((rd_T91 l1 x5_2).f1)) ∧ w'.cell? ⟨gb122, 2, none⟩ = some (.int .i64 ((rd_T91 l1 x5_2).f2)) ∧ w'.cell? ⟨gb122, 3, none⟩ = some (.int .i64 ((rd_T91 l1 x5_2).f3)) ∧ w'.cell? ⟨gb122, 4, none⟩ = some (.int .i64 ((rd_T91 l1 x5_2).f4))) (ds := []) spec_CallsOk.v0 (by kernel_rfl) rfl rfl ⟨(blk_cell BK122.out 0).trans rfl, (blk_cell BK122.out 1).trans rfl, (blk_cell BK122.out 2).trans rfl, (blk_cell BK122.out 3).trans rfl, (blk_cell BK122.out 4).trans rfl⟩ (fun hHeld => ?_); refine with_tabW spec_CallsOk.tab7 spec_CallsOk.bits7 (fun HT_ HW_ => ?_)
                 generalize w57.drew = w58 at BK122 HB hHeld ⊢
                 refine Sk.pq 0 25 spec_CallsOk.v1 HT_.out (h := ?_)
                 refine Sk.tk5 1 26 spec_CallsOk.v2 HT_.out HW_.out hHeld (h := ?_)
                 refine one_ (i := 2) (N := some 27) spec_CallsOk.v3 rfl rfl (one_of HT_.out (by kernel_rfl)) (by decide) (fun K hK => ?_)
                 refine goes_ Try.func51 (by kernel_rfl) rfl #[.int .i64 ((rd_T91 l1 x5_2).f0), .int .i64 1, .int .i64 1000000] (by rfl) rfl rfl (by (try simp only [List.map_toArray, List.map_cons, List.map_nil]); first | done | rfl | (simp only [List.length_drop, List.length_take]; rfl)) ?_
                 with_reducible refine (spec_l1In.calls ((rd_T91 l1 x5_2).f0) 1 1000000 true _ A12.out).mono ?_
                 rintro e w' ⟨rfl, ⟨nd, rfl⟩⟩
                 refine ⟨_, rfl, ?_⟩
                 refine hK.out _ _ ⟨(blk_cell BK122.out 0).trans rfl, (blk_cell BK122.out 1).trans rfl, (blk_cell BK122.out 2).trans rfl, (blk_cell BK122.out 3).trans rfl, (blk_cell BK122.out 4).trans rfl⟩ (fun hHeld => ?_)
                 clear hK K
                 refine Sk.nm 27 (h := ?_)
                 refine Sk.pq 3 28 spec_CallsOk.v4 HT_.out (h := ?_)
                 refine Sk.pq 4 29 spec_CallsOk.v5 HT_.out (h := ?_)
                 refine Sk.pq 5 30 spec_CallsOk.v6 HT_.out (h := ?_)
                 refine Sk.pq 6 31 spec_CallsOk.v7 HT_.out (h := ?_)
                 refine Sk.pq 7 32 spec_CallsOk.v8 HT_.out (h := ?_)
                 refine Sk.pu 8 33 spec_CallsOk.v9 HT_.out (h := ?_)
                 refine Sk.pu 9 34 spec_CallsOk.v10 HT_.out (h := ?_)
                 refine Sk.pu 10 35 spec_CallsOk.v11 HT_.out (h := ?_)
                 refine Sk.pu 11 36 spec_CallsOk.v12 HT_.out (h := ?_)
                 refine Sk.pu 12 37 spec_CallsOk.v13 HT_.out (h := ?_)
                 refine Sk.pu 13 38 spec_CallsOk.v70 HT_.out (h := ?_)
                 refine Sk.pu 14 39 spec_CallsOk.v15 HT_.out (h := ?_)
                 refine Sk.pu 15 40 spec_CallsOk.v16 HT_.out (h := ?_)
                 refine Sk.pu 16 41 spec_CallsOk.v17 HT_.out (h := ?_)
                 refine Sk.pq 17 42 spec_CallsOk.v18 HT_.out (h := ?_)
                 refine Sk.pq 18 43 spec_CallsOk.v19 HT_.out (h := ?_)
                 refine Sk.pq 19 44 spec_CallsOk.v20 HT_.out (h := ?_)
                 refine Sk.pq 20 45 spec_CallsOk.v21 HT_.out (h := ?_)
                 refine Sk.tk5 21 46 spec_CallsOk.v22 HT_.out HW_.out hHeld (h := ?_)
                 refine one_ (i := 22) (N := some 47) spec_CallsOk.v23 rfl rfl (one_of HT_.out (by kernel_rfl)) (by decide) (fun K hK => ?_)
                 refine goes_ Try.func51 (by kernel_rfl) rfl #[.int .i64 ((rd_T91 l1 x5_2).f1), .int .i64 1, .int .i64 1000] (by rfl) rfl rfl (by (try simp only [List.map_toArray, List.map_cons, List.map_nil]); first | done | rfl | (simp only [List.length_drop, List.length_take]; rfl)) ?_
                 with_reducible refine (spec_l1In.calls ((rd_T91 l1 x5_2).f1) 1 1000 true _ A45.out).mono ?_
                 rintro e w' ⟨rfl, ⟨nd, rfl⟩⟩
                 refine ⟨_, rfl, ?_⟩
                 refine hK.out _ _ ⟨(blk_cell BK122.out 0).trans rfl, (blk_cell BK122.out 1).trans rfl, (blk_cell BK122.out 2).trans rfl, (blk_cell BK122.out 3).trans rfl, (blk_cell BK122.out 4).trans rfl⟩ (fun hHeld => ?_)
                 clear hK K
                 refine Sk.nm 47 (h := ?_)
                 refine Sk.pq 23 48 spec_CallsOk.v24 HT_.out (h := ?_)
                 refine Sk.pq 24 49 spec_CallsOk.v25 HT_.out (h := ?_)
                 refine Sk.pq 25 50 spec_CallsOk.v26 HT_.out (h := ?_)
                 refine Sk.pq 26 51 spec_CallsOk.v27 HT_.out (h := ?_)
                 refine Sk.tk5 27 52 spec_CallsOk.v28 HT_.out HW_.out hHeld (h := ?_)
                 refine one_ (i := 28) (N := some 53) spec_CallsOk.v29 rfl rfl (one_of HT_.out (by kernel_rfl)) (by decide) (fun K hK => ?_)
                 refine goes_ Try.func102 (by kernel_rfl) rfl #[.int .i64 ((rd_T91 l1 x5_2).f2)] (by rfl) rfl rfl (by (try simp only [List.map_toArray, List.map_cons, List.map_nil]); first | done | rfl | (simp only [List.length_drop, List.length_take]; rfl)) ?_
                 with_reducible refine (spec_l1Minute.calls ((rd_T91 l1 x5_2).f2) true _ A47.out).mono ?_
                 rintro e w' ⟨rfl, ⟨nd, rfl⟩⟩
                 refine ⟨_, rfl, ?_⟩
                 refine hK.out _ _ ⟨(blk_cell BK122.out 0).trans rfl, (blk_cell BK122.out 1).trans rfl, (blk_cell BK122.out 2).trans rfl, (blk_cell BK122.out 3).trans rfl, (blk_cell BK122.out 4).trans rfl⟩ (fun hHeld => ?_)
                 clear hK K
                 refine Sk.nm 53 (h := ?_)
                 refine Sk.pq 29 54 spec_CallsOk.v30 HT_.out (h := ?_)
                 refine Sk.pq 30 55 spec_CallsOk.v31 HT_.out (h := ?_)
                 refine Sk.pq 31 56 spec_CallsOk.v32 HT_.out (h := ?_)
                 refine Sk.pq 32 57 spec_CallsOk.v33 HT_.out (h := ?_)
                 refine Sk.tk5 33 58 spec_CallsOk.v34 HT_.out HW_.out hHeld (h := ?_)
                 refine one_ (i := 34) (N := some 59) spec_CallsOk.v35 rfl rfl (one_of HT_.out (by kernel_rfl)) (by decide) (fun K hK => ?_)
                 refine goes_ Try.func102 (by kernel_rfl) rfl #[.int .i64 ((rd_T91 l1 x5_2).f3)] (by rfl) rfl rfl (by (try simp only [List.map_toArray, List.map_cons, List.map_nil]); first | done | rfl | (simp only [List.length_drop, List.length_take]; rfl)) ?_
                 with_reducible refine (spec_l1Minute.calls ((rd_T91 l1 x5_2).f3) true _ A49.out).mono ?_
                 rintro e w' ⟨rfl, ⟨nd, rfl⟩⟩
                 refine ⟨_, rfl, ?_⟩
                 refine hK.out _ _ ⟨(blk_cell BK122.out 0).trans rfl, (blk_cell BK122.out 1).trans rfl, (blk_cell BK122.out 2).trans rfl, (blk_cell BK122.out 3).trans rfl, (blk_cell BK122.out 4).trans rfl⟩ (fun hHeld => ?_)
                 clear hK K
                 refine Sk.nm 59 (h := ?_)
                 refine Sk.pq 35 60 spec_CallsOk.v36 HT_.out (h := ?_)
                 refine Sk.pq 36 61 spec_CallsOk.v37 HT_.out (h := ?_)
                 refine Sk.pq 37 62 spec_CallsOk.v38 HT_.out (h := ?_)
                 refine Sk.pq 38 63 spec_CallsOk.v39 HT_.out (h := ?_)
                 refine Sk.pq 40 65 spec_CallsOk.v65 HT_.out (h := ?_)
                 refine Sk.tk5 39 64 spec_CallsOk.v41 HT_.out HW_.out hHeld (h := ?_)
                 refine Sk.tk5 41 66 spec_CallsOk.v42 HT_.out HW_.out hHeld (h := ?_)
                 refine Sk.pq 42 67 spec_CallsOk.v43 HT_.out (h := ?_)
                 refine Sk.pq 43 68 spec_CallsOk.v44 HT_.out (h := ?_)
                 refine Sk.pq 44 69 spec_CallsOk.v45 HT_.out (h := ?_)
                 refine Sk.pq 45 70 spec_CallsOk.v46 HT_.out (h := ?_)
                 refine Sk.tk5 46 71 spec_CallsOk.v47 HT_.out HW_.out hHeld (h := ?_)
                 refine one_ (i := 47) (N := some 72) spec_CallsOk.v48 rfl rfl (one_of HT_.out (by kernel_rfl)) (by decide) (fun K hK => ?_)
                 refine goes_ Try.func51 (by kernel_rfl) rfl #[.int .i64 ((rd_T91 l1 x5_2).f4), .int .i64 (-1), .int .i64 1000] (by rfl) rfl rfl (by (try simp only [List.map_toArray, List.map_cons, List.map_nil]); first | done | rfl | (simp only [List.length_drop, List.length_take]; rfl)) ?_
                 with_reducible refine (spec_l1In.calls ((rd_T91 l1 x5_2).f4) (-1) 1000 true _ A54.out).mono ?_
                 rintro e w' ⟨rfl, ⟨nd, rfl⟩⟩
                 refine ⟨_, rfl, ?_⟩
                 refine hK.out _ _ ⟨(blk_cell BK122.out 0).trans rfl, (blk_cell BK122.out 1).trans rfl, (blk_cell BK122.out 2).trans rfl, (blk_cell BK122.out 3).trans rfl, (blk_cell BK122.out 4).trans rfl⟩ (fun hHeld => ?_)
                 clear hK K
                 refine Sk.nm 72 (h := ?_)
                 refine Sk.pq 48 73 spec_CallsOk.v49 HT_.out (h := ?_)
                 refine Sk.pq 49 74 spec_CallsOk.v50 HT_.out (h := ?_)
                 refine Sk.pq 50 75 spec_CallsOk.v51 HT_.out (h := ?_)
                 refine Sk.pq 51 76 spec_CallsOk.v52 HT_.out (h := ?_)
                 refine Sk.tk5 52 77 spec_CallsOk.v53 HT_.out HW_.out hHeld (h := ?_)
                 refine Sk.pq 53 78 spec_CallsOk.v54 HT_.out (h := ?_)
                 refine Sk.pq 54 79 spec_CallsOk.v55 HT_.out (h := ?_)
                 refine Sk.pq 55 80 spec_CallsOk.v56 HT_.out (h := ?_)
                 refine Sk.pq 57 82 spec_CallsOk.v66 HT_.out (h := ?_)
                 refine Sk.pq 60 85 spec_CallsOk.v67 HT_.out (h := ?_)
                 refine Sk.tk5 56 81 spec_CallsOk.v68 HT_.out HW_.out hHeld (h := ?_)
                 refine Sk.tk5 58 83 spec_CallsOk.v69 HT_.out HW_.out hHeld (h := ?_)
                 refine Sk.pq 59 84 spec_CallsOk.v61 HT_.out (h := ?_)
                 refine Sk.pq 61 86 spec_CallsOk.v62 HT_.out (h := ?_)
                 refine Sk.pq 62 87 spec_CallsOk.v63 HT_.out (h := ?_)
                 refine Sk.pq 63 88 spec_CallsOk.v64 HT_.out (h := ?_)
                 refine done_ (done_of HT_.out (by kernel_rfl)) ?_
                 try go_wp2
                 go_meet
                 case rel => exact ⟨_, (decide ((wrap64 (((rd_T91 l1 x5_2).f4) + ((rd_T91 l1 x5_2).f1))) > a0)), (by first | rfl | (simp; done) | (simp [*]; done)), H', ⟨by have := HJ2.out; have := HK2.out; first | omega | exact Nat.le_refl _⟩, ⟨by (with_reducible repeat (first | refine blk_drewN ?_ _ | refine blk_drew ?_ | refine blk_alloc ?_ _)); exact BK122.out⟩, ⟨by repeat (first | (with_reducible first | exact HB.out | apply below_alloc | apply pw_below_drewN | apply below_drew1 | refine below_set ?_ GE122.out) | exact HB.out)⟩⟩
                ·rw [if_neg c56] at H
                 have c56b0 : decide (0 ≤ ((rd_T91 l1 x5_2).f4)) = false := decide_eq_false c56
                 clear c56
                 have H' := Aside0.mk H
                 clear H
                 try go_wp2
                 have n0_ : Aside0 ((((((w10.setCell ⟨gb122, 0, none⟩ (.int .i64 ((rd_T91 l1 x5_2).f0))).setCell ⟨gb122, 1, none⟩ (.int .i64 ((rd_T91 l1 x5_2).f1))).setCell ⟨gb122, 2, none⟩ (.int .i64 ((rd_T91 l1 x5_2).f2))).setCell ⟨gb122, 3, none⟩ (.int .i64 ((rd_T91 l1 x5_2).f3))).setCell ⟨gb122, 4, none⟩ (.int .i64 ((rd_T91 l1 x5_2).f4))).heap[gb122]? = some (.cells #[.int .i64 ((rd_T91 l1 x5_2).f0), .int .i64 ((rd_T91 l1 x5_2).f1), .int .i64 ((rd_T91 l1 x5_2).f2), .int .i64 ((rd_T91 l1 x5_2).f3), .int .i64 ((rd_T91 l1 x5_2).f4)] 91 (0, 0))) := ⟨by (with_reducible repeat (first | refine blk_drewN ?_ _ | refine blk_drew ?_ | refine blk_alloc ?_ _)); refine blk_put (cs := #[.int .i64 ((rd_T91 l1 x5_2).f0), .int .i64 ((rd_T91 l1 x5_2).f1), .int .i64 ((rd_T91 l1 x5_2).f2), .int .i64 ((rd_T91 l1 x5_2).f3), .int .i64 0]) ?_ 4 _ rfl; (with_reducible repeat (first | refine blk_drewN ?_ _ | refine blk_drew ?_ | refine blk_alloc ?_ _)); refine blk_put (cs := #[.int .i64 ((rd_T91 l1 x5_2).f0), .int .i64 ((rd_T91 l1 x5_2).f1), .int .i64 ((rd_T91 l1 x5_2).f2), .int .i64 0, .int .i64 0]) ?_ 3 _ rfl; (with_reducible repeat (first | refine blk_drewN ?_ _ | refine blk_drew ?_ | refine blk_alloc ?_ _)); refine blk_put (cs := #[.int .i64 ((rd_T91 l1 x5_2).f0), .int .i64 ((rd_T91 l1 x5_2).f1), .int .i64 0, .int .i64 0, .int .i64 0]) ?_ 2 _ rfl; (with_reducible repeat (first | refine blk_drewN ?_ _ | refine blk_drew ?_ | refine blk_alloc ?_ _)); refine blk_put (cs := #[.int .i64 ((rd_T91 l1 x5_2).f0), .int .i64 0, .int .i64 0, .int .i64 0, .int .i64 0]) ?_ 1 _ rfl; (with_reducible repeat (first | refine blk_drewN ?_ _ | refine blk_drew ?_ | refine blk_alloc ?_ _)); refine blk_put (cs := #[.int .i64 0, .int .i64 0, .int .i64 0, .int .i64 0, .int .i64 0]) ?_ 0 _ rfl; (with_reducible repeat (first | refine blk_drewN ?_ _ | refine blk_drew ?_ | refine blk_alloc ?_ _)); exact BK122.out⟩
                 have n1_ : Aside0 (Below w.heap.size w (((((w10.setCell ⟨gb122, 0, none⟩ (.int .i64 ((rd_T91 l1 x5_2).f0))).setCell ⟨gb122, 1, none⟩ (.int .i64 ((rd_T91 l1 x5_2).f1))).setCell ⟨gb122, 2, none⟩ (.int .i64 ((rd_T91 l1 x5_2).f2))).setCell ⟨gb122, 3, none⟩ (.int .i64 ((rd_T91 l1 x5_2).f3))).setCell ⟨gb122, 4, none⟩ (.int .i64 ((rd_T91 l1 x5_2).f4)))) := ⟨by repeat (first | (with_reducible first | exact HB.out | apply below_alloc | apply pw_below_drewN | apply below_drew1 | refine below_set ?_ GE122.out) | exact HB.out)⟩
                 (try clear BK122)
                 (try clear HB)
                 generalize (((((w10.setCell ⟨gb122, 0, none⟩ (.int .i64 ((rd_T91 l1 x5_2).f0))).setCell ⟨gb122, 1, none⟩ (.int .i64 ((rd_T91 l1 x5_2).f1))).setCell ⟨gb122, 2, none⟩ (.int .i64 ((rd_T91 l1 x5_2).f2))).setCell ⟨gb122, 3, none⟩ (.int .i64 ((rd_T91 l1 x5_2).f3))).setCell ⟨gb122, 4, none⟩ (.int .i64 ((rd_T91 l1 x5_2).f4))) = w59 at n0_ n1_ ⊢
                 have BK122 := n0_
                 have HB := n1_
                 clear n0_ n1_
                 have n0_ := Aside0.mk (blk_drew BK122.out)
                 have n1_ := Aside0.mk (below_drew1 HB.out)
                 clear BK122
                 clear HB
                 have BK122 := n0_
                 have HB := n1_
                 clear n0_ n1_
                 refine start_ (n := 64) (S := fun w' => w'.cell? ⟨gb122, 0, none⟩ = some (.int .i64 ((rd_T91 l1 x5_2).f0)) ∧ w'.cell? ⟨gb122, 1, none⟩ = some (.int .i64 ((rd_T91 l1 x5_2).f1)) ∧ w'.cell? ⟨gb122, 2, none⟩ = some (.int .i64 ((rd_T91 l1 x5_2).f2)) ∧ w'.cell? ⟨gb122, 3, none⟩ = some (.int .i64 ((rd_T91 l1 x5_2).f3)) ∧ w'.cell? ⟨gb122, 4, none⟩ = some (.int .i64 ((rd_T91 l1 x5_2).f4))) (ds := []) spec_CallsOk.v0 (by kernel_rfl) rfl rfl ⟨(blk_cell BK122.out 0).trans rfl, (blk_cell BK122.out 1).trans rfl, (blk_cell BK122.out 2).trans rfl, (blk_cell BK122.out 3).trans rfl, (blk_cell BK122.out 4).trans rfl⟩ (fun hHeld => ?_); refine with_tabW spec_CallsOk.tab7 spec_CallsOk.bits7 (fun HT_ HW_ => ?_)
                 generalize w59.drew = w60 at BK122 HB hHeld ⊢
                 refine Sk.pq 0 25 spec_CallsOk.v1 HT_.out (h := ?_)
                 refine Sk.tk5 1 26 spec_CallsOk.v2 HT_.out HW_.out hHeld (h := ?_)
                 refine one_ (i := 2) (N := some 27) spec_CallsOk.v3 rfl rfl (one_of HT_.out (by kernel_rfl)) (by decide) (fun K hK => ?_)
                 refine goes_ Try.func51 (by kernel_rfl) rfl #[.int .i64 ((rd_T91 l1 x5_2).f0), .int .i64 1, .int .i64 1000000] (by rfl) rfl rfl (by (try simp only [List.map_toArray, List.map_cons, List.map_nil]); first | done | rfl | (simp only [List.length_drop, List.length_take]; rfl)) ?_
                 with_reducible refine (spec_l1In.calls ((rd_T91 l1 x5_2).f0) 1 1000000 true _ A12.out).mono ?_
                 rintro e w' ⟨rfl, ⟨nd, rfl⟩⟩
                 refine ⟨_, rfl, ?_⟩
                 refine hK.out _ _ ⟨(blk_cell BK122.out 0).trans rfl, (blk_cell BK122.out 1).trans rfl, (blk_cell BK122.out 2).trans rfl, (blk_cell BK122.out 3).trans rfl, (blk_cell BK122.out 4).trans rfl⟩ (fun hHeld => ?_)
                 clear hK K
                 refine Sk.nm 27 (h := ?_)
                 refine Sk.pq 3 28 spec_CallsOk.v4 HT_.out (h := ?_)
                 refine Sk.pq 4 29 spec_CallsOk.v5 HT_.out (h := ?_)
                 refine Sk.pq 5 30 spec_CallsOk.v6 HT_.out (h := ?_)
                 refine Sk.pq 6 31 spec_CallsOk.v7 HT_.out (h := ?_)
                 refine Sk.pq 7 32 spec_CallsOk.v8 HT_.out (h := ?_)
                 refine Sk.pu 8 33 spec_CallsOk.v9 HT_.out (h := ?_)
                 refine Sk.pu 9 34 spec_CallsOk.v10 HT_.out (h := ?_)
                 refine Sk.pu 10 35 spec_CallsOk.v11 HT_.out (h := ?_)
                 refine Sk.pu 11 36 spec_CallsOk.v12 HT_.out (h := ?_)
                 refine Sk.pu 12 37 spec_CallsOk.v13 HT_.out (h := ?_)
                 refine Sk.pu 13 38 spec_CallsOk.v70 HT_.out (h := ?_)
                 refine Sk.pu 14 39 spec_CallsOk.v15 HT_.out (h := ?_)
                 refine Sk.pu 15 40 spec_CallsOk.v16 HT_.out (h := ?_)
                 refine Sk.pu 16 41 spec_CallsOk.v17 HT_.out (h := ?_)
                 refine Sk.pq 17 42 spec_CallsOk.v18 HT_.out (h := ?_)
                 refine Sk.pq 18 43 spec_CallsOk.v19 HT_.out (h := ?_)
                 refine Sk.pq 19 44 spec_CallsOk.v20 HT_.out (h := ?_)
                 refine Sk.pq 20 45 spec_CallsOk.v21 HT_.out (h := ?_)
                 refine Sk.tk5 21 46 spec_CallsOk.v22 HT_.out HW_.out hHeld (h := ?_)
                 refine one_ (i := 22) (N := some 47) spec_CallsOk.v23 rfl rfl (one_of HT_.out (by kernel_rfl)) (by decide) (fun K hK => ?_)
                 refine goes_ Try.func51 (by kernel_rfl) rfl #[.int .i64 ((rd_T91 l1 x5_2).f1), .int .i64 1, .int .i64 1000] (by rfl) rfl rfl (by (try simp only [List.map_toArray, List.map_cons, List.map_nil]); first | done | rfl | (simp only [List.length_drop, List.length_take]; rfl)) ?_
                 with_reducible refine (spec_l1In.calls ((rd_T91 l1 x5_2).f1) 1 1000 true _ A45.out).mono ?_
                 rintro e w' ⟨rfl, ⟨nd, rfl⟩⟩
                 refine ⟨_, rfl, ?_⟩
                 refine hK.out _ _ ⟨(blk_cell BK122.out 0).trans rfl, (blk_cell BK122.out 1).trans rfl, (blk_cell BK122.out 2).trans rfl, (blk_cell BK122.out 3).trans rfl, (blk_cell BK122.out 4).trans rfl⟩ (fun hHeld => ?_)
                 clear hK K
                 refine Sk.nm 47 (h := ?_)
                 refine Sk.pq 23 48 spec_CallsOk.v24 HT_.out (h := ?_)
                 refine Sk.pq 24 49 spec_CallsOk.v25 HT_.out (h := ?_)
                 refine Sk.pq 25 50 spec_CallsOk.v26 HT_.out (h := ?_)
                 refine Sk.pq 26 51 spec_CallsOk.v27 HT_.out (h := ?_)
                 refine Sk.tk5 27 52 spec_CallsOk.v28 HT_.out HW_.out hHeld (h := ?_)
                 refine one_ (i := 28) (N := some 53) spec_CallsOk.v29 rfl rfl (one_of HT_.out (by kernel_rfl)) (by decide) (fun K hK => ?_)
                 refine goes_ Try.func102 (by kernel_rfl) rfl #[.int .i64 ((rd_T91 l1 x5_2).f2)] (by rfl) rfl rfl (by (try simp only [List.map_toArray, List.map_cons, List.map_nil]); first | done | rfl | (simp only [List.length_drop, List.length_take]; rfl)) ?_
                 with_reducible refine (spec_l1Minute.calls ((rd_T91 l1 x5_2).f2) true _ A47.out).mono ?_
                 rintro e w' ⟨rfl, ⟨nd, rfl⟩⟩
                 refine ⟨_, rfl, ?_⟩
                 refine hK.out _ _ ⟨(blk_cell BK122.out 0).trans rfl, (blk_cell BK122.out 1).trans rfl, (blk_cell BK122.out 2).trans rfl, (blk_cell BK122.out 3).trans rfl, (blk_cell BK122.out 4).trans rfl⟩ (fun hHeld => ?_)
                 clear hK K
                 refine Sk.nm 53 (h := ?_)
                 refine Sk.pq 29 54 spec_CallsOk.v30 HT_.out (h := ?_)
                 refine Sk.pq 30 55 spec_CallsOk.v31 HT_.out (h := ?_)
                 refine Sk.pq 31 56 spec_CallsOk.v32 HT_.out (h := ?_)
                 refine Sk.pq 32 57 spec_CallsOk.v33 HT_.out (h := ?_)
                 refine Sk.tk5 33 58 spec_CallsOk.v34 HT_.out HW_.out hHeld (h := ?_)
                 refine one_ (i := 34) (N := some 59) spec_CallsOk.v35 rfl rfl (one_of HT_.out (by kernel_rfl)) (by decide) (fun K hK => ?_)
                 refine goes_ Try.func102 (by kernel_rfl) rfl #[.int .i64 ((rd_T91 l1 x5_2).f3)] (by rfl) rfl rfl (by (try simp only [List.map_toArray, List.map_cons, List.map_nil]); first | done | rfl | (simp only [List.length_drop, List.length_take]; rfl)) ?_
                 with_reducible refine (spec_l1Minute.calls ((rd_T91 l1 x5_2).f3) true _ A49.out).mono ?_
                 rintro e w' ⟨rfl, ⟨nd, rfl⟩⟩
                 refine ⟨_, rfl, ?_⟩
                 refine hK.out _ _ ⟨(blk_cell BK122.out 0).trans rfl, (blk_cell BK122.out 1).trans rfl, (blk_cell BK122.out 2).trans rfl, (blk_cell BK122.out 3).trans rfl, (blk_cell BK122.out 4).trans rfl⟩ (fun hHeld => ?_)
                 clear hK K
                 refine Sk.nm 59 (h := ?_)
                 refine Sk.pq 35 60 spec_CallsOk.v36 HT_.out (h := ?_)
                 refine Sk.pq 36 61 spec_CallsOk.v37 HT_.out (h := ?_)
                 refine Sk.pq 37 62 spec_CallsOk.v38 HT_.out (h := ?_)
                 refine Sk.pq 38 63 spec_CallsOk.v39 HT_.out (h := ?_)
                 refine Sk.pq 40 65 spec_CallsOk.v65 HT_.out (h := ?_)
                 refine Sk.tk5 39 64 spec_CallsOk.v41 HT_.out HW_.out hHeld (h := ?_)
                 refine Sk.tk5 41 66 spec_CallsOk.v42 HT_.out HW_.out hHeld (h := ?_)
                 refine Sk.pq 42 67 spec_CallsOk.v43 HT_.out (h := ?_)
                 refine Sk.pq 43 68 spec_CallsOk.v44 HT_.out (h := ?_)
                 refine Sk.pq 44 69 spec_CallsOk.v45 HT_.out (h := ?_)
                 refine Sk.pq 45 70 spec_CallsOk.v46 HT_.out (h := ?_)
                 refine Sk.tk5 46 71 spec_CallsOk.v47 HT_.out HW_.out hHeld (h := ?_)
                 refine one_ (i := 47) (N := some 72) spec_CallsOk.v48 rfl rfl (one_of HT_.out (by kernel_rfl)) (by decide) (fun K hK => ?_)
                 refine goes_ Try.func51 (by kernel_rfl) rfl #[.int .i64 ((rd_T91 l1 x5_2).f4), .int .i64 (-1), .int .i64 1000] (by rfl) rfl rfl (by (try simp only [List.map_toArray, List.map_cons, List.map_nil]); first | done | rfl | (simp only [List.length_drop, List.length_take]; rfl)) ?_
                 with_reducible refine (spec_l1In.calls ((rd_T91 l1 x5_2).f4) (-1) 1000 true _ A54.out).mono ?_
                 rintro e w' ⟨rfl, ⟨nd, rfl⟩⟩
                 refine ⟨_, rfl, ?_⟩
                 refine hK.out _ _ ⟨(blk_cell BK122.out 0).trans rfl, (blk_cell BK122.out 1).trans rfl, (blk_cell BK122.out 2).trans rfl, (blk_cell BK122.out 3).trans rfl, (blk_cell BK122.out 4).trans rfl⟩ (fun hHeld => ?_)
                 clear hK K
                 refine Sk.nm 72 (h := ?_)
                 refine Sk.pq 48 73 spec_CallsOk.v49 HT_.out (h := ?_)
                 refine Sk.pq 49 74 spec_CallsOk.v50 HT_.out (h := ?_)
                 refine Sk.pq 50 75 spec_CallsOk.v51 HT_.out (h := ?_)
                 refine Sk.pq 51 76 spec_CallsOk.v52 HT_.out (h := ?_)
                 refine Sk.tk5 52 77 spec_CallsOk.v53 HT_.out HW_.out hHeld (h := ?_)
                 refine Sk.pq 53 78 spec_CallsOk.v54 HT_.out (h := ?_)
                 refine Sk.pq 54 79 spec_CallsOk.v55 HT_.out (h := ?_)
                 refine Sk.pu 55 80 spec_CallsOk.v56 HT_.out (h := ?_)
                 refine Sk.pu 56 81 spec_CallsOk.v57 HT_.out (h := ?_)
                 refine Sk.pu 57 82 spec_CallsOk.v58 HT_.out (h := ?_)
                 refine Sk.pu 58 83 spec_CallsOk.v59 HT_.out (h := ?_)
                 refine Sk.pu 59 84 spec_CallsOk.v60 HT_.out (h := ?_)
                 refine Sk.pu 60 85 spec_CallsOk.v61 HT_.out (h := ?_)
                 refine Sk.pu 61 86 spec_CallsOk.v62 HT_.out (h := ?_)
                 refine Sk.pq 62 87 spec_CallsOk.v63 HT_.out (h := ?_)
                 refine Sk.pq 63 88 spec_CallsOk.v64 HT_.out (h := ?_)
                 refine done_ (done_of HT_.out (by kernel_rfl)) ?_
                 try go_wp2
                 go_meet
                 case rel => exact ⟨_, (false), (by first | rfl | (simp; done) | (simp [*]; done)), H', ⟨by have := HJ2.out; have := HK2.out; first | omega | exact Nat.le_refl _⟩, ⟨by (with_reducible repeat (first | refine blk_drewN ?_ _ | refine blk_drew ?_ | refine blk_alloc ?_ _)); exact BK122.out⟩, ⟨by repeat (first | (with_reducible first | exact HB.out | apply below_alloc | apply pw_below_drewN | apply below_drew1 | refine below_set ?_ GE122.out) | exact HB.out)⟩⟩
               ·replace c55 := Bool.eq_false_iff.mpr c55
                subst c55
                rw [if_neg (show ¬ (false = true) by decide)] at H
                have H' := Aside0.mk H
                clear H
                try go_wp2
                have n0_ : Aside0 ((((((w10.setCell ⟨gb122, 0, none⟩ (.int .i64 ((rd_T91 l1 x5_2).f0))).setCell ⟨gb122, 1, none⟩ (.int .i64 ((rd_T91 l1 x5_2).f1))).setCell ⟨gb122, 2, none⟩ (.int .i64 ((rd_T91 l1 x5_2).f2))).setCell ⟨gb122, 3, none⟩ (.int .i64 ((rd_T91 l1 x5_2).f3))).setCell ⟨gb122, 4, none⟩ (.int .i64 ((rd_T91 l1 x5_2).f4))).heap[gb122]? = some (.cells #[.int .i64 ((rd_T91 l1 x5_2).f0), .int .i64 ((rd_T91 l1 x5_2).f1), .int .i64 ((rd_T91 l1 x5_2).f2), .int .i64 ((rd_T91 l1 x5_2).f3), .int .i64 ((rd_T91 l1 x5_2).f4)] 91 (0, 0))) := ⟨by (with_reducible repeat (first | refine blk_drewN ?_ _ | refine blk_drew ?_ | refine blk_alloc ?_ _)); refine blk_put (cs := #[.int .i64 ((rd_T91 l1 x5_2).f0), .int .i64 ((rd_T91 l1 x5_2).f1), .int .i64 ((rd_T91 l1 x5_2).f2), .int .i64 ((rd_T91 l1 x5_2).f3), .int .i64 0]) ?_ 4 _ rfl; (with_reducible repeat (first | refine blk_drewN ?_ _ | refine blk_drew ?_ | refine blk_alloc ?_ _)); refine blk_put (cs := #[.int .i64 ((rd_T91 l1 x5_2).f0), .int .i64 ((rd_T91 l1 x5_2).f1), .int .i64 ((rd_T91 l1 x5_2).f2), .int .i64 0, .int .i64 0]) ?_ 3 _ rfl; (with_reducible repeat (first | refine blk_drewN ?_ _ | refine blk_drew ?_ | refine blk_alloc ?_ _)); refine blk_put (cs := #[.int .i64 ((rd_T91 l1 x5_2).f0), .int .i64 ((rd_T91 l1 x5_2).f1), .int .i64 0, .int .i64 0, .int .i64 0]) ?_ 2 _ rfl; (with_reducible repeat (first | refine blk_drewN ?_ _ | refine blk_drew ?_ | refine blk_alloc ?_ _)); refine blk_put (cs := #[.int .i64 ((rd_T91 l1 x5_2).f0), .int .i64 0, .int .i64 0, .int .i64 0, .int .i64 0]) ?_ 1 _ rfl; (with_reducible repeat (first | refine blk_drewN ?_ _ | refine blk_drew ?_ | refine blk_alloc ?_ _)); refine blk_put (cs := #[.int .i64 0, .int .i64 0, .int .i64 0, .int .i64 0, .int .i64 0]) ?_ 0 _ rfl; (with_reducible repeat (first | refine blk_drewN ?_ _ | refine blk_drew ?_ | refine blk_alloc ?_ _)); exact BK122.out⟩
                have n1_ : Aside0 (Below w.heap.size w (((((w10.setCell ⟨gb122, 0, none⟩ (.int .i64 ((rd_T91 l1 x5_2).f0))).setCell ⟨gb122, 1, none⟩ (.int .i64 ((rd_T91 l1 x5_2).f1))).setCell ⟨gb122, 2, none⟩ (.int .i64 ((rd_T91 l1 x5_2).f2))).setCell ⟨gb122, 3, none⟩ (.int .i64 ((rd_T91 l1 x5_2).f3))).setCell ⟨gb122, 4, none⟩ (.int .i64 ((rd_T91 l1 x5_2).f4)))) := ⟨by repeat (first | (with_reducible first | exact HB.out | apply below_alloc | apply pw_below_drewN | apply below_drew1 | refine below_set ?_ GE122.out) | exact HB.out)⟩
                (try clear BK122)
                (try clear HB)
                generalize (((((w10.setCell ⟨gb122, 0, none⟩ (.int .i64 ((rd_T91 l1 x5_2).f0))).setCell ⟨gb122, 1, none⟩ (.int .i64 ((rd_T91 l1 x5_2).f1))).setCell ⟨gb122, 2, none⟩ (.int .i64 ((rd_T91 l1 x5_2).f2))).setCell ⟨gb122, 3, none⟩ (.int .i64 ((rd_T91 l1 x5_2).f3))).setCell ⟨gb122, 4, none⟩ (.int .i64 ((rd_T91 l1 x5_2).f4))) = w61 at n0_ n1_ ⊢
                have BK122 := n0_
                have HB := n1_
                clear n0_ n1_
                have n0_ := Aside0.mk (blk_drew BK122.out)
                have n1_ := Aside0.mk (below_drew1 HB.out)
                clear BK122
                clear HB
                have BK122 := n0_
                have HB := n1_
                clear n0_ n1_
                refine start_ (n := 64) (S := fun w' => w'.cell? ⟨gb122, 0, none⟩ = some (.int .i64 ((rd_T91 l1 x5_2).f0)) ∧ w'.cell? ⟨gb122, 1, none⟩ = some (.int .i64 ((rd_T91 l1 x5_2).f1)) ∧ w'.cell? ⟨gb122, 2, none⟩ = some (.int .i64 ((rd_T91 l1 x5_2).f2)) ∧ w'.cell? ⟨gb122, 3, none⟩ = some (.int .i64 ((rd_T91 l1 x5_2).f3)) ∧ w'.cell? ⟨gb122, 4, none⟩ = some (.int .i64 ((rd_T91 l1 x5_2).f4))) (ds := []) spec_CallsOk.v0 (by kernel_rfl) rfl rfl ⟨(blk_cell BK122.out 0).trans rfl, (blk_cell BK122.out 1).trans rfl, (blk_cell BK122.out 2).trans rfl, (blk_cell BK122.out 3).trans rfl, (blk_cell BK122.out 4).trans rfl⟩ (fun hHeld => ?_); refine with_tabW spec_CallsOk.tab7 spec_CallsOk.bits7 (fun HT_ HW_ => ?_)
                generalize w61.drew = w62 at BK122 HB hHeld ⊢
                refine Sk.pq 0 25 spec_CallsOk.v1 HT_.out (h := ?_)
                refine Sk.tk5 1 26 spec_CallsOk.v2 HT_.out HW_.out hHeld (h := ?_)
                refine one_ (i := 2) (N := some 27) spec_CallsOk.v3 rfl rfl (one_of HT_.out (by kernel_rfl)) (by decide) (fun K hK => ?_)
                refine goes_ Try.func51 (by kernel_rfl) rfl #[.int .i64 ((rd_T91 l1 x5_2).f0), .int .i64 1, .int .i64 1000000] (by rfl) rfl rfl (by (try simp only [List.map_toArray, List.map_cons, List.map_nil]); first | done | rfl | (simp only [List.length_drop, List.length_take]; rfl)) ?_
                with_reducible refine (spec_l1In.calls ((rd_T91 l1 x5_2).f0) 1 1000000 true _ A12.out).mono ?_
                rintro e w' ⟨rfl, ⟨nd, rfl⟩⟩
                refine ⟨_, rfl, ?_⟩
                refine hK.out _ _ ⟨(blk_cell BK122.out 0).trans rfl, (blk_cell BK122.out 1).trans rfl, (blk_cell BK122.out 2).trans rfl, (blk_cell BK122.out 3).trans rfl, (blk_cell BK122.out 4).trans rfl⟩ (fun hHeld => ?_)
                clear hK K
                refine Sk.nm 27 (h := ?_)
                refine Sk.pq 3 28 spec_CallsOk.v4 HT_.out (h := ?_)
                refine Sk.pq 4 29 spec_CallsOk.v5 HT_.out (h := ?_)
                refine Sk.pq 5 30 spec_CallsOk.v6 HT_.out (h := ?_)
                refine Sk.pq 6 31 spec_CallsOk.v7 HT_.out (h := ?_)
                refine Sk.pq 7 32 spec_CallsOk.v8 HT_.out (h := ?_)
                refine Sk.pu 8 33 spec_CallsOk.v9 HT_.out (h := ?_)
                refine Sk.pu 9 34 spec_CallsOk.v10 HT_.out (h := ?_)
                refine Sk.pu 10 35 spec_CallsOk.v11 HT_.out (h := ?_)
                refine Sk.pu 11 36 spec_CallsOk.v12 HT_.out (h := ?_)
                refine Sk.pu 12 37 spec_CallsOk.v13 HT_.out (h := ?_)
                refine Sk.pu 13 38 spec_CallsOk.v70 HT_.out (h := ?_)
                refine Sk.pu 14 39 spec_CallsOk.v15 HT_.out (h := ?_)
                refine Sk.pu 15 40 spec_CallsOk.v16 HT_.out (h := ?_)
                refine Sk.pu 16 41 spec_CallsOk.v17 HT_.out (h := ?_)
                refine Sk.pq 17 42 spec_CallsOk.v18 HT_.out (h := ?_)
                refine Sk.pq 18 43 spec_CallsOk.v19 HT_.out (h := ?_)
                refine Sk.pq 19 44 spec_CallsOk.v20 HT_.out (h := ?_)
                refine Sk.pq 20 45 spec_CallsOk.v21 HT_.out (h := ?_)
                refine Sk.tk5 21 46 spec_CallsOk.v22 HT_.out HW_.out hHeld (h := ?_)
                refine one_ (i := 22) (N := some 47) spec_CallsOk.v23 rfl rfl (one_of HT_.out (by kernel_rfl)) (by decide) (fun K hK => ?_)
                refine goes_ Try.func51 (by kernel_rfl) rfl #[.int .i64 ((rd_T91 l1 x5_2).f1), .int .i64 1, .int .i64 1000] (by rfl) rfl rfl (by (try simp only [List.map_toArray, List.map_cons, List.map_nil]); first | done | rfl | (simp only [List.length_drop, List.length_take]; rfl)) ?_
                with_reducible refine (spec_l1In.calls ((rd_T91 l1 x5_2).f1) 1 1000 true _ A45.out).mono ?_
                rintro e w' ⟨rfl, ⟨nd, rfl⟩⟩
                refine ⟨_, rfl, ?_⟩
                refine hK.out _ _ ⟨(blk_cell BK122.out 0).trans rfl, (blk_cell BK122.out 1).trans rfl, (blk_cell BK122.out 2).trans rfl, (blk_cell BK122.out 3).trans rfl, (blk_cell BK122.out 4).trans rfl⟩ (fun hHeld => ?_)
                clear hK K
                refine Sk.nm 47 (h := ?_)
                refine Sk.pq 23 48 spec_CallsOk.v24 HT_.out (h := ?_)
                refine Sk.pq 24 49 spec_CallsOk.v25 HT_.out (h := ?_)
                refine Sk.pq 25 50 spec_CallsOk.v26 HT_.out (h := ?_)
                refine Sk.pq 26 51 spec_CallsOk.v27 HT_.out (h := ?_)
                refine Sk.tk5 27 52 spec_CallsOk.v28 HT_.out HW_.out hHeld (h := ?_)
                refine one_ (i := 28) (N := some 53) spec_CallsOk.v29 rfl rfl (one_of HT_.out (by kernel_rfl)) (by decide) (fun K hK => ?_)
                refine goes_ Try.func102 (by kernel_rfl) rfl #[.int .i64 ((rd_T91 l1 x5_2).f2)] (by rfl) rfl rfl (by (try simp only [List.map_toArray, List.map_cons, List.map_nil]); first | done | rfl | (simp only [List.length_drop, List.length_take]; rfl)) ?_
                with_reducible refine (spec_l1Minute.calls ((rd_T91 l1 x5_2).f2) true _ A47.out).mono ?_
                rintro e w' ⟨rfl, ⟨nd, rfl⟩⟩
                refine ⟨_, rfl, ?_⟩
                refine hK.out _ _ ⟨(blk_cell BK122.out 0).trans rfl, (blk_cell BK122.out 1).trans rfl, (blk_cell BK122.out 2).trans rfl, (blk_cell BK122.out 3).trans rfl, (blk_cell BK122.out 4).trans rfl⟩ (fun hHeld => ?_)
                clear hK K
                refine Sk.nm 53 (h := ?_)
                refine Sk.pq 29 54 spec_CallsOk.v30 HT_.out (h := ?_)
                refine Sk.pq 30 55 spec_CallsOk.v31 HT_.out (h := ?_)
                refine Sk.pq 31 56 spec_CallsOk.v32 HT_.out (h := ?_)
                refine Sk.pq 32 57 spec_CallsOk.v33 HT_.out (h := ?_)
                refine Sk.tk5 33 58 spec_CallsOk.v34 HT_.out HW_.out hHeld (h := ?_)
                refine one_ (i := 34) (N := some 59) spec_CallsOk.v35 rfl rfl (one_of HT_.out (by kernel_rfl)) (by decide) (fun K hK => ?_)
                refine goes_ Try.func102 (by kernel_rfl) rfl #[.int .i64 ((rd_T91 l1 x5_2).f3)] (by rfl) rfl rfl (by (try simp only [List.map_toArray, List.map_cons, List.map_nil]); first | done | rfl | (simp only [List.length_drop, List.length_take]; rfl)) ?_
                with_reducible refine (spec_l1Minute.calls ((rd_T91 l1 x5_2).f3) true _ A49.out).mono ?_
                rintro e w' ⟨rfl, ⟨nd, rfl⟩⟩
                refine ⟨_, rfl, ?_⟩
                refine hK.out _ _ ⟨(blk_cell BK122.out 0).trans rfl, (blk_cell BK122.out 1).trans rfl, (blk_cell BK122.out 2).trans rfl, (blk_cell BK122.out 3).trans rfl, (blk_cell BK122.out 4).trans rfl⟩ (fun hHeld => ?_)
                clear hK K
                refine Sk.nm 59 (h := ?_)
                refine Sk.pq 35 60 spec_CallsOk.v36 HT_.out (h := ?_)
                refine Sk.pq 36 61 spec_CallsOk.v37 HT_.out (h := ?_)
                refine Sk.pq 37 62 spec_CallsOk.v38 HT_.out (h := ?_)
                refine Sk.pq 38 63 spec_CallsOk.v39 HT_.out (h := ?_)
                refine Sk.pq 40 65 spec_CallsOk.v65 HT_.out (h := ?_)
                refine Sk.tk5 39 64 spec_CallsOk.v41 HT_.out HW_.out hHeld (h := ?_)
                refine Sk.tk5 41 66 spec_CallsOk.v42 HT_.out HW_.out hHeld (h := ?_)
                refine Sk.pq 42 67 spec_CallsOk.v43 HT_.out (h := ?_)
                refine Sk.pq 43 68 spec_CallsOk.v44 HT_.out (h := ?_)
                refine Sk.pq 44 69 spec_CallsOk.v45 HT_.out (h := ?_)
                refine Sk.pq 45 70 spec_CallsOk.v46 HT_.out (h := ?_)
                refine Sk.tk5 46 71 spec_CallsOk.v47 HT_.out HW_.out hHeld (h := ?_)
                refine one_ (i := 47) (N := some 72) spec_CallsOk.v48 rfl rfl (one_of HT_.out (by kernel_rfl)) (by decide) (fun K hK => ?_)
                refine goes_ Try.func51 (by kernel_rfl) rfl #[.int .i64 ((rd_T91 l1 x5_2).f4), .int .i64 (-1), .int .i64 1000] (by rfl) rfl rfl (by (try simp only [List.map_toArray, List.map_cons, List.map_nil]); first | done | rfl | (simp only [List.length_drop, List.length_take]; rfl)) ?_
                with_reducible refine (spec_l1In.calls ((rd_T91 l1 x5_2).f4) (-1) 1000 false _ A54.out).mono ?_
                rintro e w' ⟨rfl, ⟨nd, rfl⟩⟩
                refine ⟨_, rfl, ?_⟩
                refine hK.out _ _ ⟨(blk_cell BK122.out 0).trans rfl, (blk_cell BK122.out 1).trans rfl, (blk_cell BK122.out 2).trans rfl, (blk_cell BK122.out 3).trans rfl, (blk_cell BK122.out 4).trans rfl⟩ (fun hHeld => ?_)
                clear hK K
                refine Sk.nm 72 (h := ?_)
                refine Sk.pq 48 73 spec_CallsOk.v49 HT_.out (h := ?_)
                refine Sk.pq 49 74 spec_CallsOk.v50 HT_.out (h := ?_)
                refine Sk.pq 50 75 spec_CallsOk.v51 HT_.out (h := ?_)
                refine Sk.pu 51 76 spec_CallsOk.v52 HT_.out (h := ?_)
                refine Sk.pu 52 77 spec_CallsOk.v53 HT_.out (h := ?_)
                refine Sk.pu 53 78 spec_CallsOk.v54 HT_.out (h := ?_)
                refine Sk.pu 54 79 spec_CallsOk.v55 HT_.out (h := ?_)
                refine Sk.pu 55 80 spec_CallsOk.v56 HT_.out (h := ?_)
                refine Sk.pu 56 81 spec_CallsOk.v57 HT_.out (h := ?_)
                refine Sk.pu 57 82 spec_CallsOk.v58 HT_.out (h := ?_)
                refine Sk.pu 58 83 spec_CallsOk.v59 HT_.out (h := ?_)
                refine Sk.pu 59 84 spec_CallsOk.v60 HT_.out (h := ?_)
                refine Sk.pu 60 85 spec_CallsOk.v61 HT_.out (h := ?_)
                refine Sk.pu 61 86 spec_CallsOk.v62 HT_.out (h := ?_)
                refine Sk.pu 62 87 spec_CallsOk.v63 HT_.out (h := ?_)
                refine Sk.pq 63 88 spec_CallsOk.v64 HT_.out (h := ?_)
                refine done_ (done_of HT_.out (by kernel_rfl)) ?_
                try go_wp2
                go_meet
                case rel => exact ⟨_, (true), (by first | rfl | (simp; done) | (simp [*]; done)), H', ⟨by have := HJ2.out; have := HK2.out; first | omega | exact Nat.le_refl _⟩, ⟨by (with_reducible repeat (first | refine blk_drewN ?_ _ | refine blk_drew ?_ | refine blk_alloc ?_ _)); exact BK122.out⟩, ⟨by repeat (first | (with_reducible first | exact HB.out | apply below_alloc | apply pw_below_drewN | apply below_drew1 | refine below_set ?_ GE122.out) | exact HB.out)⟩⟩
             ·replace c50 := Bool.eq_false_iff.mpr c50
              subst c50
              rw [if_neg (show ¬ (false = true) by decide)] at H
              have H' := Aside0.mk H
              clear H
              try go_wp2
              have n0_ : Aside0 ((((((w10.setCell ⟨gb122, 0, none⟩ (.int .i64 ((rd_T91 l1 x5_2).f0))).setCell ⟨gb122, 1, none⟩ (.int .i64 ((rd_T91 l1 x5_2).f1))).setCell ⟨gb122, 2, none⟩ (.int .i64 ((rd_T91 l1 x5_2).f2))).setCell ⟨gb122, 3, none⟩ (.int .i64 ((rd_T91 l1 x5_2).f3))).setCell ⟨gb122, 4, none⟩ (.int .i64 ((rd_T91 l1 x5_2).f4))).heap[gb122]? = some (.cells #[.int .i64 ((rd_T91 l1 x5_2).f0), .int .i64 ((rd_T91 l1 x5_2).f1), .int .i64 ((rd_T91 l1 x5_2).f2), .int .i64 ((rd_T91 l1 x5_2).f3), .int .i64 ((rd_T91 l1 x5_2).f4)] 91 (0, 0))) := ⟨by (with_reducible repeat (first | refine blk_drewN ?_ _ | refine blk_drew ?_ | refine blk_alloc ?_ _)); refine blk_put (cs := #[.int .i64 ((rd_T91 l1 x5_2).f0), .int .i64 ((rd_T91 l1 x5_2).f1), .int .i64 ((rd_T91 l1 x5_2).f2), .int .i64 ((rd_T91 l1 x5_2).f3), .int .i64 0]) ?_ 4 _ rfl; (with_reducible repeat (first | refine blk_drewN ?_ _ | refine blk_drew ?_ | refine blk_alloc ?_ _)); refine blk_put (cs := #[.int .i64 ((rd_T91 l1 x5_2).f0), .int .i64 ((rd_T91 l1 x5_2).f1), .int .i64 ((rd_T91 l1 x5_2).f2), .int .i64 0, .int .i64 0]) ?_ 3 _ rfl; (with_reducible repeat (first | refine blk_drewN ?_ _ | refine blk_drew ?_ | refine blk_alloc ?_ _)); refine blk_put (cs := #[.int .i64 ((rd_T91 l1 x5_2).f0), .int .i64 ((rd_T91 l1 x5_2).f1), .int .i64 0, .int .i64 0, .int .i64 0]) ?_ 2 _ rfl; (with_reducible repeat (first | refine blk_drewN ?_ _ | refine blk_drew ?_ | refine blk_alloc ?_ _)); refine blk_put (cs := #[.int .i64 ((rd_T91 l1 x5_2).f0), .int .i64 0, .int .i64 0, .int .i64 0, .int .i64 0]) ?_ 1 _ rfl; (with_reducible repeat (first | refine blk_drewN ?_ _ | refine blk_drew ?_ | refine blk_alloc ?_ _)); refine blk_put (cs := #[.int .i64 0, .int .i64 0, .int .i64 0, .int .i64 0, .int .i64 0]) ?_ 0 _ rfl; (with_reducible repeat (first | refine blk_drewN ?_ _ | refine blk_drew ?_ | refine blk_alloc ?_ _)); exact BK122.out⟩
              have n1_ : Aside0 (Below w.heap.size w (((((w10.setCell ⟨gb122, 0, none⟩ (.int .i64 ((rd_T91 l1 x5_2).f0))).setCell ⟨gb122, 1, none⟩ (.int .i64 ((rd_T91 l1 x5_2).f1))).setCell ⟨gb122, 2, none⟩ (.int .i64 ((rd_T91 l1 x5_2).f2))).setCell ⟨gb122, 3, none⟩ (.int .i64 ((rd_T91 l1 x5_2).f3))).setCell ⟨gb122, 4, none⟩ (.int .i64 ((rd_T91 l1 x5_2).f4)))) := ⟨by repeat (first | (with_reducible first | exact HB.out | apply below_alloc | apply pw_below_drewN | apply below_drew1 | refine below_set ?_ GE122.out) | exact HB.out)⟩
              (try clear BK122)
              (try clear HB)
              generalize (((((w10.setCell ⟨gb122, 0, none⟩ (.int .i64 ((rd_T91 l1 x5_2).f0))).setCell ⟨gb122, 1, none⟩ (.int .i64 ((rd_T91 l1 x5_2).f1))).setCell ⟨gb122, 2, none⟩ (.int .i64 ((rd_T91 l1 x5_2).f2))).setCell ⟨gb122, 3, none⟩ (.int .i64 ((rd_T91 l1 x5_2).f3))).setCell ⟨gb122, 4, none⟩ (.int .i64 ((rd_T91 l1 x5_2).f4))) = w63 at n0_ n1_ ⊢
              have BK122 := n0_
              have HB := n1_
              clear n0_ n1_
              have n0_ := Aside0.mk (blk_drew BK122.out)
              have n1_ := Aside0.mk (below_drew1 HB.out)
              clear BK122
              clear HB
              have BK122 := n0_
              have HB := n1_
              clear n0_ n1_
              refine start_ (n := 64) (S := fun w' => w'.cell? ⟨gb122, 0, none⟩ = some (.int .i64 ((rd_T91 l1 x5_2).f0)) ∧ w'.cell? ⟨gb122, 1, none⟩ = some (.int .i64 ((rd_T91 l1 x5_2).f1)) ∧ w'.cell? ⟨gb122, 2, none⟩ = some (.int .i64 ((rd_T91 l1 x5_2).f2)) ∧ w'.cell? ⟨gb122, 3, none⟩ = some (.int .i64 ((rd_T91 l1 x5_2).f3)) ∧ w'.cell? ⟨gb122, 4, none⟩ = some (.int .i64 ((rd_T91 l1 x5_2).f4))) (ds := []) spec_CallsOk.v0 (by kernel_rfl) rfl rfl ⟨(blk_cell BK122.out 0).trans rfl, (blk_cell BK122.out 1).trans rfl, (blk_cell BK122.out 2).trans rfl, (blk_cell BK122.out 3).trans rfl, (blk_cell BK122.out 4).trans rfl⟩ (fun hHeld => ?_); refine with_tabW spec_CallsOk.tab7 spec_CallsOk.bits7 (fun HT_ HW_ => ?_)
              generalize w63.drew = w64 at BK122 HB hHeld ⊢
              refine Sk.pq 0 25 spec_CallsOk.v1 HT_.out (h := ?_)
              refine Sk.tk5 1 26 spec_CallsOk.v2 HT_.out HW_.out hHeld (h := ?_)
              refine one_ (i := 2) (N := some 27) spec_CallsOk.v3 rfl rfl (one_of HT_.out (by kernel_rfl)) (by decide) (fun K hK => ?_)
              refine goes_ Try.func51 (by kernel_rfl) rfl #[.int .i64 ((rd_T91 l1 x5_2).f0), .int .i64 1, .int .i64 1000000] (by rfl) rfl rfl (by (try simp only [List.map_toArray, List.map_cons, List.map_nil]); first | done | rfl | (simp only [List.length_drop, List.length_take]; rfl)) ?_
              with_reducible refine (spec_l1In.calls ((rd_T91 l1 x5_2).f0) 1 1000000 true _ A12.out).mono ?_
              rintro e w' ⟨rfl, ⟨nd, rfl⟩⟩
              refine ⟨_, rfl, ?_⟩
              refine hK.out _ _ ⟨(blk_cell BK122.out 0).trans rfl, (blk_cell BK122.out 1).trans rfl, (blk_cell BK122.out 2).trans rfl, (blk_cell BK122.out 3).trans rfl, (blk_cell BK122.out 4).trans rfl⟩ (fun hHeld => ?_)
              clear hK K
              refine Sk.nm 27 (h := ?_)
              refine Sk.pq 3 28 spec_CallsOk.v4 HT_.out (h := ?_)
              refine Sk.pq 4 29 spec_CallsOk.v5 HT_.out (h := ?_)
              refine Sk.pq 5 30 spec_CallsOk.v6 HT_.out (h := ?_)
              refine Sk.pq 6 31 spec_CallsOk.v7 HT_.out (h := ?_)
              refine Sk.pq 7 32 spec_CallsOk.v8 HT_.out (h := ?_)
              refine Sk.pu 8 33 spec_CallsOk.v9 HT_.out (h := ?_)
              refine Sk.pu 9 34 spec_CallsOk.v10 HT_.out (h := ?_)
              refine Sk.pu 10 35 spec_CallsOk.v11 HT_.out (h := ?_)
              refine Sk.pu 11 36 spec_CallsOk.v12 HT_.out (h := ?_)
              refine Sk.pu 12 37 spec_CallsOk.v13 HT_.out (h := ?_)
              refine Sk.pu 13 38 spec_CallsOk.v70 HT_.out (h := ?_)
              refine Sk.pu 14 39 spec_CallsOk.v15 HT_.out (h := ?_)
              refine Sk.pu 15 40 spec_CallsOk.v16 HT_.out (h := ?_)
              refine Sk.pu 16 41 spec_CallsOk.v17 HT_.out (h := ?_)
              refine Sk.pq 17 42 spec_CallsOk.v18 HT_.out (h := ?_)
              refine Sk.pq 18 43 spec_CallsOk.v19 HT_.out (h := ?_)
              refine Sk.pq 19 44 spec_CallsOk.v20 HT_.out (h := ?_)
              refine Sk.pq 20 45 spec_CallsOk.v21 HT_.out (h := ?_)
              refine Sk.tk5 21 46 spec_CallsOk.v22 HT_.out HW_.out hHeld (h := ?_)
              refine one_ (i := 22) (N := some 47) spec_CallsOk.v23 rfl rfl (one_of HT_.out (by kernel_rfl)) (by decide) (fun K hK => ?_)
              refine goes_ Try.func51 (by kernel_rfl) rfl #[.int .i64 ((rd_T91 l1 x5_2).f1), .int .i64 1, .int .i64 1000] (by rfl) rfl rfl (by (try simp only [List.map_toArray, List.map_cons, List.map_nil]); first | done | rfl | (simp only [List.length_drop, List.length_take]; rfl)) ?_
              with_reducible refine (spec_l1In.calls ((rd_T91 l1 x5_2).f1) 1 1000 true _ A45.out).mono ?_
              rintro e w' ⟨rfl, ⟨nd, rfl⟩⟩
              refine ⟨_, rfl, ?_⟩
              refine hK.out _ _ ⟨(blk_cell BK122.out 0).trans rfl, (blk_cell BK122.out 1).trans rfl, (blk_cell BK122.out 2).trans rfl, (blk_cell BK122.out 3).trans rfl, (blk_cell BK122.out 4).trans rfl⟩ (fun hHeld => ?_)
              clear hK K
              refine Sk.nm 47 (h := ?_)
              refine Sk.pq 23 48 spec_CallsOk.v24 HT_.out (h := ?_)
              refine Sk.pq 24 49 spec_CallsOk.v25 HT_.out (h := ?_)
              refine Sk.pq 25 50 spec_CallsOk.v26 HT_.out (h := ?_)
              refine Sk.pq 26 51 spec_CallsOk.v27 HT_.out (h := ?_)
              refine Sk.tk5 27 52 spec_CallsOk.v28 HT_.out HW_.out hHeld (h := ?_)
              refine one_ (i := 28) (N := some 53) spec_CallsOk.v29 rfl rfl (one_of HT_.out (by kernel_rfl)) (by decide) (fun K hK => ?_)
              refine goes_ Try.func102 (by kernel_rfl) rfl #[.int .i64 ((rd_T91 l1 x5_2).f2)] (by rfl) rfl rfl (by (try simp only [List.map_toArray, List.map_cons, List.map_nil]); first | done | rfl | (simp only [List.length_drop, List.length_take]; rfl)) ?_
              with_reducible refine (spec_l1Minute.calls ((rd_T91 l1 x5_2).f2) true _ A47.out).mono ?_
              rintro e w' ⟨rfl, ⟨nd, rfl⟩⟩
              refine ⟨_, rfl, ?_⟩
              refine hK.out _ _ ⟨(blk_cell BK122.out 0).trans rfl, (blk_cell BK122.out 1).trans rfl, (blk_cell BK122.out 2).trans rfl, (blk_cell BK122.out 3).trans rfl, (blk_cell BK122.out 4).trans rfl⟩ (fun hHeld => ?_)
              clear hK K
              refine Sk.nm 53 (h := ?_)
              refine Sk.pq 29 54 spec_CallsOk.v30 HT_.out (h := ?_)
              refine Sk.pq 30 55 spec_CallsOk.v31 HT_.out (h := ?_)
              refine Sk.pq 31 56 spec_CallsOk.v32 HT_.out (h := ?_)
              refine Sk.pq 32 57 spec_CallsOk.v33 HT_.out (h := ?_)
              refine Sk.tk5 33 58 spec_CallsOk.v34 HT_.out HW_.out hHeld (h := ?_)
              refine one_ (i := 34) (N := some 59) spec_CallsOk.v35 rfl rfl (one_of HT_.out (by kernel_rfl)) (by decide) (fun K hK => ?_)
              refine goes_ Try.func102 (by kernel_rfl) rfl #[.int .i64 ((rd_T91 l1 x5_2).f3)] (by rfl) rfl rfl (by (try simp only [List.map_toArray, List.map_cons, List.map_nil]); first | done | rfl | (simp only [List.length_drop, List.length_take]; rfl)) ?_
              with_reducible refine (spec_l1Minute.calls ((rd_T91 l1 x5_2).f3) false _ A49.out).mono ?_
              rintro e w' ⟨rfl, ⟨nd, rfl⟩⟩
              refine ⟨_, rfl, ?_⟩
              refine hK.out _ _ ⟨(blk_cell BK122.out 0).trans rfl, (blk_cell BK122.out 1).trans rfl, (blk_cell BK122.out 2).trans rfl, (blk_cell BK122.out 3).trans rfl, (blk_cell BK122.out 4).trans rfl⟩ (fun hHeld => ?_)
              clear hK K
              refine Sk.nm 59 (h := ?_)
              refine Sk.pq 35 60 spec_CallsOk.v36 HT_.out (h := ?_)
              refine Sk.pq 36 61 spec_CallsOk.v37 HT_.out (h := ?_)
              refine Sk.pq 37 62 spec_CallsOk.v38 HT_.out (h := ?_)
              refine Sk.pu 38 63 spec_CallsOk.v39 HT_.out (h := ?_)
              refine Sk.pu 39 64 spec_CallsOk.v40 HT_.out (h := ?_)
              refine Sk.pu 40 65 spec_CallsOk.v41 HT_.out (h := ?_)
              refine Sk.pu 41 66 spec_CallsOk.v42 HT_.out (h := ?_)
              refine Sk.pu 42 67 spec_CallsOk.v43 HT_.out (h := ?_)
              refine Sk.pq 43 68 spec_CallsOk.v44 HT_.out (h := ?_)
              refine Sk.pq 44 69 spec_CallsOk.v45 HT_.out (h := ?_)
              refine Sk.pu 45 70 spec_CallsOk.v46 HT_.out (h := ?_)
              refine Sk.pu 46 71 spec_CallsOk.v47 HT_.out (h := ?_)
              refine Sk.pu 47 72 spec_CallsOk.v48 HT_.out (h := ?_)
              refine Sk.pu 48 73 spec_CallsOk.v49 HT_.out (h := ?_)
              refine Sk.pq 49 74 spec_CallsOk.v50 HT_.out (h := ?_)
              refine Sk.pq 50 75 spec_CallsOk.v51 HT_.out (h := ?_)
              refine Sk.pu 51 76 spec_CallsOk.v52 HT_.out (h := ?_)
              refine Sk.pu 52 77 spec_CallsOk.v53 HT_.out (h := ?_)
              refine Sk.pu 53 78 spec_CallsOk.v54 HT_.out (h := ?_)
              refine Sk.pu 54 79 spec_CallsOk.v55 HT_.out (h := ?_)
              refine Sk.pu 55 80 spec_CallsOk.v56 HT_.out (h := ?_)
              refine Sk.pu 56 81 spec_CallsOk.v57 HT_.out (h := ?_)
              refine Sk.pu 57 82 spec_CallsOk.v58 HT_.out (h := ?_)
              refine Sk.pu 58 83 spec_CallsOk.v59 HT_.out (h := ?_)
              refine Sk.pu 59 84 spec_CallsOk.v60 HT_.out (h := ?_)
              refine Sk.pu 60 85 spec_CallsOk.v61 HT_.out (h := ?_)
              refine Sk.pu 61 86 spec_CallsOk.v62 HT_.out (h := ?_)
              refine Sk.pu 62 87 spec_CallsOk.v63 HT_.out (h := ?_)
              refine Sk.pq 63 88 spec_CallsOk.v64 HT_.out (h := ?_)
              refine done_ (done_of HT_.out (by kernel_rfl)) ?_
              try go_wp2
              go_meet
              case rel => exact ⟨_, (true), (by first | rfl | (simp; done) | (simp [*]; done)), H', ⟨by have := HJ2.out; have := HK2.out; first | omega | exact Nat.le_refl _⟩, ⟨by (with_reducible repeat (first | refine blk_drewN ?_ _ | refine blk_drew ?_ | refine blk_alloc ?_ _)); exact BK122.out⟩, ⟨by repeat (first | (with_reducible first | exact HB.out | apply below_alloc | apply pw_below_drewN | apply below_drew1 | refine below_set ?_ GE122.out) | exact HB.out)⟩⟩
            ·replace c48 := Bool.eq_false_iff.mpr c48
             subst c48
             rw [if_neg (show ¬ (false = true) by decide)] at H
             have H' := Aside0.mk H
             clear H
             try go_wp2
             have n0_ : Aside0 ((((((w10.setCell ⟨gb122, 0, none⟩ (.int .i64 ((rd_T91 l1 x5_2).f0))).setCell ⟨gb122, 1, none⟩ (.int .i64 ((rd_T91 l1 x5_2).f1))).setCell ⟨gb122, 2, none⟩ (.int .i64 ((rd_T91 l1 x5_2).f2))).setCell ⟨gb122, 3, none⟩ (.int .i64 ((rd_T91 l1 x5_2).f3))).setCell ⟨gb122, 4, none⟩ (.int .i64 ((rd_T91 l1 x5_2).f4))).heap[gb122]? = some (.cells #[.int .i64 ((rd_T91 l1 x5_2).f0), .int .i64 ((rd_T91 l1 x5_2).f1), .int .i64 ((rd_T91 l1 x5_2).f2), .int .i64 ((rd_T91 l1 x5_2).f3), .int .i64 ((rd_T91 l1 x5_2).f4)] 91 (0, 0))) := ⟨by (with_reducible repeat (first | refine blk_drewN ?_ _ | refine blk_drew ?_ | refine blk_alloc ?_ _)); refine blk_put (cs := #[.int .i64 ((rd_T91 l1 x5_2).f0), .int .i64 ((rd_T91 l1 x5_2).f1), .int .i64 ((rd_T91 l1 x5_2).f2), .int .i64 ((rd_T91 l1 x5_2).f3), .int .i64 0]) ?_ 4 _ rfl; (with_reducible repeat (first | refine blk_drewN ?_ _ | refine blk_drew ?_ | refine blk_alloc ?_ _)); refine blk_put (cs := #[.int .i64 ((rd_T91 l1 x5_2).f0), .int .i64 ((rd_T91 l1 x5_2).f1), .int .i64 ((rd_T91 l1 x5_2).f2), .int .i64 0, .int .i64 0]) ?_ 3 _ rfl; (with_reducible repeat (first | refine blk_drewN ?_ _ | refine blk_drew ?_ | refine blk_alloc ?_ _)); refine blk_put (cs := #[.int .i64 ((rd_T91 l1 x5_2).f0), .int .i64 ((rd_T91 l1 x5_2).f1), .int .i64 0, .int .i64 0, .int .i64 0]) ?_ 2 _ rfl; (with_reducible repeat (first | refine blk_drewN ?_ _ | refine blk_drew ?_ | refine blk_alloc ?_ _)); refine blk_put (cs := #[.int .i64 ((rd_T91 l1 x5_2).f0), .int .i64 0, .int .i64 0, .int .i64 0, .int .i64 0]) ?_ 1 _ rfl; (with_reducible repeat (first | refine blk_drewN ?_ _ | refine blk_drew ?_ | refine blk_alloc ?_ _)); refine blk_put (cs := #[.int .i64 0, .int .i64 0, .int .i64 0, .int .i64 0, .int .i64 0]) ?_ 0 _ rfl; (with_reducible repeat (first | refine blk_drewN ?_ _ | refine blk_drew ?_ | refine blk_alloc ?_ _)); exact BK122.out⟩
             have n1_ : Aside0 (Below w.heap.size w (((((w10.setCell ⟨gb122, 0, none⟩ (.int .i64 ((rd_T91 l1 x5_2).f0))).setCell ⟨gb122, 1, none⟩ (.int .i64 ((rd_T91 l1 x5_2).f1))).setCell ⟨gb122, 2, none⟩ (.int .i64 ((rd_T91 l1 x5_2).f2))).setCell ⟨gb122, 3, none⟩ (.int .i64 ((rd_T91 l1 x5_2).f3))).setCell ⟨gb122, 4, none⟩ (.int .i64 ((rd_T91 l1 x5_2).f4)))) := ⟨by repeat (first | (with_reducible first | exact HB.out | apply below_alloc | apply pw_below_drewN | apply below_drew1 | refine below_set ?_ GE122.out) | exact HB.out)⟩
             (try clear BK122)
             (try clear HB)
             generalize (((((w10.setCell ⟨gb122, 0, none⟩ (.int .i64 ((rd_T91 l1 x5_2).f0))).setCell ⟨gb122, 1, none⟩ (.int .i64 ((rd_T91 l1 x5_2).f1))).setCell ⟨gb122, 2, none⟩ (.int .i64 ((rd_T91 l1 x5_2).f2))).setCell ⟨gb122, 3, none⟩ (.int .i64 ((rd_T91 l1 x5_2).f3))).setCell ⟨gb122, 4, none⟩ (.int .i64 ((rd_T91 l1 x5_2).f4))) = w65 at n0_ n1_ ⊢
             have BK122 := n0_
             have HB := n1_
             clear n0_ n1_
             have n0_ := Aside0.mk (blk_drew BK122.out)
             have n1_ := Aside0.mk (below_drew1 HB.out)
             clear BK122
             clear HB
             have BK122 := n0_
             have HB := n1_
             clear n0_ n1_
             refine start_ (n := 64) (S := fun w' => w'.cell? ⟨gb122, 0, none⟩ = some (.int .i64 ((rd_T91 l1 x5_2).f0)) ∧ w'.cell? ⟨gb122, 1, none⟩ = some (.int .i64 ((rd_T91 l1 x5_2).f1)) ∧ w'.cell? ⟨gb122, 2, none⟩ = some (.int .i64 ((rd_T91 l1 x5_2).f2)) ∧ w'.cell? ⟨gb122, 3, none⟩ = some (.int .i64 ((rd_T91 l1 x5_2).f3)) ∧ w'.cell? ⟨gb122, 4, none⟩ = some (.int .i64 ((rd_T91 l1 x5_2).f4))) (ds := []) spec_CallsOk.v0 (by kernel_rfl) rfl rfl ⟨(blk_cell BK122.out 0).trans rfl, (blk_cell BK122.out 1).trans rfl, (blk_cell BK122.out 2).trans rfl, (blk_cell BK122.out 3).trans rfl, (blk_cell BK122.out 4).trans rfl⟩ (fun hHeld => ?_); refine with_tabW spec_CallsOk.tab7 spec_CallsOk.bits7 (fun HT_ HW_ => ?_)
             generalize w65.drew = w66 at BK122 HB hHeld ⊢
             refine Sk.pq 0 25 spec_CallsOk.v1 HT_.out (h := ?_)
             refine Sk.tk5 1 26 spec_CallsOk.v2 HT_.out HW_.out hHeld (h := ?_)
             refine one_ (i := 2) (N := some 27) spec_CallsOk.v3 rfl rfl (one_of HT_.out (by kernel_rfl)) (by decide) (fun K hK => ?_)
             refine goes_ Try.func51 (by kernel_rfl) rfl #[.int .i64 ((rd_T91 l1 x5_2).f0), .int .i64 1, .int .i64 1000000] (by rfl) rfl rfl (by (try simp only [List.map_toArray, List.map_cons, List.map_nil]); first | done | rfl | (simp only [List.length_drop, List.length_take]; rfl)) ?_
             with_reducible refine (spec_l1In.calls ((rd_T91 l1 x5_2).f0) 1 1000000 true _ A12.out).mono ?_
             rintro e w' ⟨rfl, ⟨nd, rfl⟩⟩
             refine ⟨_, rfl, ?_⟩
             refine hK.out _ _ ⟨(blk_cell BK122.out 0).trans rfl, (blk_cell BK122.out 1).trans rfl, (blk_cell BK122.out 2).trans rfl, (blk_cell BK122.out 3).trans rfl, (blk_cell BK122.out 4).trans rfl⟩ (fun hHeld => ?_)
             clear hK K
             refine Sk.nm 27 (h := ?_)
             refine Sk.pq 3 28 spec_CallsOk.v4 HT_.out (h := ?_)
             refine Sk.pq 4 29 spec_CallsOk.v5 HT_.out (h := ?_)
             refine Sk.pq 5 30 spec_CallsOk.v6 HT_.out (h := ?_)
             refine Sk.pq 6 31 spec_CallsOk.v7 HT_.out (h := ?_)
             refine Sk.pq 7 32 spec_CallsOk.v8 HT_.out (h := ?_)
             refine Sk.pu 8 33 spec_CallsOk.v9 HT_.out (h := ?_)
             refine Sk.pu 9 34 spec_CallsOk.v10 HT_.out (h := ?_)
             refine Sk.pu 10 35 spec_CallsOk.v11 HT_.out (h := ?_)
             refine Sk.pu 11 36 spec_CallsOk.v12 HT_.out (h := ?_)
             refine Sk.pu 12 37 spec_CallsOk.v13 HT_.out (h := ?_)
             refine Sk.pu 13 38 spec_CallsOk.v70 HT_.out (h := ?_)
             refine Sk.pu 14 39 spec_CallsOk.v15 HT_.out (h := ?_)
             refine Sk.pu 15 40 spec_CallsOk.v16 HT_.out (h := ?_)
             refine Sk.pu 16 41 spec_CallsOk.v17 HT_.out (h := ?_)
             refine Sk.pq 17 42 spec_CallsOk.v18 HT_.out (h := ?_)
             refine Sk.pq 18 43 spec_CallsOk.v19 HT_.out (h := ?_)
             refine Sk.pq 19 44 spec_CallsOk.v20 HT_.out (h := ?_)
             refine Sk.pq 20 45 spec_CallsOk.v21 HT_.out (h := ?_)
             refine Sk.tk5 21 46 spec_CallsOk.v22 HT_.out HW_.out hHeld (h := ?_)
             refine one_ (i := 22) (N := some 47) spec_CallsOk.v23 rfl rfl (one_of HT_.out (by kernel_rfl)) (by decide) (fun K hK => ?_)
             refine goes_ Try.func51 (by kernel_rfl) rfl #[.int .i64 ((rd_T91 l1 x5_2).f1), .int .i64 1, .int .i64 1000] (by rfl) rfl rfl (by (try simp only [List.map_toArray, List.map_cons, List.map_nil]); first | done | rfl | (simp only [List.length_drop, List.length_take]; rfl)) ?_
             with_reducible refine (spec_l1In.calls ((rd_T91 l1 x5_2).f1) 1 1000 true _ A45.out).mono ?_
             rintro e w' ⟨rfl, ⟨nd, rfl⟩⟩
             refine ⟨_, rfl, ?_⟩
             refine hK.out _ _ ⟨(blk_cell BK122.out 0).trans rfl, (blk_cell BK122.out 1).trans rfl, (blk_cell BK122.out 2).trans rfl, (blk_cell BK122.out 3).trans rfl, (blk_cell BK122.out 4).trans rfl⟩ (fun hHeld => ?_)
             clear hK K
             refine Sk.nm 47 (h := ?_)
             refine Sk.pq 23 48 spec_CallsOk.v24 HT_.out (h := ?_)
             refine Sk.pq 24 49 spec_CallsOk.v25 HT_.out (h := ?_)
             refine Sk.pq 25 50 spec_CallsOk.v26 HT_.out (h := ?_)
             refine Sk.pq 26 51 spec_CallsOk.v27 HT_.out (h := ?_)
             refine Sk.tk5 27 52 spec_CallsOk.v28 HT_.out HW_.out hHeld (h := ?_)
             refine one_ (i := 28) (N := some 53) spec_CallsOk.v29 rfl rfl (one_of HT_.out (by kernel_rfl)) (by decide) (fun K hK => ?_)
             refine goes_ Try.func102 (by kernel_rfl) rfl #[.int .i64 ((rd_T91 l1 x5_2).f2)] (by rfl) rfl rfl (by (try simp only [List.map_toArray, List.map_cons, List.map_nil]); first | done | rfl | (simp only [List.length_drop, List.length_take]; rfl)) ?_
             with_reducible refine (spec_l1Minute.calls ((rd_T91 l1 x5_2).f2) false _ A47.out).mono ?_
             rintro e w' ⟨rfl, ⟨nd, rfl⟩⟩
             refine ⟨_, rfl, ?_⟩
             refine hK.out _ _ ⟨(blk_cell BK122.out 0).trans rfl, (blk_cell BK122.out 1).trans rfl, (blk_cell BK122.out 2).trans rfl, (blk_cell BK122.out 3).trans rfl, (blk_cell BK122.out 4).trans rfl⟩ (fun hHeld => ?_)
             clear hK K
             refine Sk.nm 53 (h := ?_)
             refine Sk.pq 29 54 spec_CallsOk.v30 HT_.out (h := ?_)
             refine Sk.pq 30 55 spec_CallsOk.v31 HT_.out (h := ?_)
             refine Sk.pq 31 56 spec_CallsOk.v32 HT_.out (h := ?_)
             refine Sk.pu 32 57 spec_CallsOk.v33 HT_.out (h := ?_)
             refine Sk.pu 33 58 spec_CallsOk.v34 HT_.out (h := ?_)
             refine Sk.pu 34 59 spec_CallsOk.v35 HT_.out (h := ?_)
             refine Sk.pu 35 60 spec_CallsOk.v36 HT_.out (h := ?_)
             refine Sk.pq 36 61 spec_CallsOk.v37 HT_.out (h := ?_)
             refine Sk.pq 37 62 spec_CallsOk.v38 HT_.out (h := ?_)
             refine Sk.pu 38 63 spec_CallsOk.v39 HT_.out (h := ?_)
             refine Sk.pu 39 64 spec_CallsOk.v40 HT_.out (h := ?_)
             refine Sk.pu 40 65 spec_CallsOk.v41 HT_.out (h := ?_)
             refine Sk.pu 41 66 spec_CallsOk.v42 HT_.out (h := ?_)
             refine Sk.pu 42 67 spec_CallsOk.v43 HT_.out (h := ?_)
             refine Sk.pq 43 68 spec_CallsOk.v44 HT_.out (h := ?_)
             refine Sk.pq 44 69 spec_CallsOk.v45 HT_.out (h := ?_)
             refine Sk.pu 45 70 spec_CallsOk.v46 HT_.out (h := ?_)
             refine Sk.pu 46 71 spec_CallsOk.v47 HT_.out (h := ?_)
             refine Sk.pu 47 72 spec_CallsOk.v48 HT_.out (h := ?_)
             refine Sk.pu 48 73 spec_CallsOk.v49 HT_.out (h := ?_)
             refine Sk.pq 49 74 spec_CallsOk.v50 HT_.out (h := ?_)
             refine Sk.pq 50 75 spec_CallsOk.v51 HT_.out (h := ?_)
             refine Sk.pu 51 76 spec_CallsOk.v52 HT_.out (h := ?_)
             refine Sk.pu 52 77 spec_CallsOk.v53 HT_.out (h := ?_)
             refine Sk.pu 53 78 spec_CallsOk.v54 HT_.out (h := ?_)
             refine Sk.pu 54 79 spec_CallsOk.v55 HT_.out (h := ?_)
             refine Sk.pu 55 80 spec_CallsOk.v56 HT_.out (h := ?_)
             refine Sk.pu 56 81 spec_CallsOk.v57 HT_.out (h := ?_)
             refine Sk.pu 57 82 spec_CallsOk.v58 HT_.out (h := ?_)
             refine Sk.pu 58 83 spec_CallsOk.v59 HT_.out (h := ?_)
             refine Sk.pu 59 84 spec_CallsOk.v60 HT_.out (h := ?_)
             refine Sk.pu 60 85 spec_CallsOk.v61 HT_.out (h := ?_)
             refine Sk.pu 61 86 spec_CallsOk.v62 HT_.out (h := ?_)
             refine Sk.pu 62 87 spec_CallsOk.v63 HT_.out (h := ?_)
             refine Sk.pq 63 88 spec_CallsOk.v64 HT_.out (h := ?_)
             refine done_ (done_of HT_.out (by kernel_rfl)) ?_
             try go_wp2
             go_meet
             case rel => exact ⟨_, (true), (by first | rfl | (simp; done) | (simp [*]; done)), H', ⟨by have := HJ2.out; have := HK2.out; first | omega | exact Nat.le_refl _⟩, ⟨by (with_reducible repeat (first | refine blk_drewN ?_ _ | refine blk_drew ?_ | refine blk_alloc ?_ _)); exact BK122.out⟩, ⟨by repeat (first | (with_reducible first | exact HB.out | apply below_alloc | apply pw_below_drewN | apply below_drew1 | refine below_set ?_ GE122.out) | exact HB.out)⟩⟩
           ·replace c46 := Bool.eq_false_iff.mpr c46
            subst c46
            rw [if_neg (show ¬ (false = true) by decide)] at H
            have H' := Aside0.mk H
            clear H
            try go_wp2
            have n0_ : Aside0 ((((((w10.setCell ⟨gb122, 0, none⟩ (.int .i64 ((rd_T91 l1 x5_2).f0))).setCell ⟨gb122, 1, none⟩ (.int .i64 ((rd_T91 l1 x5_2).f1))).setCell ⟨gb122, 2, none⟩ (.int .i64 ((rd_T91 l1 x5_2).f2))).setCell ⟨gb122, 3, none⟩ (.int .i64 ((rd_T91 l1 x5_2).f3))).setCell ⟨gb122, 4, none⟩ (.int .i64 ((rd_T91 l1 x5_2).f4))).heap[gb122]? = some (.cells #[.int .i64 ((rd_T91 l1 x5_2).f0), .int .i64 ((rd_T91 l1 x5_2).f1), .int .i64 ((rd_T91 l1 x5_2).f2), .int .i64 ((rd_T91 l1 x5_2).f3), .int .i64 ((rd_T91 l1 x5_2).f4)] 91 (0, 0))) := ⟨by (with_reducible repeat (first | refine blk_drewN ?_ _ | refine blk_drew ?_ | refine blk_alloc ?_ _)); refine blk_put (cs := #[.int .i64 ((rd_T91 l1 x5_2).f0), .int .i64 ((rd_T91 l1 x5_2).f1), .int .i64 ((rd_T91 l1 x5_2).f2), .int .i64 ((rd_T91 l1 x5_2).f3), .int .i64 0]) ?_ 4 _ rfl; (with_reducible repeat (first | refine blk_drewN ?_ _ | refine blk_drew ?_ | refine blk_alloc ?_ _)); refine blk_put (cs := #[.int .i64 ((rd_T91 l1 x5_2).f0), .int .i64 ((rd_T91 l1 x5_2).f1), .int .i64 ((rd_T91 l1 x5_2).f2), .int .i64 0, .int .i64 0]) ?_ 3 _ rfl; (with_reducible repeat (first | refine blk_drewN ?_ _ | refine blk_drew ?_ | refine blk_alloc ?_ _)); refine blk_put (cs := #[.int .i64 ((rd_T91 l1 x5_2).f0), .int .i64 ((rd_T91 l1 x5_2).f1), .int .i64 0, .int .i64 0, .int .i64 0]) ?_ 2 _ rfl; (with_reducible repeat (first | refine blk_drewN ?_ _ | refine blk_drew ?_ | refine blk_alloc ?_ _)); refine blk_put (cs := #[.int .i64 ((rd_T91 l1 x5_2).f0), .int .i64 0, .int .i64 0, .int .i64 0, .int .i64 0]) ?_ 1 _ rfl; (with_reducible repeat (first | refine blk_drewN ?_ _ | refine blk_drew ?_ | refine blk_alloc ?_ _)); refine blk_put (cs := #[.int .i64 0, .int .i64 0, .int .i64 0, .int .i64 0, .int .i64 0]) ?_ 0 _ rfl; (with_reducible repeat (first | refine blk_drewN ?_ _ | refine blk_drew ?_ | refine blk_alloc ?_ _)); exact BK122.out⟩
            have n1_ : Aside0 (Below w.heap.size w (((((w10.setCell ⟨gb122, 0, none⟩ (.int .i64 ((rd_T91 l1 x5_2).f0))).setCell ⟨gb122, 1, none⟩ (.int .i64 ((rd_T91 l1 x5_2).f1))).setCell ⟨gb122, 2, none⟩ (.int .i64 ((rd_T91 l1 x5_2).f2))).setCell ⟨gb122, 3, none⟩ (.int .i64 ((rd_T91 l1 x5_2).f3))).setCell ⟨gb122, 4, none⟩ (.int .i64 ((rd_T91 l1 x5_2).f4)))) := ⟨by repeat (first | (with_reducible first | exact HB.out | apply below_alloc | apply pw_below_drewN | apply below_drew1 | refine below_set ?_ GE122.out) | exact HB.out)⟩
            (try clear BK122)
            (try clear HB)
            generalize (((((w10.setCell ⟨gb122, 0, none⟩ (.int .i64 ((rd_T91 l1 x5_2).f0))).setCell ⟨gb122, 1, none⟩ (.int .i64 ((rd_T91 l1 x5_2).f1))).setCell ⟨gb122, 2, none⟩ (.int .i64 ((rd_T91 l1 x5_2).f2))).setCell ⟨gb122, 3, none⟩ (.int .i64 ((rd_T91 l1 x5_2).f3))).setCell ⟨gb122, 4, none⟩ (.int .i64 ((rd_T91 l1 x5_2).f4))) = w67 at n0_ n1_ ⊢
            have BK122 := n0_
            have HB := n1_
            clear n0_ n1_
            have n0_ := Aside0.mk (blk_drew BK122.out)
            have n1_ := Aside0.mk (below_drew1 HB.out)
            clear BK122
            clear HB
            have BK122 := n0_
            have HB := n1_
            clear n0_ n1_
            refine start_ (n := 64) (S := fun w' => w'.cell? ⟨gb122, 0, none⟩ = some (.int .i64 ((rd_T91 l1 x5_2).f0)) ∧ w'.cell? ⟨gb122, 1, none⟩ = some (.int .i64 ((rd_T91 l1 x5_2).f1)) ∧ w'.cell? ⟨gb122, 2, none⟩ = some (.int .i64 ((rd_T91 l1 x5_2).f2)) ∧ w'.cell? ⟨gb122, 3, none⟩ = some (.int .i64 ((rd_T91 l1 x5_2).f3)) ∧ w'.cell? ⟨gb122, 4, none⟩ = some (.int .i64 ((rd_T91 l1 x5_2).f4))) (ds := []) spec_CallsOk.v0 (by kernel_rfl) rfl rfl ⟨(blk_cell BK122.out 0).trans rfl, (blk_cell BK122.out 1).trans rfl, (blk_cell BK122.out 2).trans rfl, (blk_cell BK122.out 3).trans rfl, (blk_cell BK122.out 4).trans rfl⟩ (fun hHeld => ?_); refine with_tabW spec_CallsOk.tab7 spec_CallsOk.bits7 (fun HT_ HW_ => ?_)
            generalize w67.drew = w68 at BK122 HB hHeld ⊢
            refine Sk.pq 0 25 spec_CallsOk.v1 HT_.out (h := ?_)
            refine Sk.tk5 1 26 spec_CallsOk.v2 HT_.out HW_.out hHeld (h := ?_)
            refine one_ (i := 2) (N := some 27) spec_CallsOk.v3 rfl rfl (one_of HT_.out (by kernel_rfl)) (by decide) (fun K hK => ?_)
            refine goes_ Try.func51 (by kernel_rfl) rfl #[.int .i64 ((rd_T91 l1 x5_2).f0), .int .i64 1, .int .i64 1000000] (by rfl) rfl rfl (by (try simp only [List.map_toArray, List.map_cons, List.map_nil]); first | done | rfl | (simp only [List.length_drop, List.length_take]; rfl)) ?_
            with_reducible refine (spec_l1In.calls ((rd_T91 l1 x5_2).f0) 1 1000000 true _ A12.out).mono ?_
            rintro e w' ⟨rfl, ⟨nd, rfl⟩⟩
            refine ⟨_, rfl, ?_⟩
            refine hK.out _ _ ⟨(blk_cell BK122.out 0).trans rfl, (blk_cell BK122.out 1).trans rfl, (blk_cell BK122.out 2).trans rfl, (blk_cell BK122.out 3).trans rfl, (blk_cell BK122.out 4).trans rfl⟩ (fun hHeld => ?_)
            clear hK K
            refine Sk.nm 27 (h := ?_)
            refine Sk.pq 3 28 spec_CallsOk.v4 HT_.out (h := ?_)
            refine Sk.pq 4 29 spec_CallsOk.v5 HT_.out (h := ?_)
            refine Sk.pq 5 30 spec_CallsOk.v6 HT_.out (h := ?_)
            refine Sk.pq 6 31 spec_CallsOk.v7 HT_.out (h := ?_)
            refine Sk.pq 7 32 spec_CallsOk.v8 HT_.out (h := ?_)
            refine Sk.pu 8 33 spec_CallsOk.v9 HT_.out (h := ?_)
            refine Sk.pu 9 34 spec_CallsOk.v10 HT_.out (h := ?_)
            refine Sk.pu 10 35 spec_CallsOk.v11 HT_.out (h := ?_)
            refine Sk.pu 11 36 spec_CallsOk.v12 HT_.out (h := ?_)
            refine Sk.pu 12 37 spec_CallsOk.v13 HT_.out (h := ?_)
            refine Sk.pu 13 38 spec_CallsOk.v70 HT_.out (h := ?_)
            refine Sk.pu 14 39 spec_CallsOk.v15 HT_.out (h := ?_)
            refine Sk.pu 15 40 spec_CallsOk.v16 HT_.out (h := ?_)
            refine Sk.pu 16 41 spec_CallsOk.v17 HT_.out (h := ?_)
            refine Sk.pq 17 42 spec_CallsOk.v18 HT_.out (h := ?_)
            refine Sk.pq 18 43 spec_CallsOk.v19 HT_.out (h := ?_)
            refine Sk.pq 19 44 spec_CallsOk.v20 HT_.out (h := ?_)
            refine Sk.pq 20 45 spec_CallsOk.v21 HT_.out (h := ?_)
            refine Sk.tk5 21 46 spec_CallsOk.v22 HT_.out HW_.out hHeld (h := ?_)
            refine one_ (i := 22) (N := some 47) spec_CallsOk.v23 rfl rfl (one_of HT_.out (by kernel_rfl)) (by decide) (fun K hK => ?_)
            refine goes_ Try.func51 (by kernel_rfl) rfl #[.int .i64 ((rd_T91 l1 x5_2).f1), .int .i64 1, .int .i64 1000] (by rfl) rfl rfl (by (try simp only [List.map_toArray, List.map_cons, List.map_nil]); first | done | rfl | (simp only [List.length_drop, List.length_take]; rfl)) ?_
            with_reducible refine (spec_l1In.calls ((rd_T91 l1 x5_2).f1) 1 1000 false _ A45.out).mono ?_
            rintro e w' ⟨rfl, ⟨nd, rfl⟩⟩
            refine ⟨_, rfl, ?_⟩
            refine hK.out _ _ ⟨(blk_cell BK122.out 0).trans rfl, (blk_cell BK122.out 1).trans rfl, (blk_cell BK122.out 2).trans rfl, (blk_cell BK122.out 3).trans rfl, (blk_cell BK122.out 4).trans rfl⟩ (fun hHeld => ?_)
            clear hK K
            refine Sk.nm 47 (h := ?_)
            refine Sk.pq 23 48 spec_CallsOk.v24 HT_.out (h := ?_)
            refine Sk.pq 24 49 spec_CallsOk.v25 HT_.out (h := ?_)
            refine Sk.pq 25 50 spec_CallsOk.v26 HT_.out (h := ?_)
            refine Sk.pu 26 51 spec_CallsOk.v27 HT_.out (h := ?_)
            refine Sk.pu 27 52 spec_CallsOk.v28 HT_.out (h := ?_)
            refine Sk.pu 28 53 spec_CallsOk.v29 HT_.out (h := ?_)
            refine Sk.pu 29 54 spec_CallsOk.v30 HT_.out (h := ?_)
            refine Sk.pq 30 55 spec_CallsOk.v31 HT_.out (h := ?_)
            refine Sk.pq 31 56 spec_CallsOk.v32 HT_.out (h := ?_)
            refine Sk.pu 32 57 spec_CallsOk.v33 HT_.out (h := ?_)
            refine Sk.pu 33 58 spec_CallsOk.v34 HT_.out (h := ?_)
            refine Sk.pu 34 59 spec_CallsOk.v35 HT_.out (h := ?_)
            refine Sk.pu 35 60 spec_CallsOk.v36 HT_.out (h := ?_)
            refine Sk.pq 36 61 spec_CallsOk.v37 HT_.out (h := ?_)
            refine Sk.pq 37 62 spec_CallsOk.v38 HT_.out (h := ?_)
            refine Sk.pu 38 63 spec_CallsOk.v39 HT_.out (h := ?_)
            refine Sk.pu 39 64 spec_CallsOk.v40 HT_.out (h := ?_)
            refine Sk.pu 40 65 spec_CallsOk.v41 HT_.out (h := ?_)
            refine Sk.pu 41 66 spec_CallsOk.v42 HT_.out (h := ?_)
            refine Sk.pu 42 67 spec_CallsOk.v43 HT_.out (h := ?_)
            refine Sk.pq 43 68 spec_CallsOk.v44 HT_.out (h := ?_)
            refine Sk.pq 44 69 spec_CallsOk.v45 HT_.out (h := ?_)
            refine Sk.pu 45 70 spec_CallsOk.v46 HT_.out (h := ?_)
            refine Sk.pu 46 71 spec_CallsOk.v47 HT_.out (h := ?_)
            refine Sk.pu 47 72 spec_CallsOk.v48 HT_.out (h := ?_)
            refine Sk.pu 48 73 spec_CallsOk.v49 HT_.out (h := ?_)
            refine Sk.pq 49 74 spec_CallsOk.v50 HT_.out (h := ?_)
            refine Sk.pq 50 75 spec_CallsOk.v51 HT_.out (h := ?_)
            refine Sk.pu 51 76 spec_CallsOk.v52 HT_.out (h := ?_)
            refine Sk.pu 52 77 spec_CallsOk.v53 HT_.out (h := ?_)
            refine Sk.pu 53 78 spec_CallsOk.v54 HT_.out (h := ?_)
            refine Sk.pu 54 79 spec_CallsOk.v55 HT_.out (h := ?_)
            refine Sk.pu 55 80 spec_CallsOk.v56 HT_.out (h := ?_)
            refine Sk.pu 56 81 spec_CallsOk.v57 HT_.out (h := ?_)
            refine Sk.pu 57 82 spec_CallsOk.v58 HT_.out (h := ?_)
            refine Sk.pu 58 83 spec_CallsOk.v59 HT_.out (h := ?_)
            refine Sk.pu 59 84 spec_CallsOk.v60 HT_.out (h := ?_)
            refine Sk.pu 60 85 spec_CallsOk.v61 HT_.out (h := ?_)
            refine Sk.pu 61 86 spec_CallsOk.v62 HT_.out (h := ?_)
            refine Sk.pu 62 87 spec_CallsOk.v63 HT_.out (h := ?_)
            refine Sk.pq 63 88 spec_CallsOk.v64 HT_.out (h := ?_)
            refine done_ (done_of HT_.out (by kernel_rfl)) ?_
            try go_wp2
            go_meet
            case rel => exact ⟨_, (true), (by first | rfl | (simp; done) | (simp [*]; done)), H', ⟨by have := HJ2.out; have := HK2.out; first | omega | exact Nat.le_refl _⟩, ⟨by (with_reducible repeat (first | refine blk_drewN ?_ _ | refine blk_drew ?_ | refine blk_alloc ?_ _)); exact BK122.out⟩, ⟨by repeat (first | (with_reducible first | exact HB.out | apply below_alloc | apply pw_below_drewN | apply below_drew1 | refine below_set ?_ GE122.out) | exact HB.out)⟩⟩
         ·replace c13 := Bool.eq_false_iff.mpr c13
          subst c13
          rw [if_neg (show ¬ (false = true) by decide)] at H
          have H' := Aside0.mk H
          clear H
          try go_wp2
          have n0_ : Aside0 ((((((w10.setCell ⟨gb122, 0, none⟩ (.int .i64 ((rd_T91 l1 x5_2).f0))).setCell ⟨gb122, 1, none⟩ (.int .i64 ((rd_T91 l1 x5_2).f1))).setCell ⟨gb122, 2, none⟩ (.int .i64 ((rd_T91 l1 x5_2).f2))).setCell ⟨gb122, 3, none⟩ (.int .i64 ((rd_T91 l1 x5_2).f3))).setCell ⟨gb122, 4, none⟩ (.int .i64 ((rd_T91 l1 x5_2).f4))).heap[gb122]? = some (.cells #[.int .i64 ((rd_T91 l1 x5_2).f0), .int .i64 ((rd_T91 l1 x5_2).f1), .int .i64 ((rd_T91 l1 x5_2).f2), .int .i64 ((rd_T91 l1 x5_2).f3), .int .i64 ((rd_T91 l1 x5_2).f4)] 91 (0, 0))) := ⟨by (with_reducible repeat (first | refine blk_drewN ?_ _ | refine blk_drew ?_ | refine blk_alloc ?_ _)); refine blk_put (cs := #[.int .i64 ((rd_T91 l1 x5_2).f0), .int .i64 ((rd_T91 l1 x5_2).f1), .int .i64 ((rd_T91 l1 x5_2).f2), .int .i64 ((rd_T91 l1 x5_2).f3), .int .i64 0]) ?_ 4 _ rfl; (with_reducible repeat (first | refine blk_drewN ?_ _ | refine blk_drew ?_ | refine blk_alloc ?_ _)); refine blk_put (cs := #[.int .i64 ((rd_T91 l1 x5_2).f0), .int .i64 ((rd_T91 l1 x5_2).f1), .int .i64 ((rd_T91 l1 x5_2).f2), .int .i64 0, .int .i64 0]) ?_ 3 _ rfl; (with_reducible repeat (first | refine blk_drewN ?_ _ | refine blk_drew ?_ | refine blk_alloc ?_ _)); refine blk_put (cs := #[.int .i64 ((rd_T91 l1 x5_2).f0), .int .i64 ((rd_T91 l1 x5_2).f1), .int .i64 0, .int .i64 0, .int .i64 0]) ?_ 2 _ rfl; (with_reducible repeat (first | refine blk_drewN ?_ _ | refine blk_drew ?_ | refine blk_alloc ?_ _)); refine blk_put (cs := #[.int .i64 ((rd_T91 l1 x5_2).f0), .int .i64 0, .int .i64 0, .int .i64 0, .int .i64 0]) ?_ 1 _ rfl; (with_reducible repeat (first | refine blk_drewN ?_ _ | refine blk_drew ?_ | refine blk_alloc ?_ _)); refine blk_put (cs := #[.int .i64 0, .int .i64 0, .int .i64 0, .int .i64 0, .int .i64 0]) ?_ 0 _ rfl; (with_reducible repeat (first | refine blk_drewN ?_ _ | refine blk_drew ?_ | refine blk_alloc ?_ _)); exact BK122.out⟩
          have n1_ : Aside0 (Below w.heap.size w (((((w10.setCell ⟨gb122, 0, none⟩ (.int .i64 ((rd_T91 l1 x5_2).f0))).setCell ⟨gb122, 1, none⟩ (.int .i64 ((rd_T91 l1 x5_2).f1))).setCell ⟨gb122, 2, none⟩ (.int .i64 ((rd_T91 l1 x5_2).f2))).setCell ⟨gb122, 3, none⟩ (.int .i64 ((rd_T91 l1 x5_2).f3))).setCell ⟨gb122, 4, none⟩ (.int .i64 ((rd_T91 l1 x5_2).f4)))) := ⟨by repeat (first | (with_reducible first | exact HB.out | apply below_alloc | apply pw_below_drewN | apply below_drew1 | refine below_set ?_ GE122.out) | exact HB.out)⟩
          (try clear BK122)
          (try clear HB)
          generalize (((((w10.setCell ⟨gb122, 0, none⟩ (.int .i64 ((rd_T91 l1 x5_2).f0))).setCell ⟨gb122, 1, none⟩ (.int .i64 ((rd_T91 l1 x5_2).f1))).setCell ⟨gb122, 2, none⟩ (.int .i64 ((rd_T91 l1 x5_2).f2))).setCell ⟨gb122, 3, none⟩ (.int .i64 ((rd_T91 l1 x5_2).f3))).setCell ⟨gb122, 4, none⟩ (.int .i64 ((rd_T91 l1 x5_2).f4))) = w69 at n0_ n1_ ⊢
          have BK122 := n0_
          have HB := n1_
          clear n0_ n1_
          have n0_ := Aside0.mk (blk_drew BK122.out)
          have n1_ := Aside0.mk (below_drew1 HB.out)
          clear BK122
          clear HB
          have BK122 := n0_
          have HB := n1_
          clear n0_ n1_
          refine start_ (n := 64) (S := fun w' => w'.cell? ⟨gb122, 0, none⟩ = some (.int .i64 ((rd_T91 l1 x5_2).f0)) ∧ w'.cell? ⟨gb122, 1, none⟩ = some (.int .i64 ((rd_T91 l1 x5_2).f1)) ∧ w'.cell? ⟨gb122, 2, none⟩ = some (.int .i64 ((rd_T91 l1 x5_2).f2)) ∧ w'.cell? ⟨gb122, 3, none⟩ = some (.int .i64 ((rd_T91 l1 x5_2).f3)) ∧ w'.cell? ⟨gb122, 4, none⟩ = some (.int .i64 ((rd_T91 l1 x5_2).f4))) (ds := []) spec_CallsOk.v0 (by kernel_rfl) rfl rfl ⟨(blk_cell BK122.out 0).trans rfl, (blk_cell BK122.out 1).trans rfl, (blk_cell BK122.out 2).trans rfl, (blk_cell BK122.out 3).trans rfl, (blk_cell BK122.out 4).trans rfl⟩ (fun hHeld => ?_); refine with_tabW spec_CallsOk.tab7 spec_CallsOk.bits7 (fun HT_ HW_ => ?_)
          generalize w69.drew = w70 at BK122 HB hHeld ⊢
          refine Sk.pq 0 25 spec_CallsOk.v1 HT_.out (h := ?_)
          refine Sk.tk5 1 26 spec_CallsOk.v2 HT_.out HW_.out hHeld (h := ?_)
          refine one_ (i := 2) (N := some 27) spec_CallsOk.v3 rfl rfl (one_of HT_.out (by kernel_rfl)) (by decide) (fun K hK => ?_)
          refine goes_ Try.func51 (by kernel_rfl) rfl #[.int .i64 ((rd_T91 l1 x5_2).f0), .int .i64 1, .int .i64 1000000] (by rfl) rfl rfl (by (try simp only [List.map_toArray, List.map_cons, List.map_nil]); first | done | rfl | (simp only [List.length_drop, List.length_take]; rfl)) ?_
          with_reducible refine (spec_l1In.calls ((rd_T91 l1 x5_2).f0) 1 1000000 false _ A12.out).mono ?_
          rintro e w' ⟨rfl, ⟨nd, rfl⟩⟩
          refine ⟨_, rfl, ?_⟩
          refine hK.out _ _ ⟨(blk_cell BK122.out 0).trans rfl, (blk_cell BK122.out 1).trans rfl, (blk_cell BK122.out 2).trans rfl, (blk_cell BK122.out 3).trans rfl, (blk_cell BK122.out 4).trans rfl⟩ (fun hHeld => ?_)
          clear hK K
          refine Sk.nm 27 (h := ?_)
          refine Sk.pq 3 28 spec_CallsOk.v4 HT_.out (h := ?_)
          refine Sk.pq 4 29 spec_CallsOk.v5 HT_.out (h := ?_)
          refine Sk.pu 5 30 spec_CallsOk.v6 HT_.out (h := ?_)
          refine Sk.pu 6 31 spec_CallsOk.v7 HT_.out (h := ?_)
          refine Sk.pu 7 32 spec_CallsOk.v8 HT_.out (h := ?_)
          refine Sk.pu 8 33 spec_CallsOk.v9 HT_.out (h := ?_)
          refine Sk.pu 9 34 spec_CallsOk.v10 HT_.out (h := ?_)
          refine Sk.pu 10 35 spec_CallsOk.v11 HT_.out (h := ?_)
          refine Sk.pu 11 36 spec_CallsOk.v12 HT_.out (h := ?_)
          refine Sk.pu 12 37 spec_CallsOk.v13 HT_.out (h := ?_)
          refine Sk.pu 13 38 spec_CallsOk.v70 HT_.out (h := ?_)
          refine Sk.pu 14 39 spec_CallsOk.v15 HT_.out (h := ?_)
          refine Sk.pu 15 40 spec_CallsOk.v16 HT_.out (h := ?_)
          refine Sk.pu 16 41 spec_CallsOk.v17 HT_.out (h := ?_)
          refine Sk.pu 17 42 spec_CallsOk.v18 HT_.out (h := ?_)
          refine Sk.pq 18 43 spec_CallsOk.v19 HT_.out (h := ?_)
          refine Sk.pq 19 44 spec_CallsOk.v20 HT_.out (h := ?_)
          refine Sk.pu 20 45 spec_CallsOk.v21 HT_.out (h := ?_)
          refine Sk.pu 21 46 spec_CallsOk.v22 HT_.out (h := ?_)
          refine Sk.pu 22 47 spec_CallsOk.v23 HT_.out (h := ?_)
          refine Sk.pu 23 48 spec_CallsOk.v24 HT_.out (h := ?_)
          refine Sk.pq 24 49 spec_CallsOk.v25 HT_.out (h := ?_)
          refine Sk.pq 25 50 spec_CallsOk.v26 HT_.out (h := ?_)
          refine Sk.pu 26 51 spec_CallsOk.v27 HT_.out (h := ?_)
          refine Sk.pu 27 52 spec_CallsOk.v28 HT_.out (h := ?_)
          refine Sk.pu 28 53 spec_CallsOk.v29 HT_.out (h := ?_)
          refine Sk.pu 29 54 spec_CallsOk.v30 HT_.out (h := ?_)
          refine Sk.pq 30 55 spec_CallsOk.v31 HT_.out (h := ?_)
          refine Sk.pq 31 56 spec_CallsOk.v32 HT_.out (h := ?_)
          refine Sk.pu 32 57 spec_CallsOk.v33 HT_.out (h := ?_)
          refine Sk.pu 33 58 spec_CallsOk.v34 HT_.out (h := ?_)
          refine Sk.pu 34 59 spec_CallsOk.v35 HT_.out (h := ?_)
          refine Sk.pu 35 60 spec_CallsOk.v36 HT_.out (h := ?_)
          refine Sk.pq 36 61 spec_CallsOk.v37 HT_.out (h := ?_)
          refine Sk.pq 37 62 spec_CallsOk.v38 HT_.out (h := ?_)
          refine Sk.pu 38 63 spec_CallsOk.v39 HT_.out (h := ?_)
          refine Sk.pu 39 64 spec_CallsOk.v40 HT_.out (h := ?_)
          refine Sk.pu 40 65 spec_CallsOk.v41 HT_.out (h := ?_)
          refine Sk.pu 41 66 spec_CallsOk.v42 HT_.out (h := ?_)
          refine Sk.pu 42 67 spec_CallsOk.v43 HT_.out (h := ?_)
          refine Sk.pq 43 68 spec_CallsOk.v44 HT_.out (h := ?_)
          refine Sk.pq 44 69 spec_CallsOk.v45 HT_.out (h := ?_)
          refine Sk.pu 45 70 spec_CallsOk.v46 HT_.out (h := ?_)
          refine Sk.pu 46 71 spec_CallsOk.v47 HT_.out (h := ?_)
          refine Sk.pu 47 72 spec_CallsOk.v48 HT_.out (h := ?_)
          refine Sk.pu 48 73 spec_CallsOk.v49 HT_.out (h := ?_)
          refine Sk.pq 49 74 spec_CallsOk.v50 HT_.out (h := ?_)
          refine Sk.pq 50 75 spec_CallsOk.v51 HT_.out (h := ?_)
          refine Sk.pu 51 76 spec_CallsOk.v52 HT_.out (h := ?_)
          refine Sk.pu 52 77 spec_CallsOk.v53 HT_.out (h := ?_)
          refine Sk.pu 53 78 spec_CallsOk.v54 HT_.out (h := ?_)
          refine Sk.pu 54 79 spec_CallsOk.v55 HT_.out (h := ?_)
          refine Sk.pu 55 80 spec_CallsOk.v56 HT_.out (h := ?_)
          refine Sk.pu 56 81 spec_CallsOk.v57 HT_.out (h := ?_)
          refine Sk.pu 57 82 spec_CallsOk.v58 HT_.out (h := ?_)
          refine Sk.pu 58 83 spec_CallsOk.v59 HT_.out (h := ?_)
          refine Sk.pu 59 84 spec_CallsOk.v60 HT_.out (h := ?_)
          refine Sk.pu 60 85 spec_CallsOk.v61 HT_.out (h := ?_)
          refine Sk.pu 61 86 spec_CallsOk.v62 HT_.out (h := ?_)
          refine Sk.pu 62 87 spec_CallsOk.v63 HT_.out (h := ?_)
          refine Sk.pq 63 88 spec_CallsOk.v64 HT_.out (h := ?_)
          refine done_ (done_of HT_.out (by kernel_rfl)) ?_
          try go_wp2
          go_meet
          case rel => exact ⟨_, (true), (by first | rfl | (simp; done) | (simp [*]; done)), H', ⟨by have := HJ2.out; have := HK2.out; first | omega | exact Nat.le_refl _⟩, ⟨by (with_reducible repeat (first | refine blk_drewN ?_ _ | refine blk_drew ?_ | refine blk_alloc ?_ _)); exact BK122.out⟩, ⟨by repeat (first | (with_reducible first | exact HB.out | apply below_alloc | apply pw_below_drewN | apply below_drew1 | refine below_set ?_ GE122.out) | exact HB.out)⟩⟩
        case rest =>
         clear HC9
         (try clear c1)
         obtain ⟨kq, x88_8, rfl, HA, HJ8, BK122, HB⟩ := hcut
         cases kq with
         | zero => exact absurd HA.out (by simp [spec_CallsOk.j2])
         | succ kj8 =>
          have H := HA.out
          clear HA
          simp only [spec_CallsOk.j2] at H
          by_cases c71 : x88_8 = true
          ·subst c71
           rw [if_pos rfl] at H
           obtain rfl := Option.some.inj H
           go_wp2
           go_ret
           exact ⟨by first | rfl | (simp [errW_none, errW_some] <;> rfl) | (simp [*, errW_none, errW_some] <;> rfl), by repeat (first | (with_reducible first | exact HB.out | apply below_alloc | apply pw_below_drewN | apply below_drew1 | refine below_set ?_ GE122.out) | exact HB.out)⟩
          ·replace c71 := Bool.eq_false_iff.mpr c71
           subst c71
           rw [if_neg (show ¬ (false = true) by decide)] at H
           have H' := Aside0.mk H
           clear H
           go_wp2
           go_roundg kj8
           case measure => have := HJ2.out; have := HK2.out; have := HJ8.out; omega
           case rel => exact ⟨(wrap64 (x5_2 + 1)), (by first | rfl | (simp; done) | (simp [*]; done)), H', ⟨by have := HJ2.out; have := HK2.out; have := HJ8.out; omega⟩, ⟨by repeat (first | (with_reducible first | exact HB.out | apply below_alloc | apply pw_below_drewN | apply below_drew1 | refine below_set ?_ GE122.out) | exact HB.out)⟩⟩
       ·rw [if_neg c8] at H
        exact absurd H (by simp)
      ·rw [if_neg c7] at H
       have c7b0 : decide (x5_2 < (l1.length : Int)) = false := decide_eq_false c7
       clear c7
       obtain rfl := Option.some.inj H
       go_wp2
       go_ret
       exact ⟨by first | rfl | (simp [errW_none, errW_some] <;> rfl) | (simp [*, errW_none, errW_some] <;> rfl), by repeat (first | (with_reducible first | exact HB.out | apply below_alloc | apply pw_below_drewN | apply below_drew1) | exact HB.out)⟩

end Go.Proofs.Ytfeaabdighopbaa.PG
