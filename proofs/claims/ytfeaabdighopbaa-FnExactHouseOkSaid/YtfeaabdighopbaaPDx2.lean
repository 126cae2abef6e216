/- What Go's functions that the laws reach come to: laid by a program of this session over the print's words. -/
import Derived.Test.YtfeaabdighopbaaPDx0
import Derived.Test.YtfeaabdighopbaaPDx1
import Derived.Test.YtfeaabdighopbaaSteps
namespace Go.Proofs.Ytfeaabdighopbaa.PD
open Go.RowKit Go.Proofs.YtfeaabdighopbaaW.PrintWords Go.Proofs.YtfeaabdighopbaaW.PrintLast Go.Proofs.YtfeaabdighopbaaW.PrintMore Go.Proofs.Ytfeaabdighopbaa
attribute [local go_sem] max2_int min2_int max_two min_two max_three min_three max_four min_four   -- for this text's walks alone
set_option linter.unusedVariables false
set_option linter.unusedSimpArgs false

/-! ### spec_HouseOk: function 40 -/
mutual
def spec_HouseOk.j0 : Nat → Bool → List (S119) → List (S122) → Int → Option (Bool)
  | 0, _, _, _, _ => none
  | k + 1, x25, x108000, x108001, x108002 => if x25 = true then (some false) else (if 0 ≤ (x108001.length : Int) then (if ((x108001.length : Int) : Int).toNat ≤ 35184372088832 then (spec_HouseOk.l0 k (List.replicate ((x108001.length : Int) : Int).toNat 0) 0 x108000 x108001 x108002) else (none)) else (none))
def spec_HouseOk.l0 : Nat → List Int → Int → List (S119) → List (S122) → Int → Option (Bool)
  | 0, _, _, _, _, _ => none
  | k + 1, x3, x4, x108000, x108001, x108002 => if x4 < (x108000.length : Int) then (if 0 ≤ x4 then ((spec_Duty6.f ((rd_T119 x108000 x4).f2) ((rd_T119 x108000 x4).f3) ((rd_T119 x108000 x4).f4)).bind fun bt114 => (if bt114.2 = true then ((spec_l1In.f ((rd_T119 x108000 x4).f0) 1 1000000).bind fun t116 => (if t116 = true then (if x4 > 0 then (if 0 ≤ (wrap64 (x4 - 1)) then (if (wrap64 (x4 - 1)) < (x108000.length : Int) then (if ((rd_T119 x108000 (wrap64 (x4 - 1))).f0) ≥ ((rd_T119 x108000 x4).f0) then (spec_HouseOk.j2 k x3 x4 bt114.1 true x108000 x108001 x108002 ((rd_T119 x108000 x4).f0) ((rd_T119 x108000 x4).f1) ((rd_T119 x108000 x4).f2) ((rd_T119 x108000 x4).f3) ((rd_T119 x108000 x4).f4) ((rd_T119 x108000 x4).f5) ((rd_T119 x108000 x4).f6)) else ((spec_l1In.f ((rd_T119 x108000 x4).f1) 0 (wrap64 ((x108001.length : Int) - 1))).bind fun t118 => (if t118 = true then ((spec_l1In.f ((rd_T119 x108000 x4).f5) 1 5).bind fun t119 => (spec_HouseOk.j2 k x3 x4 bt114.1 (!t119) x108000 x108001 x108002 ((rd_T119 x108000 x4).f0) ((rd_T119 x108000 x4).f1) ((rd_T119 x108000 x4).f2) ((rd_T119 x108000 x4).f3) ((rd_T119 x108000 x4).f4) ((rd_T119 x108000 x4).f5) ((rd_T119 x108000 x4).f6))) else (spec_HouseOk.j2 k x3 x4 bt114.1 true x108000 x108001 x108002 ((rd_T119 x108000 x4).f0) ((rd_T119 x108000 x4).f1) ((rd_T119 x108000 x4).f2) ((rd_T119 x108000 x4).f3) ((rd_T119 x108000 x4).f4) ((rd_T119 x108000 x4).f5) ((rd_T119 x108000 x4).f6))))) else (none)) else (none)) else ((spec_l1In.f ((rd_T119 x108000 x4).f1) 0 (wrap64 ((x108001.length : Int) - 1))).bind fun t120 => (if t120 = true then ((spec_l1In.f ((rd_T119 x108000 x4).f5) 1 5).bind fun t121 => (spec_HouseOk.j2 k x3 x4 bt114.1 (!t121) x108000 x108001 x108002 ((rd_T119 x108000 x4).f0) ((rd_T119 x108000 x4).f1) ((rd_T119 x108000 x4).f2) ((rd_T119 x108000 x4).f3) ((rd_T119 x108000 x4).f4) ((rd_T119 x108000 x4).f5) ((rd_T119 x108000 x4).f6))) else (spec_HouseOk.j2 k x3 x4 bt114.1 true x108000 x108001 x108002 ((rd_T119 x108000 x4).f0) ((rd_T119 x108000 x4).f1) ((rd_T119 x108000 x4).f2) ((rd_T119 x108000 x4).f3) ((rd_T119 x108000 x4).f4) ((rd_T119 x108000 x4).f5) ((rd_T119 x108000 x4).f6))))) else (spec_HouseOk.j2 k x3 x4 bt114.1 true x108000 x108001 x108002 ((rd_T119 x108000 x4).f0) ((rd_T119 x108000 x4).f1) ((rd_T119 x108000 x4).f2) ((rd_T119 x108000 x4).f3) ((rd_T119 x108000 x4).f4) ((rd_T119 x108000 x4).f5) ((rd_T119 x108000 x4).f6)))) else (spec_HouseOk.j2 k x3 x4 bt114.1 true x108000 x108001 x108002 ((rd_T119 x108000 x4).f0) ((rd_T119 x108000 x4).f1) ((rd_T119 x108000 x4).f2) ((rd_T119 x108000 x4).f3) ((rd_T119 x108000 x4).f4) ((rd_T119 x108000 x4).f5) ((rd_T119 x108000 x4).f6)))) else (none)) else (spec_HouseOk.l1 k x3 0 x108000 x108001 x108002)
def spec_HouseOk.j2 : Nat → List Int → Int → Int → Bool → List (S119) → List (S122) → Int → Int → Int → Int → Int → Int → Int → Int → Option (Bool)
  | 0, _, _, _, _, _, _, _, _, _, _, _, _, _, _ => none
  | k + 1, x3, x4, x6, x91, x108000, x108001, x108002, x114000, x114001, x114002, x114003, x114004, x114005, x114006 => if x91 = true then (some false) else (if x114005 = 3 then (spec_HouseOk.j3 k x3 x4 x6 x108000 x108001 x108002 x114000 x114001 x114002 x114003 x114004 x114005 x114006) else (spec_HouseOk.j3 k x3 x4 0 x108000 x108001 x108002 x114000 x114001 x114002 x114003 x114004 x114005 x114006))
def spec_HouseOk.j3 : Nat → List Int → Int → Int → List (S119) → List (S122) → Int → Int → Int → Int → Int → Int → Int → Int → Option (Bool)
  | 0, _, _, _, _, _, _, _, _, _, _, _, _, _ => none
  | k + 1, x3, x4, x6, x108000, x108001, x108002, x114000, x114001, x114002, x114003, x114004, x114005, x114006 => if x114006 = x6 then (if 0 ≤ x114001 then (if x114001 < (x3.length : Int) then (spec_HouseOk.l0 k (x3.set (x114001 : Int).toNat (wrap64 ((rd x3 x114001) + x6))) (wrap64 (x4 + 1)) x108000 x108001 x108002) else (none)) else (none)) else (some false)
def spec_HouseOk.l1 : Nat → List Int → Int → List (S119) → List (S122) → Int → Option (Bool)
  | 0, _, _, _, _, _ => none
  | k + 1, x3, x8, x108000, x108001, x108002 => if x8 < (x108001.length : Int) then (if 0 ≤ x8 then ((spec_l1In.f ((rd_T122 x108001 x8).f0) 0 1000000000000000).bind fun t126 => (if t126 = true then ((spec_l1In.f ((rd_T122 x108001 x8).f1) 0 1000000000000000).bind fun t127 => (if t127 = true then ((spec_l1In.f ((rd_T122 x108001 x8).f2) 0 ((rd_T122 x108001 x8).f1)).bind fun t128 => (if t128 = true then (if x8 < (x3.length : Int) then (spec_HouseOk.j5 k x3 x8 (((rd_T122 x108001 x8).f2) != (rd x3 x8)) x108000 x108001 x108002) else (none)) else (spec_HouseOk.j5 k x3 x8 true x108000 x108001 x108002))) else (spec_HouseOk.j5 k x3 x8 true x108000 x108001 x108002))) else (spec_HouseOk.j5 k x3 x8 true x108000 x108001 x108002))) else (none)) else (some true)
def spec_HouseOk.j5 : Nat → List Int → Int → Bool → List (S119) → List (S122) → Int → Option (Bool)
  | 0, _, _, _, _, _, _ => none
  | k + 1, x3, x8, x148, x108000, x108001, x108002 => if x148 = true then (some false) else (spec_HouseOk.l1 k x3 (wrap64 (x8 + 1)) x108000 x108001 x108002)
end
def spec_HouseOk.f (k : Nat) (l0_0 : List (S119)) (l0_1 : List (S122)) (a0_2 : Int) : Option (Bool) := if (l0_0.length : Int) > 40 then (spec_HouseOk.j0 k true l0_0 l0_1 a0_2) else (if (l0_1.length : Int) > 10 then (spec_HouseOk.j0 k true l0_0 l0_1 a0_2) else ((spec_l1In.f a0_2 0 1000000000000000).bind fun t108 => (spec_HouseOk.j0 k (!t108) l0_0 l0_1 a0_2)))
theorem spec_HouseOk.mono_l : ∀ k, (∀ y0 y1 y2 y3, LeO (spec_HouseOk.j0 k y0 y1 y2 y3) (spec_HouseOk.j0 (k + 1) y0 y1 y2 y3)) ∧ (∀ y0 y1 y2 y3 y4, LeO (spec_HouseOk.l0 k y0 y1 y2 y3 y4) (spec_HouseOk.l0 (k + 1) y0 y1 y2 y3 y4)) ∧ (∀ y0 y1 y2 y3 y4 y5 y6 y7 y8 y9 y10 y11 y12 y13, LeO (spec_HouseOk.j2 k y0 y1 y2 y3 y4 y5 y6 y7 y8 y9 y10 y11 y12 y13) (spec_HouseOk.j2 (k + 1) y0 y1 y2 y3 y4 y5 y6 y7 y8 y9 y10 y11 y12 y13)) ∧ (∀ y0 y1 y2 y3 y4 y5 y6 y7 y8 y9 y10 y11 y12, LeO (spec_HouseOk.j3 k y0 y1 y2 y3 y4 y5 y6 y7 y8 y9 y10 y11 y12) (spec_HouseOk.j3 (k + 1) y0 y1 y2 y3 y4 y5 y6 y7 y8 y9 y10 y11 y12)) ∧ (∀ y0 y1 y2 y3 y4, LeO (spec_HouseOk.l1 k y0 y1 y2 y3 y4) (spec_HouseOk.l1 (k + 1) y0 y1 y2 y3 y4)) ∧ (∀ y0 y1 y2 y3 y4 y5, LeO (spec_HouseOk.j5 k y0 y1 y2 y3 y4 y5) (spec_HouseOk.j5 (k + 1) y0 y1 y2 y3 y4 y5))
  | 0 => ⟨fun _ _ _ _ r h => by simp [spec_HouseOk.j0] at h, fun _ _ _ _ _ r h => by simp [spec_HouseOk.l0] at h, fun _ _ _ _ _ _ _ _ _ _ _ _ _ _ r h => by simp [spec_HouseOk.j2] at h, fun _ _ _ _ _ _ _ _ _ _ _ _ _ r h => by simp [spec_HouseOk.j3] at h, fun _ _ _ _ _ r h => by simp [spec_HouseOk.l1] at h, fun _ _ _ _ _ _ r h => by simp [spec_HouseOk.j5] at h⟩
  | k + 1 => by
    obtain ⟨ih0, ih1, ih2, ih3, ih4, ih5⟩ := spec_HouseOk.mono_l k
    refine ⟨?_, ?_, ?_, ?_, ?_, ?_⟩
    · intro y0 y1 y2 y3
      unfold spec_HouseOk.j0
      repeat' first
      | (with_reducible exact ih0 _ _ _ _)
      | (with_reducible exact ih1 _ _ _ _ _)
      | (with_reducible exact ih2 _ _ _ _ _ _ _ _ _ _ _ _ _ _)
      | (with_reducible exact ih3 _ _ _ _ _ _ _ _ _ _ _ _ _)
      | (with_reducible exact ih4 _ _ _ _ _)
      | (with_reducible exact ih5 _ _ _ _ _ _)
      | (with_reducible exact LeO.refl _)
      | (with_reducible exact LeO.none _)
      | (with_reducible refine LeO.ite ?_ ?_)
      | (with_reducible refine LeO.bind ?_ (fun _ => ?_))
      | exact ih0 _ _ _ _
      | exact ih1 _ _ _ _ _
      | exact ih2 _ _ _ _ _ _ _ _ _ _ _ _ _ _
      | exact ih3 _ _ _ _ _ _ _ _ _ _ _ _ _
      | exact ih4 _ _ _ _ _
      | exact ih5 _ _ _ _ _ _
      | exact LeO.none _
      | refine LeO.ite ?_ ?_
      | refine LeO.bind ?_ (fun _ => ?_)
    · intro y0 y1 y2 y3 y4
      unfold spec_HouseOk.l0
      repeat' first
      | (with_reducible exact ih0 _ _ _ _)
      | (with_reducible exact ih1 _ _ _ _ _)
      | (with_reducible exact ih2 _ _ _ _ _ _ _ _ _ _ _ _ _ _)
      | (with_reducible exact ih3 _ _ _ _ _ _ _ _ _ _ _ _ _)
      | (with_reducible exact ih4 _ _ _ _ _)
      | (with_reducible exact ih5 _ _ _ _ _ _)
      | (with_reducible exact LeO.refl _)
      | (with_reducible exact LeO.none _)
      | (with_reducible refine LeO.ite ?_ ?_)
      | (with_reducible refine LeO.bind ?_ (fun _ => ?_))
      | exact ih0 _ _ _ _
      | exact ih1 _ _ _ _ _
      | exact ih2 _ _ _ _ _ _ _ _ _ _ _ _ _ _
      | exact ih3 _ _ _ _ _ _ _ _ _ _ _ _ _
      | exact ih4 _ _ _ _ _
      | exact ih5 _ _ _ _ _ _
      | exact LeO.none _
      | refine LeO.ite ?_ ?_
      | refine LeO.bind ?_ (fun _ => ?_)
    · intro y0 y1 y2 y3 y4 y5 y6 y7 y8 y9 y10 y11 y12 y13
      unfold spec_HouseOk.j2
      repeat' first
      | (with_reducible exact ih0 _ _ _ _)
      | (with_reducible exact ih1 _ _ _ _ _)
      | (with_reducible exact ih2 _ _ _ _ _ _ _ _ _ _ _ _ _ _)
      | (with_reducible exact ih3 _ _ _ _ _ _ _ _ _ _ _ _ _)
      | (with_reducible exact ih4 _ _ _ _ _)
      | (with_reducible exact ih5 _ _ _ _ _ _)
      | (with_reducible exact LeO.refl _)
      | (with_reducible exact LeO.none _)
      | (with_reducible refine LeO.ite ?_ ?_)
      | (with_reducible refine LeO.bind ?_ (fun _ => ?_))
      | exact ih0 _ _ _ _
      | exact ih1 _ _ _ _ _
      | exact ih2 _ _ _ _ _ _ _ _ _ _ _ _ _ _
      | exact ih3 _ _ _ _ _ _ _ _ _ _ _ _ _
      | exact ih4 _ _ _ _ _
      | exact ih5 _ _ _ _ _ _
      | exact LeO.none _
      | refine LeO.ite ?_ ?_
      | refine LeO.bind ?_ (fun _ => ?_)
    · intro y0 y1 y2 y3 y4 y5 y6 y7 y8 y9 y10 y11 y12
      unfold spec_HouseOk.j3
      repeat' first
      | (with_reducible exact ih0 _ _ _ _)
      | (with_reducible exact ih1 _ _ _ _ _)
      | (with_reducible exact ih2 _ _ _ _ _ _ _ _ _ _ _ _ _ _)
      | (with_reducible exact ih3 _ _ _ _ _ _ _ _ _ _ _ _ _)
      | (with_reducible exact ih4 _ _ _ _ _)
      | (with_reducible exact ih5 _ _ _ _ _ _)
      | (with_reducible exact LeO.refl _)
      | (with_reducible exact LeO.none _)
      | (with_reducible refine LeO.ite ?_ ?_)
      | (with_reducible refine LeO.bind ?_ (fun _ => ?_))
      | exact ih0 _ _ _ _
      | exact ih1 _ _ _ _ _
      | exact ih2 _ _ _ _ _ _ _ _ _ _ _ _ _ _
      | exact ih3 _ _ _ _ _ _ _ _ _ _ _ _ _
      | exact ih4 _ _ _ _ _
      | exact ih5 _ _ _ _ _ _
      | exact LeO.none _
      | refine LeO.ite ?_ ?_
      | refine LeO.bind ?_ (fun _ => ?_)
    · intro y0 y1 y2 y3 y4
      unfold spec_HouseOk.l1
      repeat' first
      | (with_reducible exact ih0 _ _ _ _)
      | (with_reducible exact ih1 _ _ _ _ _)
      | (with_reducible exact ih2 _ _ _ _ _ _ _ _ _ _ _ _ _ _)
      | (with_reducible exact ih3 _ _ _ _ _ _ _ _ _ _ _ _ _)
      | (with_reducible exact ih4 _ _ _ _ _)
      | (with_reducible exact ih5 _ _ _ _ _ _)
      | (with_reducible exact LeO.refl _)
      | (with_reducible exact LeO.none _)
      | (with_reducible refine LeO.ite ?_ ?_)
      | (with_reducible refine LeO.bind ?_ (fun _ => ?_))
      | exact ih0 _ _ _ _
      | exact ih1 _ _ _ _ _
      | exact ih2 _ _ _ _ _ _ _ _ _ _ _ _ _ _
      | exact ih3 _ _ _ _ _ _ _ _ _ _ _ _ _
      | exact ih4 _ _ _ _ _
      | exact ih5 _ _ _ _ _ _
      | exact LeO.none _
      | refine LeO.ite ?_ ?_
      | refine LeO.bind ?_ (fun _ => ?_)
    · intro y0 y1 y2 y3 y4 y5
      unfold spec_HouseOk.j5
      repeat' first
      | (with_reducible exact ih0 _ _ _ _)
      | (with_reducible exact ih1 _ _ _ _ _)
      | (with_reducible exact ih2 _ _ _ _ _ _ _ _ _ _ _ _ _ _)
      | (with_reducible exact ih3 _ _ _ _ _ _ _ _ _ _ _ _ _)
      | (with_reducible exact ih4 _ _ _ _ _)
      | (with_reducible exact ih5 _ _ _ _ _ _)
      | (with_reducible exact LeO.refl _)
      | (with_reducible exact LeO.none _)
      | (with_reducible refine LeO.ite ?_ ?_)
      | (with_reducible refine LeO.bind ?_ (fun _ => ?_))
      | exact ih0 _ _ _ _
      | exact ih1 _ _ _ _ _
      | exact ih2 _ _ _ _ _ _ _ _ _ _ _ _ _ _
      | exact ih3 _ _ _ _ _ _ _ _ _ _ _ _ _
      | exact ih4 _ _ _ _ _
      | exact ih5 _ _ _ _ _ _
      | exact LeO.none _
      | refine LeO.ite ?_ ?_
      | refine LeO.bind ?_ (fun _ => ?_)
theorem spec_HouseOk.mono : ∀ a0 a1 a2 k, LeO (spec_HouseOk.f k a0 a1 a2) (spec_HouseOk.f (k + 1) a0 a1 a2) := by
  intro a0 a1 a2 k
  obtain ⟨ih0, ih1, ih2, ih3, ih4, ih5⟩ := spec_HouseOk.mono_l k
  unfold spec_HouseOk.f
  repeat' first
      | (with_reducible exact ih0 _ _ _ _)
      | (with_reducible exact ih1 _ _ _ _ _)
      | (with_reducible exact ih2 _ _ _ _ _ _ _ _ _ _ _ _ _ _)
      | (with_reducible exact ih3 _ _ _ _ _ _ _ _ _ _ _ _ _)
      | (with_reducible exact ih4 _ _ _ _ _)
      | (with_reducible exact ih5 _ _ _ _ _ _)
      | (with_reducible exact LeO.refl _)
      | (with_reducible exact LeO.none _)
      | (with_reducible refine LeO.ite ?_ ?_)
      | (with_reducible refine LeO.bind ?_ (fun _ => ?_))
      | exact ih0 _ _ _ _
      | exact ih1 _ _ _ _ _
      | exact ih2 _ _ _ _ _ _ _ _ _ _ _ _ _ _
      | exact ih3 _ _ _ _ _ _ _ _ _ _ _ _ _
      | exact ih4 _ _ _ _ _
      | exact ih5 _ _ _ _ _ _
      | exact LeO.none _
      | refine LeO.ite ?_ ?_
      | refine LeO.bind ?_ (fun _ => ?_)
def spec_HouseOk.T9 : Bool × List (List Nat × List Nat) := (true, [([], []), ([0], [0]), ([1], [1]), ([2], [2]), ([3, 2], [2, 3]), ([4, 2, 2], [2, 4]), ([5, 2], [2, 5]), ([2, 6], [2, 6]), ([7, 5], [7]), ([8], [8]), ([9, 8], [8, 9]), ([10, 8, 8], [8, 10]), ([11], [11]), ([12, 11], [11, 12]), ([11], [11]), ([14, 11], [11, 14]), ([13, 15, 11], [11, 13, 15]), ([16, 11], [11, 16]), ([17, 11], [11, 17]), ([11], [11]), ([19, 11], [11, 19]), ([18, 20, 11], [11, 18, 20]), ([11, 21, 8], [8, 11, 21]), ([8, 22], [8, 22]), ([23, 11], [23]), ([24], [24]), ([25, 24], [24, 25]), ([24], [24]), ([27, 24], [24, 27]), ([28, 24], [24, 28]), ([29, 24], [24, 29]), ([26, 30, 24, 24], [24, 26, 30]), ([31, 24], [24, 31]), ([24, 32], [24, 32]), ([33, 31], [33]), ([34], [34]), ([35, 34], [34, 35]), ([36, 34, 34], [34, 36]), ([37, 34], [34, 37]), ([34, 38], [34, 38])])
def spec_HouseOk.B9 : List Nat := [0, 1, 3, 7, 15, 31, 63, 127, 255, 511, 1023, 2047, 4095, 8191, 4095, 20479, 65535, 131071, 262143, 4095, 528383, 2097151, 4194303, 8388607, 16777215, 33554431, 67108863, 33554431, 167772159, 436207615, 973078527, 2147483647, 4294967295, 8589934591, 17179869183, 34359738367, 68719476735, 137438953471, 274877906943, 549755813887]
theorem spec_HouseOk.tab9 : rtab .any (opsOf Try.f40 9) = spec_HouseOk.T9 := by kernel_rfl
theorem spec_HouseOk.bits9 : waitsOk spec_HouseOk.T9.2 spec_HouseOk.B9 = true := by kernel_rfl
def spec_HouseOk.T15 : Bool × List (List Nat × List Nat) := (true, [([], []), ([], []), ([1], [1]), ([], []), ([], []), ([4], [4]), ([3, 5], [3, 5]), ([6], [6]), ([], []), ([7, 8], [7, 8]), ([0, 2, 0, 1, 2, 3, 4, 5, 6, 7, 8, 9], [0, 2]), ([10, 9, 0, 1, 2, 3, 4, 5, 6, 7, 8, 9], [9, 10])])
def spec_HouseOk.B15 : List Nat := [0, 0, 2, 0, 0, 16, 56, 120, 0, 504, 1023, 2047]
theorem spec_HouseOk.tab15 : rtab .any (opsOf Try.f40 15) = spec_HouseOk.T15 := by kernel_rfl
theorem spec_HouseOk.bits15 : waitsOk spec_HouseOk.T15.2 spec_HouseOk.B15 = true := by kernel_rfl
def spec_HouseOk.T20 : Bool × List (List Nat × List Nat) := (true, [([], []), ([0], [0]), ([1], [1]), ([2], [2]), ([3, 2], [3]), ([4], [4]), ([5, 4], [4, 5]), ([6, 4, 4], [4, 6]), ([7, 4], [4, 7]), ([4, 8], [4, 8]), ([9, 7], [9]), ([10], [10]), ([11, 10], [10, 11]), ([10], [10]), ([13, 10], [10, 13]), ([12, 14, 10, 10], [10, 12, 14]), ([15, 10], [10, 15]), ([10, 16], [10, 16]), ([17, 15], [17]), ([18], [18]), ([19, 18], [18, 19]), ([18], [18]), ([18], [18]), ([21, 22, 18], [18, 21, 22]), ([23, 18], [18, 23]), ([20, 24, 18], [18, 20, 24]), ([18, 25], [18, 25])])
def spec_HouseOk.B20 : List Nat := [0, 1, 3, 7, 15, 31, 63, 127, 255, 511, 1023, 2047, 4095, 2047, 10239, 32767, 65535, 131071, 262143, 524287, 1048575, 524287, 524287, 6815743, 15204351, 33554431, 67108863]
theorem spec_HouseOk.tab20 : rtab .any (opsOf Try.f40 20) = spec_HouseOk.T20 := by kernel_rfl
theorem spec_HouseOk.bits20 : waitsOk spec_HouseOk.T20.2 spec_HouseOk.B20 = true := by kernel_rfl
abbrev spec_HouseOk.v0 : Array Bool := #[false, false, false, false, false, false, false, false, false, false, false, false, false, false, false, false, false, false, false, false, false, false, false, false, false, false, false, false, false, false, false, false, false, false, false, false, false, false, false, false]
abbrev spec_HouseOk.v1 : Array Bool := #[true, false, false, false, false, false, false, false, false, false, false, false, false, false, false, false, false, false, false, false, false, false, false, false, false, false, false, false, false, false, false, false, false, false, false, false, false, false, false, false]
abbrev spec_HouseOk.v2 : Array Bool := #[true, true, false, false, false, false, false, false, false, false, false, false, false, false, false, false, false, false, false, false, false, false, false, false, false, false, false, false, false, false, false, false, false, false, false, false, false, false, false, false]
abbrev spec_HouseOk.v3 : Array Bool := #[true, true, true, false, false, false, false, false, false, false, false, false, false, false, false, false, false, false, false, false, false, false, false, false, false, false, false, false, false, false, false, false, false, false, false, false, false, false, false, false]
abbrev spec_HouseOk.v4 : Array Bool := #[true, true, true, true, false, false, false, false, false, false, false, false, false, false, false, false, false, false, false, false, false, false, false, false, false, false, false, false, false, false, false, false, false, false, false, false, false, false, false, false]
abbrev spec_HouseOk.v5 : Array Bool := #[true, true, true, true, true, false, false, false, false, false, false, false, false, false, false, false, false, false, false, false, false, false, false, false, false, false, false, false, false, false, false, false, false, false, false, false, false, false, false, false]
abbrev spec_HouseOk.v6 : Array Bool := #[true, true, true, true, true, true, false, false, false, false, false, false, false, false, false, false, false, false, false, false, false, false, false, false, false, false, false, false, false, false, false, false, false, false, false, false, false, false, false, false]
abbrev spec_HouseOk.v7 : Array Bool := #[true, true, true, true, true, true, true, false, false, false, false, false, false, false, false, false, false, false, false, false, false, false, false, false, false, false, false, false, false, false, false, false, false, false, false, false, false, false, false, false]
abbrev spec_HouseOk.v8 : Array Bool := #[true, true, true, true, true, true, true, true, false, false, false, false, false, false, false, false, false, false, false, false, false, false, false, false, false, false, false, false, false, false, false, false, false, false, false, false, false, false, false, false]
abbrev spec_HouseOk.v9 : Array Bool := #[true, true, true, true, true, true, true, true, true, false, false, false, false, false, false, false, false, false, false, false, false, false, false, false, false, false, false, false, false, false, false, false, false, false, false, false, false, false, false, false]
abbrev spec_HouseOk.v10 : Array Bool := #[true, true, true, true, true, true, true, true, true, true, false, false, false, false, false, false, false, false, false, false, false, false, false, false, false, false, false, false, false, false, false, false, false, false, false, false, false, false, false, false]
abbrev spec_HouseOk.v11 : Array Bool := #[true, true, true, true, true, true, true, true, true, true, true, false, false, false, false, false, false, false, false, false, false, false, false, false, false, false, false, false, false, false, false, false, false, false, false, false, false, false, false, false]
abbrev spec_HouseOk.v12 : Array Bool := #[true, true, true, true, true, true, true, true, true, true, true, true, false, false, false, false, false, false, false, false, false, false, false, false, false, false, false, false, false, false, false, false, false, false, false, false, false, false, false, false]
abbrev spec_HouseOk.v13 : Array Bool := #[true, true, true, true, true, true, true, true, true, true, true, true, true, false, false, false, false, false, false, false, false, false, false, false, false, false, false, false, false, false, false, false, false, false, false, false, false, false, false, false]
abbrev spec_HouseOk.v14 : Array Bool := #[true, true, true, true, true, true, true, true, true, true, true, true, true, false, true, false, false, false, false, false, false, false, false, false, false, false, false, false, false, false, false, false, false, false, false, false, false, false, false, false]
abbrev spec_HouseOk.v15 : Array Bool := #[true, true, true, true, true, true, true, true, true, true, true, true, true, false, true, true, false, false, false, false, false, false, false, false, false, false, false, false, false, false, false, false, false, false, false, false, false, false, false, false]
abbrev spec_HouseOk.v16 : Array Bool := #[true, true, true, true, true, true, true, true, true, true, true, true, true, false, true, true, false, false, false, true, false, false, false, false, false, false, false, false, false, false, false, false, false, false, false, false, false, false, false, false]
abbrev spec_HouseOk.v17 : Array Bool := #[true, true, true, true, true, true, true, true, true, true, true, true, true, true, true, true, false, false, false, true, false, false, false, false, false, false, false, false, false, false, false, false, false, false, false, false, false, false, false, false]
abbrev spec_HouseOk.v18 : Array Bool := #[true, true, true, true, true, true, true, true, true, true, true, true, true, true, true, true, true, false, false, true, false, false, false, false, false, false, false, false, false, false, false, false, false, false, false, false, false, false, false, false]
abbrev spec_HouseOk.v19 : Array Bool := #[true, true, true, true, true, true, true, true, true, true, true, true, true, true, true, true, true, true, false, true, false, false, false, false, false, false, false, false, false, false, false, false, false, false, false, false, false, false, false, false]
abbrev spec_HouseOk.v20 : Array Bool := #[true, true, true, true, true, true, true, true, true, true, true, true, true, true, true, true, true, true, true, true, false, false, false, false, false, false, false, false, false, false, false, false, false, false, false, false, false, false, false, false]
abbrev spec_HouseOk.v21 : Array Bool := #[true, true, true, true, true, true, true, true, true, true, true, true, true, true, true, true, true, true, true, true, true, false, false, false, false, false, false, false, false, false, false, false, false, false, false, false, false, false, false, false]
abbrev spec_HouseOk.v22 : Array Bool := #[true, true, true, true, true, true, true, true, true, true, true, true, true, true, true, true, true, true, true, true, true, true, false, false, false, false, false, false, false, false, false, false, false, false, false, false, false, false, false, false]
abbrev spec_HouseOk.v23 : Array Bool := #[true, true, true, true, true, true, true, true, true, true, true, true, true, true, true, true, true, true, true, true, true, true, true, false, false, false, false, false, false, false, false, false, false, false, false, false, false, false, false, false]
abbrev spec_HouseOk.v24 : Array Bool := #[true, true, true, true, true, true, true, true, true, true, true, true, true, true, true, true, true, true, true, true, true, true, true, true, false, false, false, false, false, false, false, false, false, false, false, false, false, false, false, false]
abbrev spec_HouseOk.v25 : Array Bool := #[true, true, true, true, true, true, true, true, true, true, true, true, true, true, true, true, true, true, true, true, true, true, true, true, true, false, false, false, false, false, false, false, false, false, false, false, false, false, false, false]
abbrev spec_HouseOk.v26 : Array Bool := #[true, true, true, true, true, true, true, true, true, true, true, true, true, true, true, true, true, true, true, true, true, true, true, true, true, true, false, false, false, false, false, false, false, false, false, false, false, false, false, false]
abbrev spec_HouseOk.v27 : Array Bool := #[true, true, true, true, true, true, true, true, true, true, true, true, true, true, true, true, true, true, true, true, true, true, true, true, true, true, true, false, false, false, false, false, false, false, false, false, false, false, false, false]
abbrev spec_HouseOk.v28 : Array Bool := #[true, true, true, true, true, true, true, true, true, true, true, true, true, true, true, true, true, true, true, true, true, true, true, true, true, true, true, true, false, false, false, false, false, false, false, false, false, false, false, false]
abbrev spec_HouseOk.v29 : Array Bool := #[true, true, true, true, true, true, true, true, true, true, true, true, true, true, true, true, true, true, true, true, true, true, true, true, true, true, true, true, true, false, false, false, false, false, false, false, false, false, false, false]
abbrev spec_HouseOk.v30 : Array Bool := #[true, true, true, true, true, true, true, true, true, true, true, true, true, true, true, true, true, true, true, true, true, true, true, true, true, true, true, true, true, true, false, false, false, false, false, false, false, false, false, false]
abbrev spec_HouseOk.v31 : Array Bool := #[true, true, true, true, true, true, true, true, true, true, true, true, true, true, true, true, true, true, true, true, true, true, true, true, true, true, true, true, true, true, true, false, false, false, false, false, false, false, false, false]
abbrev spec_HouseOk.v32 : Array Bool := #[true, true, true, true, true, true, true, true, true, true, true, true, true, true, true, true, true, true, true, true, true, true, true, true, true, true, true, true, true, true, true, true, false, false, false, false, false, false, false, false]
abbrev spec_HouseOk.v33 : Array Bool := #[true, true, true, true, true, true, true, true, true, true, true, true, true, true, true, true, true, true, true, true, true, true, true, true, true, true, true, true, true, true, true, true, true, false, false, false, false, false, false, false]
abbrev spec_HouseOk.v34 : Array Bool := #[true, true, true, true, true, true, true, true, true, true, true, true, true, true, true, true, true, true, true, true, true, true, true, true, true, true, true, true, true, true, true, true, true, true, false, false, false, false, false, false]
abbrev spec_HouseOk.v35 : Array Bool := #[true, true, true, true, true, true, true, true, true, true, true, true, true, true, true, true, true, true, true, true, true, true, true, true, true, true, true, true, true, true, true, true, true, true, true, false, false, false, false, false]
abbrev spec_HouseOk.v36 : Array Bool := #[true, true, true, true, true, true, true, true, true, true, true, true, true, true, true, true, true, true, true, true, true, true, true, true, true, true, true, true, true, true, true, true, true, true, true, true, false, false, false, false]
abbrev spec_HouseOk.v37 : Array Bool := #[true, true, true, true, true, true, true, true, true, true, true, true, true, true, true, true, true, true, true, true, true, true, true, true, true, true, true, true, true, true, true, true, true, true, true, true, true, false, false, false]
abbrev spec_HouseOk.v38 : Array Bool := #[true, true, true, true, true, true, true, true, true, true, true, true, true, true, true, true, true, true, true, true, true, true, true, true, true, true, true, true, true, true, true, true, true, true, true, true, true, true, false, false]
abbrev spec_HouseOk.v39 : Array Bool := #[true, true, true, true, true, true, true, true, true, true, true, true, true, true, true, true, true, true, true, true, true, true, true, true, true, true, true, true, true, true, true, true, true, true, true, true, true, true, true, false]
abbrev spec_HouseOk.v40 : Array Bool := #[true, true, true, true, true, true, true, true, true, true, true, true, true, true, true, true, true, true, true, true, true, true, true, true, true, true, true, true, true, true, true, true, true, true, true, true, true, true, true, true]
abbrev spec_HouseOk.v41 : Array Bool := #[true, true, true, true, true, true, true, true, true, true, true, true, true, true, true, true, true, true, true, true, true, true, true, true, true, true, false, true, false, false, false, false, false, false, false, false, false, false, false, false]
abbrev spec_HouseOk.v42 : Array Bool := #[true, true, true, true, true, true, true, true, true, true, true, true, true, true, false, false, false, false, false, false, false, false, false, false, false, false, false, false, false, false, false, false, false, false, false, false, false, false, false, false]
abbrev spec_HouseOk.v43 : Array Bool := #[true, true, true, true, true, true, true, true, true, true, true, true, true, true, true, false, false, false, false, false, false, false, false, false, false, false, false, false, false, false, false, false, false, false, false, false, false, false, false, false]
abbrev spec_HouseOk.v44 : Array Bool := #[true, true, true, true, true, true, true, true, true, true, true, true, true, true, true, true, false, false, false, false, false, false, false, false, false, false, false, false, false, false, false, false, false, false, false, false, false, false, false, false]
abbrev spec_HouseOk.v45 : Array Bool := #[true, true, true, true, true, true, true, true, true, true, true, true, true, true, true, true, true, false, false, false, false, false, false, false, false, false, false, false, false, false, false, false, false, false, false, false, false, false, false, false]
abbrev spec_HouseOk.v46 : Array Bool := #[true, true, true, true, true, true, true, true, true, true, true, true, true, true, true, true, true, true, false, false, false, false, false, false, false, false, false, false, false, false, false, false, false, false, false, false, false, false, false, false]
abbrev spec_HouseOk.v47 : Array Bool := #[true, true, true, true, true, true, true, true, true, true, true, true, true, true, true, true, true, true, true, false, false, false, false, false, false, false, false, false, false, false, false, false, false, false, false, false, false, false, false, false]
abbrev spec_HouseOk.v48 : Array Bool := #[false, false, false, false, false, false, false, false, false, false, false, false]
abbrev spec_HouseOk.v49 : Array Bool := #[true, false, false, false, false, false, false, false, false, false, false, false]
abbrev spec_HouseOk.v50 : Array Bool := #[true, true, false, false, false, false, false, false, false, false, false, false]
abbrev spec_HouseOk.v51 : Array Bool := #[true, true, false, true, false, false, false, false, false, false, false, false]
abbrev spec_HouseOk.v52 : Array Bool := #[true, true, false, true, true, false, false, false, false, false, false, false]
abbrev spec_HouseOk.v53 : Array Bool := #[true, true, false, true, true, false, false, false, true, false, false, false]
abbrev spec_HouseOk.v54 : Array Bool := #[true, true, true, true, true, false, false, false, true, false, false, false]
abbrev spec_HouseOk.v55 : Array Bool := #[true, true, true, true, true, true, false, false, true, false, false, false]
abbrev spec_HouseOk.v56 : Array Bool := #[true, true, true, true, true, true, true, false, true, false, false, false]
abbrev spec_HouseOk.v57 : Array Bool := #[true, true, true, true, true, true, true, true, true, false, false, false]
abbrev spec_HouseOk.v58 : Array Bool := #[true, true, true, true, true, true, true, true, true, true, false, false]
abbrev spec_HouseOk.v59 : Array Bool := #[true, true, true, true, true, true, true, true, true, true, true, false]
abbrev spec_HouseOk.v60 : Array Bool := #[true, true, true, true, true, true, true, true, true, true, true, true]
abbrev spec_HouseOk.v61 : Array Bool := #[false, false, false, false, false, false, false, false, false, false, false, false, false, false, false, false, false, false, false, false, false, false, false, false, false, false, false]
abbrev spec_HouseOk.v62 : Array Bool := #[true, false, false, false, false, false, false, false, false, false, false, false, false, false, false, false, false, false, false, false, false, false, false, false, false, false, false]
abbrev spec_HouseOk.v63 : Array Bool := #[true, true, false, false, false, false, false, false, false, false, false, false, false, false, false, false, false, false, false, false, false, false, false, false, false, false, false]
abbrev spec_HouseOk.v64 : Array Bool := #[true, true, true, false, false, false, false, false, false, false, false, false, false, false, false, false, false, false, false, false, false, false, false, false, false, false, false]
abbrev spec_HouseOk.v65 : Array Bool := #[true, true, true, true, false, false, false, false, false, false, false, false, false, false, false, false, false, false, false, false, false, false, false, false, false, false, false]
abbrev spec_HouseOk.v66 : Array Bool := #[true, true, true, true, true, false, false, false, false, false, false, false, false, false, false, false, false, false, false, false, false, false, false, false, false, false, false]
abbrev spec_HouseOk.v67 : Array Bool := #[true, true, true, true, true, true, false, false, false, false, false, false, false, false, false, false, false, false, false, false, false, false, false, false, false, false, false]
abbrev spec_HouseOk.v68 : Array Bool := #[true, true, true, true, true, true, true, false, false, false, false, false, false, false, false, false, false, false, false, false, false, false, false, false, false, false, false]
abbrev spec_HouseOk.v69 : Array Bool := #[true, true, true, true, true, true, true, true, false, false, false, false, false, false, false, false, false, false, false, false, false, false, false, false, false, false, false]
abbrev spec_HouseOk.v70 : Array Bool := #[true, true, true, true, true, true, true, true, true, false, false, false, false, false, false, false, false, false, false, false, false, false, false, false, false, false, false]
abbrev spec_HouseOk.v71 : Array Bool := #[true, true, true, true, true, true, true, true, true, true, false, false, false, false, false, false, false, false, false, false, false, false, false, false, false, false, false]
abbrev spec_HouseOk.v72 : Array Bool := #[true, true, true, true, true, true, true, true, true, true, true, false, false, false, false, false, false, false, false, false, false, false, false, false, false, false, false]
abbrev spec_HouseOk.v73 : Array Bool := #[true, true, true, true, true, true, true, true, true, true, true, true, false, false, false, false, false, false, false, false, false, false, false, false, false, false, false]
abbrev spec_HouseOk.v74 : Array Bool := #[true, true, true, true, true, true, true, true, true, true, true, true, false, true, false, false, false, false, false, false, false, false, false, false, false, false, false]
abbrev spec_HouseOk.v75 : Array Bool := #[true, true, true, true, true, true, true, true, true, true, true, true, true, true, false, false, false, false, false, false, false, false, false, false, false, false, false]
abbrev spec_HouseOk.v76 : Array Bool := #[true, true, true, true, true, true, true, true, true, true, true, true, true, true, true, false, false, false, false, false, false, false, false, false, false, false, false]
abbrev spec_HouseOk.v77 : Array Bool := #[true, true, true, true, true, true, true, true, true, true, true, true, true, true, true, true, false, false, false, false, false, false, false, false, false, false, false]
abbrev spec_HouseOk.v78 : Array Bool := #[true, true, true, true, true, true, true, true, true, true, true, true, true, true, true, true, true, false, false, false, false, false, false, false, false, false, false]
abbrev spec_HouseOk.v79 : Array Bool := #[true, true, true, true, true, true, true, true, true, true, true, true, true, true, true, true, true, true, false, false, false, false, false, false, false, false, false]
abbrev spec_HouseOk.v80 : Array Bool := #[true, true, true, true, true, true, true, true, true, true, true, true, true, true, true, true, true, true, true, false, false, false, false, false, false, false, false]
abbrev spec_HouseOk.v81 : Array Bool := #[true, true, true, true, true, true, true, true, true, true, true, true, true, true, true, true, true, true, true, true, false, false, false, false, false, false, false]
abbrev spec_HouseOk.v82 : Array Bool := #[true, true, true, true, true, true, true, true, true, true, true, true, true, true, true, true, true, true, true, true, false, true, false, false, false, false, false]
abbrev spec_HouseOk.v83 : Array Bool := #[true, true, true, true, true, true, true, true, true, true, true, true, true, true, true, true, true, true, true, true, false, true, true, false, false, false, false]
abbrev spec_HouseOk.v84 : Array Bool := #[true, true, true, true, true, true, true, true, true, true, true, true, true, true, true, true, true, true, true, true, false, true, true, true, false, false, false]
abbrev spec_HouseOk.v85 : Array Bool := #[true, true, true, true, true, true, true, true, true, true, true, true, true, true, true, true, true, true, true, true, true, true, true, true, false, false, false]
abbrev spec_HouseOk.v86 : Array Bool := #[true, true, true, true, true, true, true, true, true, true, true, true, true, true, true, true, true, true, true, true, true, true, true, true, true, false, false]
abbrev spec_HouseOk.v87 : Array Bool := #[true, true, true, true, true, true, true, true, true, true, true, true, true, true, true, true, true, true, true, true, true, true, true, true, true, true, false]
abbrev spec_HouseOk.v88 : Array Bool := #[true, true, true, true, true, true, true, true, true, true, true, true, true, true, true, true, true, true, true, true, true, true, true, true, true, true, true]
abbrev spec_HouseOk.v89 : Array Bool := #[true, true, true, true, true, true, true, true, true, true, true, true, true, true, true, true, true, true, true, true, true, false, false, false, false, false, false]
abbrev spec_HouseOk.v90 : Array Bool := #[true, true, true, true, true, true, true, true, true, true, true, true, true, true, true, true, true, true, true, true, true, true, false, false, false, false, false]
abbrev spec_HouseOk.v91 : Array Bool := #[true, true, true, true, true, true, true, true, true, true, true, true, true, true, true, true, true, true, true, true, true, true, true, false, false, false, false]
abbrev spec_HouseOk.v92 : Array Bool := #[true, true, true, true, true, true, true, true, true, true, true, true, true, false, false, false, false, false, false, false, false, false, false, false, false, false, false]
theorem spec_HouseOk.cl3 {w : World} {g : Nat} {t : TypeId} {c0 c1 c2 : Value} (h : w.heap[g]? = some (.cells #[c0, c1, c2] t (0, 0))) : w.cell? ⟨g, 0, none⟩ = some c0 ∧ w.cell? ⟨g, 1, none⟩ = some c1 ∧ w.cell? ⟨g, 2, none⟩ = some c2 := ⟨(blk_cell h 0).trans rfl, (blk_cell h 1).trans rfl, (blk_cell h 2).trans rfl⟩
theorem spec_HouseOk.fz3 {w : World} {g : Nat} {t : TypeId} {c0 c1 c2 : Value} (h : w.heap[g]? = some (.cells #[c0, c1, c2] t (0, 0))) : w.frozen? ⟨g, 0, none⟩ = false ∧ w.frozen? ⟨g, 1, none⟩ = false ∧ w.frozen? ⟨g, 2, none⟩ = false := ⟨blk_frozen h 0, blk_frozen h 1, blk_frozen h 2⟩
theorem spec_HouseOk.cl7 {w : World} {g : Nat} {t : TypeId} {c0 c1 c2 c3 c4 c5 c6 : Value} (h : w.heap[g]? = some (.cells #[c0, c1, c2, c3, c4, c5, c6] t (0, 0))) : w.cell? ⟨g, 0, none⟩ = some c0 ∧ w.cell? ⟨g, 1, none⟩ = some c1 ∧ w.cell? ⟨g, 2, none⟩ = some c2 ∧ w.cell? ⟨g, 3, none⟩ = some c3 ∧ w.cell? ⟨g, 4, none⟩ = some c4 ∧ w.cell? ⟨g, 5, none⟩ = some c5 ∧ w.cell? ⟨g, 6, none⟩ = some c6 := ⟨(blk_cell h 0).trans rfl, (blk_cell h 1).trans rfl, (blk_cell h 2).trans rfl, (blk_cell h 3).trans rfl, (blk_cell h 4).trans rfl, (blk_cell h 5).trans rfl, (blk_cell h 6).trans rfl⟩
theorem spec_HouseOk.fz7 {w : World} {g : Nat} {t : TypeId} {c0 c1 c2 c3 c4 c5 c6 : Value} (h : w.heap[g]? = some (.cells #[c0, c1, c2, c3, c4, c5, c6] t (0, 0))) : w.frozen? ⟨g, 0, none⟩ = false ∧ w.frozen? ⟨g, 1, none⟩ = false ∧ w.frozen? ⟨g, 2, none⟩ = false ∧ w.frozen? ⟨g, 3, none⟩ = false ∧ w.frozen? ⟨g, 4, none⟩ = false ∧ w.frozen? ⟨g, 5, none⟩ = false ∧ w.frozen? ⟨g, 6, none⟩ = false := ⟨blk_frozen h 0, blk_frozen h 1, blk_frozen h 2, blk_frozen h 3, blk_frozen h 4, blk_frozen h 5, blk_frozen h 6⟩
set_option maxHeartbeats 8000000 in
set_option maxRecDepth 100000 in
theorem spec_HouseOk.calls (k : Nat) (A0_0 : Option Addr) (c0_0 : Nat) (l0_0 : List (S119)) (A0_1 : Option Addr) (c0_1 : Nat) (l0_1 : List (S122)) (a0_2 : Int) (r : Bool) (w : World) (hr0_0 : Kd.C k119 w A0_0 l0_0.length l0_0) (hc0_0 : l0_0.length ≤ c0_0) (hr0_1 : Kd.C k122 w A0_1 l0_1.length l0_1) (hc0_1 : l0_1.length ≤ c0_1) (h : spec_HouseOk.f k l0_0 l0_1 a0_2 = some r) :
 Calls Try.prog 40 #[.agg #[.slice A0_0 l0_0.length c0_0, .slice A0_1 l0_1.length c0_1, .int .i64 a0_2]] w fun e w' => e = .returned (.bool r) ∧ Below w.heap.size w w' := by
 have hu75 := Try.underlying75
 have hu119 := Try.underlying119
 have hu122 := Try.underlying122
 have HR0_0 := Aside0.mk hr0_0
 have HC0_0 := Aside0.mk hc0_0
 clear hr0_0 hc0_0
 have HR0_1 := Aside0.mk hr0_1
 have HC0_1 := Aside0.mk hc0_1
 clear hr0_1 hc0_1
 have HB := Aside0.mk (Below.refl w.heap.size w)
 have H : (if (l0_0.length : Int) > 40 then (spec_HouseOk.j0 k true l0_0 l0_1 a0_2) else (if (l0_1.length : Int) > 10 then (spec_HouseOk.j0 k true l0_0 l0_1 a0_2) else ((spec_l1In.f a0_2 0 1000000000000000).bind fun t108 => (spec_HouseOk.j0 k (!t108) l0_0 l0_1 a0_2)))) = some r := h
 clear h
 have HC2 := Aside0.mk H
 clear H
 go_enter Try.func40, Try.ntmps40
 go_upto_region 1 with (first | ((with_reducible refine gate_dst (N := 1) rfl ?_); (try (refine gate_guard (by rfl) ?_; dsimp only)); refine box_event ?hg (N := 1) ?hd (cs := #[.slice A0_0 l0_0.length c0_0, .slice A0_1 l0_1.length c0_1, .int .i64 a0_2]) (t := 75) ?hr ?_; (case hd => rfl); (case hg => rfl); (case hr => first | (go_simp; done) | (go_simp; rfl)); intro gb107 hg w3 hbox hb; have n0_ := Aside0.mk (below_step (by repeat (first | (with_reducible first | exact HB.out | apply below_alloc | apply pw_below_drewN | apply below_drew1) | exact HB.out)) hb); have n1_ := Aside0.mk (hbox); have n2_ := Aside0.mk ((by rw [hg]; exact (below_size (by repeat (first | (with_reducible first | exact HB.out | apply below_alloc | apply pw_below_drewN | apply below_drew1) | exact HB.out))) : w.heap.size ≤ gb107)); have n3_ := Aside0.mk ((by rw [hg]; exact (below_size (by repeat (first | (with_reducible first | exact HB.out | apply below_alloc | apply pw_below_drewN | apply below_drew1) | exact HB.out))) : w.heap.size ≤ gb107)); clear HB; have HB := n0_; have BK107 := n1_; have GW107 := n2_; have GE107 := n3_; clear n0_ n1_ n2_ n3_; clear hb hbox hg))
 (try simp only [Act.put, List.setIfInBounds_toArray, List.set_cons_zero, List.set_cons_succ])
 go_cut [25] (fun v25 wc => ∃ (kq : Nat) (x25_1 : Bool), v25 = .bool x25_1 ∧ Aside0 (spec_HouseOk.j0 kq x25_1 l0_0 l0_1 a0_2 = some r) ∧ Aside0 (kq ≤ k) ∧ Aside0 (wc.heap[gb107]? = some (.cells #[(.slice A0_0 l0_0.length c0_0), (.slice A0_1 l0_1.length c0_1), .int .i64 a0_2] 75 (0, 0))) ∧ Aside0 (Below w.heap.size w wc))
 case first =>
  have H := HC2.out
  clear HC2
  by_cases c4 : (l0_0.length : Int) > 40
  ·rw [if_pos c4] at H
   have c4b0 : decide (40 < (l0_0.length : Int)) = true := decide_eq_true c4
   have c4b1 : decide (40 < l0_0.length) = true := decide_eq_true (by omega)
   clear c4
   (first | rw [c4b0] | (simp only [i64_w, i32_w]; rw [c4b0]) | skip)
   have H' := Aside0.mk H
   clear H
   obtain ⟨hcz5_0, hcz5_1, hcz5_2⟩ := spec_HouseOk.cl3 BK107.out
   obtain ⟨hfz5_0, hfz5_1, hfz5_2⟩ := spec_HouseOk.fz3 BK107.out
   go_wp2
   go_meet
   case rel => exact ⟨_, (true), (by first | rfl | (simp; done) | (simp [*]; done)), H', ⟨by first | omega | exact Nat.le_refl _⟩, ⟨by (with_reducible repeat (first | refine blk_drewN ?_ _ | refine blk_drew ?_ | refine blk_alloc ?_ _)); exact BK107.out⟩, ⟨by repeat (first | (with_reducible first | exact HB.out | apply below_alloc | apply pw_below_drewN | apply below_drew1 | refine below_set ?_ GE107.out) | exact HB.out)⟩⟩
  ·rw [if_neg c4] at H
   have c4b0 : decide (40 < (l0_0.length : Int)) = false := decide_eq_false c4
   have c4b1 : decide (40 < l0_0.length) = false := decide_eq_false (by omega)
   clear c4
   (first | rw [c4b0] | (simp only [i64_w, i32_w]; rw [c4b0]) | skip)
   by_cases c6 : (l0_1.length : Int) > 10
   ·rw [if_pos c6] at H
    have c6b0 : decide (10 < (l0_1.length : Int)) = true := decide_eq_true c6
    have c6b1 : decide (10 < l0_1.length) = true := decide_eq_true (by omega)
    clear c6
    have H' := Aside0.mk H
    clear H
    obtain ⟨hcz7_0, hcz7_1, hcz7_2⟩ := spec_HouseOk.cl3 BK107.out
    obtain ⟨hfz7_0, hfz7_1, hfz7_2⟩ := spec_HouseOk.fz3 BK107.out
    go_wp2
    go_meet
    case rel => exact ⟨_, (true), (by first | rfl | (simp; done) | (simp [*]; done)), H', ⟨by first | omega | exact Nat.le_refl _⟩, ⟨by (with_reducible repeat (first | refine blk_drewN ?_ _ | refine blk_drew ?_ | refine blk_alloc ?_ _)); exact BK107.out⟩, ⟨by repeat (first | (with_reducible first | exact HB.out | apply below_alloc | apply pw_below_drewN | apply below_drew1 | refine below_set ?_ GE107.out) | exact HB.out)⟩⟩
   ·rw [if_neg c6] at H
    have c6b0 : decide (10 < (l0_1.length : Int)) = false := decide_eq_false c6
    have c6b1 : decide (10 < l0_1.length) = false := decide_eq_false (by omega)
    clear c6
    replace H := Option.bind_eq_some_iff.mp H
    obtain ⟨t108, A80, H⟩ := H
    (try dsimp only at H)
    have A8 := Aside0.mk A80
    clear A80
    have H' := Aside0.mk H
    clear H
    obtain ⟨hcz9_0, hcz9_1, hcz9_2⟩ := spec_HouseOk.cl3 BK107.out
    obtain ⟨hfz9_0, hfz9_1, hfz9_2⟩ := spec_HouseOk.fz3 BK107.out
    go_wp2_with (first | (go_at_call 51; (with_reducible refine (spec_l1In.calls a0_2 0 1000000000000000 t108 _ A8.out).mono ?_); rintro e w' ⟨rfl, ⟨nd, rfl⟩⟩))
    go_meet
    case rel => exact ⟨_, (!t108), (by first | rfl | (simp; done) | (simp [*]; done)), H', ⟨by first | omega | exact Nat.le_refl _⟩, ⟨by (with_reducible repeat (first | refine blk_drewN ?_ _ | refine blk_drew ?_ | refine blk_alloc ?_ _)); exact BK107.out⟩, ⟨by repeat (first | (with_reducible first | exact HB.out | apply below_alloc | apply pw_below_drewN | apply below_drew1 | refine below_set ?_ GE107.out) | exact HB.out)⟩⟩
 case rest =>
  clear HC2
  obtain ⟨kq, x25_1, rfl, HA, HJ1, BK107, HB⟩ := hcut
  cases kq with
  | zero => exact absurd HA.out (by simp [spec_HouseOk.j0])
  | succ kj1 =>
   have H := HA.out
   clear HA
   simp only [spec_HouseOk.j0] at H
   by_cases c10 : x25_1 = true
   ·subst c10
    rw [if_pos rfl] at H
    obtain rfl := Option.some.inj H
    go_wp2
    go_ret
    exact ⟨by first | rfl | (simp [errW_none, errW_some] <;> rfl) | (simp [*, errW_none, errW_some] <;> rfl), by repeat (first | (with_reducible first | exact HB.out | apply below_alloc | apply pw_below_drewN | apply below_drew1 | refine below_set ?_ GE107.out) | exact HB.out)⟩
   ·replace c10 := Bool.eq_false_iff.mpr c10
    subst c10
    rw [if_neg (show ¬ (false = true) by decide)] at H
    by_cases c11 : 0 ≤ (l0_1.length : Int)
    ·rw [if_pos c11] at H
     have c11b0 := eq_true c11
     have c11b1 : decide (0 ≤ (l0_1.length : Int)) = true := decide_eq_true c11
     clear c11
     by_cases c12 : ((l0_1.length : Int) : Int).toNat ≤ 35184372088832
     ·rw [if_pos c12] at H
      have c12b0 := eq_true c12
      have c12b1 : decide (((l0_1.length : Int) : Int).toNat ≤ 35184372088832) = true := decide_eq_true c12
      clear c12
      obtain ⟨y109, hy109⟩ : ∃ y_ : List Int, y_ = (List.replicate ((l0_1.length : Int) : Int).toNat 0) := ⟨_, rfl⟩
      replace H : (spec_HouseOk.l0 kj1 y109 0 l0_0 l0_1 a0_2) = some r := by first | (rw [hy109]; with_reducible exact H) | (have H2_ := (Option.bind_some _ _).symm.trans H; rw [hy109]; with_reducible exact H2_) | (have H2_ := (Option.bind_some _ _).symm.trans H; with_reducible exact H2_) | with_reducible exact H | (rw [hy109]; exact H) | exact H
      have Ny109 := Aside0.mk hy109
      clear hy109
      have H' := Aside0.mk H
      clear H
      obtain ⟨hcz13_0, hcz13_1, hcz13_2⟩ := spec_HouseOk.cl3 BK107.out
      obtain ⟨hfz13_0, hfz13_1, hfz13_2⟩ := spec_HouseOk.fz3 BK107.out
      go_wp2_with (first | ((with_reducible refine gate_dst (N := 29) rfl ?_); (try (refine gate_guard (by rfl) ?_; dsimp only)); refine Kd.R_make (Kd.int .i64) _ 3 rfl (N := 29) rfl 53 _ _ rfl (l0_1.length : Int) rfl rfl Try.underlying53 (.int .i64 0) 8 info3 rfl (by decide) (by omega) 0 (ok := fun _ => True) (okp := fun _ => True) rfl (fun _ hk => hk) trivial (of_decide_eq_true (by first | (with_reducible assumption) | assumption)) (Nat.le_trans (Nat.mul_le_mul_right _ (of_decide_eq_true (by first | (with_reducible assumption) | assumption) : (l0_1.length : Int).toNat ≤ 35184372088832)) (by omega)) (Below.refl _ _) (Nat.le_refl _) ?_; intro v110 w14 ho15 hb hg_ hnew_; clear hg_ hnew_; (first | rw [← Ny109.out] at ho15 | (simp only [Int.reduceToNat] at ho15; rw [← Ny109.out] at ho15)); have n0_ := Aside0.mk (Kd.R_lower ho15 (below_size (by repeat (first | (with_reducible first | exact HB.out | apply below_alloc | apply pw_below_drewN | apply below_drew1 | refine below_set ?_ GE107.out) | exact HB.out)))); have n1_ := Aside0.mk (blk_below (g := gb107) (by (with_reducible repeat (first | refine blk_drewN ?_ _ | refine blk_drew ?_ | refine blk_alloc ?_ _)); exact BK107.out) hb); have n2_ := Aside0.mk (below_step (by repeat (first | (with_reducible first | exact HB.out | apply below_alloc | apply pw_below_drewN | apply below_drew1 | refine below_set ?_ GE107.out) | exact HB.out)) hb); clear BK107; clear HB; have HO111 := n0_; have BK107 := n1_; have HB := n2_; clear n0_ n1_ n2_; clear hb ho15))
      go_loopg [4] kj1 (fun kq v4 w' => ∃ (x3_2 : List Int) (x4_2 : Int), v4 = .int .i64 x4_2 ∧ Aside0 (spec_HouseOk.l0 kq x3_2 x4_2 l0_0 l0_1 a0_2 = some r) ∧ Aside0 (kq ≤ kj1) ∧ Aside0 (Kd.R (Kd.int .i64) 3 w' w.heap.size (fun _ => True) v110 x3_2) ∧ Aside0 (w'.heap[gb107]? = some (.cells #[(.slice A0_0 l0_0.length c0_0), (.slice A0_1 l0_1.length c0_1), .int .i64 a0_2] 75 (0, 0))) ∧ Aside0 (Below w.heap.size w w'))
      case atStart => exact ⟨(y109), (0), (by first | rfl | (simp; done) | (simp [*]; done)), H', ⟨Nat.le_refl _⟩, ⟨by (with_reducible repeat (first | apply Kd.R_alloc | apply Kd.R_drewN | apply Kd.R_drew)); exact HO111.out⟩, ⟨by (with_reducible repeat (first | refine blk_drewN ?_ _ | refine blk_drew ?_ | refine blk_alloc ?_ _)); exact BK107.out⟩, ⟨by repeat (first | (with_reducible first | exact HB.out | apply below_alloc | apply pw_below_drewN | apply below_drew1 | refine below_set ?_ GE107.out) | exact HB.out)⟩⟩
      case round =>
       clear H'
       (try clear c10); (try clear c11); (try clear c11b0); (try clear c11b1); (try clear c12); (try clear c12b0); (try clear c12b1); (try clear hcz13_0); (try clear hcz13_1); (try clear hcz13_2); (try clear hfz13_0); (try clear hfz13_1); (try clear hfz13_2)
       obtain ⟨x3_2, x4_2, rfl, HA, HK2, HO_3, BK107, HB⟩ := hrel
       cases gk with
       | zero => exact absurd HA.out (by simp [spec_HouseOk.l0])
       | succ k2 =>
        have H := HA.out
        clear HA
        simp only [spec_HouseOk.l0] at H
        by_cases c16 : x4_2 < (l0_0.length : Int)
        ·rw [if_pos c16] at H
         have c16b0 : decide (x4_2 < (l0_0.length : Int)) = true := decide_eq_true c16
         clear c16
         by_cases c17 : 0 ≤ x4_2
         ·rw [if_pos c17] at H
          have c17b0 : decide (0 ≤ x4_2) = true := decide_eq_true c17
          clear c17
          replace H := Option.bind_eq_some_iff.mp H
          obtain ⟨⟨t114, t115⟩, A180, H⟩ := H
          (try dsimp only at H)
          have A18 := Aside0.mk A180
          clear A180
          have HC19 := Aside0.mk H
          clear H
          obtain ⟨hcz20_0, hcz20_1, hcz20_2⟩ := spec_HouseOk.cl3 BK107.out
          obtain ⟨hfz20_0, hfz20_1, hfz20_2⟩ := spec_HouseOk.fz3 BK107.out
          have p112 : 0 ≤ (x4_2 : Int) := of_decide_eq_true (by first | (with_reducible assumption) | assumption)
          have q112 : x4_2 < (l0_0.length : Int) := of_decide_eq_true (by first | (with_reducible assumption) | assumption)
          obtain ⟨ad112, e112, hx112_0, hx112_1, hx112_2, hx112_3, hx112_4, hx112_5, hx112_6⟩ := at_T119 HR0_0.out x4_2 p112 q112
          cases e112
          replace hx112_0 := (HB.out.cell (World.block_lt_of_cell? w _ hx112_0)).trans hx112_0
          replace hx112_1 := (HB.out.cell (World.block_lt_of_cell? w _ hx112_1)).trans hx112_1
          replace hx112_2 := (HB.out.cell (World.block_lt_of_cell? w _ hx112_2)).trans hx112_2
          replace hx112_3 := (HB.out.cell (World.block_lt_of_cell? w _ hx112_3)).trans hx112_3
          replace hx112_4 := (HB.out.cell (World.block_lt_of_cell? w _ hx112_4)).trans hx112_4
          replace hx112_5 := (HB.out.cell (World.block_lt_of_cell? w _ hx112_5)).trans hx112_5
          replace hx112_6 := (HB.out.cell (World.block_lt_of_cell? w _ hx112_6)).trans hx112_6
          replace p112 := eq_true p112
          replace q112 := eq_true q112
          go_upto_region 9 with (first | ((with_reducible refine gate_dst (N := 5) rfl ?_); (try (refine gate_guard (by rfl) ?_; dsimp only)); refine box_event ?hg (N := 5) ?hd (cs := #[.int .i64 0, .int .i64 0, .int .i64 0, .int .i64 0, .int .i64 0, .int .i64 0, .int .i64 0]) (t := 119) ?hr ?_; (case hd => rfl); (case hg => rfl); (case hr => first | (go_simp; done) | (go_simp; rfl)); intro gb113 hg w21 hbox hb; have n0_ := Aside0.mk (Kd.R_below (by (with_reducible repeat (first | apply Kd.R_alloc | apply Kd.R_drewN | apply Kd.R_drew)); exact HO_3.out) hb); have n1_ := Aside0.mk (blk_below (g := gb107) (by (with_reducible repeat (first | refine blk_drewN ?_ _ | refine blk_drew ?_ | refine blk_alloc ?_ _)); exact BK107.out) hb); have n2_ := Aside0.mk (below_step (by repeat (first | (with_reducible first | exact HB.out | apply below_alloc | apply pw_below_drewN | apply below_drew1 | refine below_set ?_ GE107.out) | exact HB.out)) hb); have n3_ := Aside0.mk (hbox); have n4_ := Aside0.mk ((by rw [hg]; exact (below_size (by repeat (first | (with_reducible first | exact HB.out | apply below_alloc | apply pw_below_drewN | apply below_drew1 | refine below_set ?_ GE107.out) | exact HB.out))) : w.heap.size ≤ gb113)); have n5_ := Aside0.mk ((by rw [hg]; exact (below_size (by repeat (first | (with_reducible first | exact HB.out | apply below_alloc | apply pw_below_drewN | apply below_drew1 | refine below_set ?_ GE107.out) | exact HB.out))) : w.heap.size ≤ gb113)); have n6_ := Aside0.mk ((by rw [hg]; exact Nat.ne_of_lt (blk_lt (g := gb107) (by (with_reducible repeat (first | refine blk_drewN ?_ _ | refine blk_drew ?_ | refine blk_alloc ?_ _)); exact BK107.out)) : gb107 ≠ gb113)); have n7_ := Aside0.mk ((by rw [hg]; exact Nat.ne_of_gt (blk_lt (g := gb107) (by (with_reducible repeat (first | refine blk_drewN ?_ _ | refine blk_drew ?_ | refine blk_alloc ?_ _)); exact BK107.out)) : gb113 ≠ gb107)); clear HO_3; clear BK107; clear HB; have HO_3 := n0_; have BK107 := n1_; have HB := n2_; have BK113 := n3_; have GW113 := n4_; have GE113 := n5_; have NB107_113 := n6_; have NB113_107 := n7_; clear n0_ n1_ n2_ n3_ n4_ n5_ n6_ n7_; clear hb hbox hg; have hnb22 := NB113_107.out; have hnc22 := NB107_113.out; obtain ⟨hcz23_0, hcz23_1, hcz23_2, hcz23_3, hcz23_4, hcz23_5, hcz23_6⟩ := spec_HouseOk.cl7 BK113.out; obtain ⟨hfz23_0, hfz23_1, hfz23_2, hfz23_3, hfz23_4, hfz23_5, hfz23_6⟩ := spec_HouseOk.fz7 BK113.out) | ((with_reducible refine gate_callee (f := 84) rfl ?_); refine goesL_ (some 49) rfl rfl Try.func84 (by kernel_rfl) rfl #[.int .i64 ((rd_T119 l0_0 x4_2).f2), .int .i64 ((rd_T119 l0_0 x4_2).f3), .int .i64 ((rd_T119 l0_0 x4_2).f4)] rfl (by (try simp only [List.map_toArray, List.map_cons, List.map_nil]); first | done | rfl | (simp only [List.length_drop, List.length_take]; rfl)) ?_; (with_reducible refine (spec_Duty6.calls ((rd_T119 l0_0 x4_2).f2) ((rd_T119 l0_0 x4_2).f3) ((rd_T119 l0_0 x4_2).f4) t114 t115 _ A18.out).mono ?_); rintro e w' ⟨rfl, ⟨nd, rfl⟩⟩; refine ⟨_, rfl, ?_⟩))
          (try simp only [Act.put, List.setIfInBounds_toArray, List.set_cons_zero, List.set_cons_succ])
          go_cut [91] (fun v91 wc => ∃ (kq : Nat) (x91_18 : Bool), v91 = .bool x91_18 ∧ Aside0 (spec_HouseOk.j2 kq x3_2 x4_2 t114 x91_18 l0_0 l0_1 a0_2 ((rd_T119 l0_0 x4_2).f0) ((rd_T119 l0_0 x4_2).f1) ((rd_T119 l0_0 x4_2).f2) ((rd_T119 l0_0 x4_2).f3) ((rd_T119 l0_0 x4_2).f4) ((rd_T119 l0_0 x4_2).f5) ((rd_T119 l0_0 x4_2).f6) = some r) ∧ Aside0 (kq ≤ k2) ∧ Aside0 (Kd.R (Kd.int .i64) 3 wc w.heap.size (fun _ => True) v110 x3_2) ∧ Aside0 (wc.heap[gb107]? = some (.cells #[(.slice (some ad112) l0_0.length c0_0), (.slice A0_1 l0_1.length c0_1), .int .i64 a0_2] 75 (0, 0))) ∧ Aside0 (wc.heap[gb113]? = some (.cells #[.int .i64 ((rd_T119 l0_0 x4_2).f0), .int .i64 ((rd_T119 l0_0 x4_2).f1), .int .i64 ((rd_T119 l0_0 x4_2).f2), .int .i64 ((rd_T119 l0_0 x4_2).f3), .int .i64 ((rd_T119 l0_0 x4_2).f4), .int .i64 ((rd_T119 l0_0 x4_2).f5), .int .i64 ((rd_T119 l0_0 x4_2).f6)] 119 (0, 0))) ∧ Aside0 (Below w.heap.size w wc))
          case first =>
           have H := HC19.out
           clear HC19
           by_cases c24 : t115 = true
           ·subst c24
            rw [if_pos rfl] at H
            replace H := Option.bind_eq_some_iff.mp H
            obtain ⟨t116, A250, H⟩ := H
            (try dsimp only at H)
            have A25 := Aside0.mk A250
            clear A250
            by_cases c26 : t116 = true
            ·subst c26
             rw [if_pos rfl] at H
             by_cases c27 : x4_2 > 0
             ·rw [if_pos c27] at H
              have c27b0 : decide (0 < x4_2) = true := decide_eq_true c27
              clear c27
              (first | rw [c27b0] | (simp only [i64_w, i32_w]; rw [c27b0]) | skip)
              obtain ⟨ji28, hji28⟩ : ∃ j_ : Int, (wrap64 (x4_2 - 1)) = j_ := ⟨_, rfl⟩
              replace H : (if 0 ≤ (ji28) then (if (ji28) < (l0_0.length : Int) then (if ((rd_T119 l0_0 (ji28)).f0) ≥ ((rd_T119 l0_0 x4_2).f0) then (spec_HouseOk.j2 k2 x3_2 x4_2 t114 true l0_0 l0_1 a0_2 ((rd_T119 l0_0 x4_2).f0) ((rd_T119 l0_0 x4_2).f1) ((rd_T119 l0_0 x4_2).f2) ((rd_T119 l0_0 x4_2).f3) ((rd_T119 l0_0 x4_2).f4) ((rd_T119 l0_0 x4_2).f5) ((rd_T119 l0_0 x4_2).f6)) else ((spec_l1In.f ((rd_T119 l0_0 x4_2).f1) 0 (wrap64 ((l0_1.length : Int) - 1))).bind fun t118 => (if t118 = true then ((spec_l1In.f ((rd_T119 l0_0 x4_2).f5) 1 5).bind fun t119 => (spec_HouseOk.j2 k2 x3_2 x4_2 t114 (!t119) l0_0 l0_1 a0_2 ((rd_T119 l0_0 x4_2).f0) ((rd_T119 l0_0 x4_2).f1) ((rd_T119 l0_0 x4_2).f2) ((rd_T119 l0_0 x4_2).f3) ((rd_T119 l0_0 x4_2).f4) ((rd_T119 l0_0 x4_2).f5) ((rd_T119 l0_0 x4_2).f6))) else (spec_HouseOk.j2 k2 x3_2 x4_2 t114 true l0_0 l0_1 a0_2 ((rd_T119 l0_0 x4_2).f0) ((rd_T119 l0_0 x4_2).f1) ((rd_T119 l0_0 x4_2).f2) ((rd_T119 l0_0 x4_2).f3) ((rd_T119 l0_0 x4_2).f4) ((rd_T119 l0_0 x4_2).f5) ((rd_T119 l0_0 x4_2).f6))))) else (none)) else (none)) = some r := by first | (rw [hji28] at H; exact H) | (simp only [hji28] at H ⊢; exact H)
              (try rw [hji28] at A25)
              have hji28w : (IntKind.i64.wrap (x4_2 - 1)) = ji28 := (i64_w _).trans hji28
              by_cases c29 : 0 ≤ (ji28)
              ·rw [if_pos c29] at H
               have c29b0 : decide (0 ≤ (ji28)) = true := decide_eq_true c29
               clear c29
               by_cases c30 : (ji28) < (l0_0.length : Int)
               ·rw [if_pos c30] at H
                have c30b0 : decide ((ji28) < (l0_0.length : Int)) = true := decide_eq_true c30
                clear c30
                by_cases c31 : ((rd_T119 l0_0 (ji28)).f0) ≥ ((rd_T119 l0_0 x4_2).f0)
                ·rw [if_pos c31] at H
                 have c31b0 : decide (((rd_T119 l0_0 x4_2).f0) ≤ ((rd_T119 l0_0 (ji28)).f0)) = true := decide_eq_true c31
                 clear c31
                 have H' := Aside0.mk H
                 clear H
                 try go_wp2
                 have n0_ : Aside0 (Kd.R (Kd.int .i64) 3 (((((((w21.setCell ⟨gb113, 0, none⟩ (.int .i64 ((rd_T119 l0_0 x4_2).f0))).setCell ⟨gb113, 1, none⟩ (.int .i64 ((rd_T119 l0_0 x4_2).f1))).setCell ⟨gb113, 2, none⟩ (.int .i64 ((rd_T119 l0_0 x4_2).f2))).setCell ⟨gb113, 3, none⟩ (.int .i64 ((rd_T119 l0_0 x4_2).f3))).setCell ⟨gb113, 4, none⟩ (.int .i64 ((rd_T119 l0_0 x4_2).f4))).setCell ⟨gb113, 5, none⟩ (.int .i64 ((rd_T119 l0_0 x4_2).f5))).setCell ⟨gb113, 6, none⟩ (.int .i64 ((rd_T119 l0_0 x4_2).f6))) w.heap.size (fun _ => True) v110 x3_2) := ⟨by (with_reducible repeat (first | apply Kd.R_alloc | apply Kd.R_drewN | apply Kd.R_drew)); exact Kd.R_mono (Kd.R_far (p := ⟨gb113, 6, none⟩) (Kd.R_far (p := ⟨gb113, 5, none⟩) (Kd.R_far (p := ⟨gb113, 4, none⟩) (Kd.R_far (p := ⟨gb113, 3, none⟩) (Kd.R_far (p := ⟨gb113, 2, none⟩) (Kd.R_far (p := ⟨gb113, 1, none⟩) (Kd.R_far (p := ⟨gb113, 0, none⟩) (Kd.R_types HO_3.out BK113.out (by decide)) (fun _ hk => hk.2) (.int .i64 ((rd_T119 l0_0 x4_2).f0))) (fun _ hk => hk.2) (.int .i64 ((rd_T119 l0_0 x4_2).f1))) (fun _ hk => hk.2) (.int .i64 ((rd_T119 l0_0 x4_2).f2))) (fun _ hk => hk.2) (.int .i64 ((rd_T119 l0_0 x4_2).f3))) (fun _ hk => hk.2) (.int .i64 ((rd_T119 l0_0 x4_2).f4))) (fun _ hk => hk.2) (.int .i64 ((rd_T119 l0_0 x4_2).f5))) (fun _ hk => hk.2) (.int .i64 ((rd_T119 l0_0 x4_2).f6))) (fun _ hk => trivial)⟩
                 have n1_ : Aside0 ((((((((w21.setCell ⟨gb113, 0, none⟩ (.int .i64 ((rd_T119 l0_0 x4_2).f0))).setCell ⟨gb113, 1, none⟩ (.int .i64 ((rd_T119 l0_0 x4_2).f1))).setCell ⟨gb113, 2, none⟩ (.int .i64 ((rd_T119 l0_0 x4_2).f2))).setCell ⟨gb113, 3, none⟩ (.int .i64 ((rd_T119 l0_0 x4_2).f3))).setCell ⟨gb113, 4, none⟩ (.int .i64 ((rd_T119 l0_0 x4_2).f4))).setCell ⟨gb113, 5, none⟩ (.int .i64 ((rd_T119 l0_0 x4_2).f5))).setCell ⟨gb113, 6, none⟩ (.int .i64 ((rd_T119 l0_0 x4_2).f6))).heap[gb107]? = some (.cells #[.slice (some ad112) l0_0.length c0_0, .slice A0_1 l0_1.length c0_1, .int .i64 a0_2] 75 (0, 0))) := ⟨by (with_reducible repeat (first | refine blk_drewN ?_ _ | refine blk_drew ?_ | refine blk_alloc ?_ _)); refine blk_far ?_ NB107_113.out _; (with_reducible repeat (first | refine blk_drewN ?_ _ | refine blk_drew ?_ | refine blk_alloc ?_ _)); refine blk_far ?_ NB107_113.out _; (with_reducible repeat (first | refine blk_drewN ?_ _ | refine blk_drew ?_ | refine blk_alloc ?_ _)); refine blk_far ?_ NB107_113.out _; (with_reducible repeat (first | refine blk_drewN ?_ _ | refine blk_drew ?_ | refine blk_alloc ?_ _)); refine blk_far ?_ NB107_113.out _; (with_reducible repeat (first | refine blk_drewN ?_ _ | refine blk_drew ?_ | refine blk_alloc ?_ _)); refine blk_far ?_ NB107_113.out _; (with_reducible repeat (first | refine blk_drewN ?_ _ | refine blk_drew ?_ | refine blk_alloc ?_ _)); refine blk_far ?_ NB107_113.out _; (with_reducible repeat (first | refine blk_drewN ?_ _ | refine blk_drew ?_ | refine blk_alloc ?_ _)); refine blk_far ?_ NB107_113.out _; (with_reducible repeat (first | refine blk_drewN ?_ _ | refine blk_drew ?_ | refine blk_alloc ?_ _)); exact BK107.out⟩
                 have n2_ : Aside0 ((((((((w21.setCell ⟨gb113, 0, none⟩ (.int .i64 ((rd_T119 l0_0 x4_2).f0))).setCell ⟨gb113, 1, none⟩ (.int .i64 ((rd_T119 l0_0 x4_2).f1))).setCell ⟨gb113, 2, none⟩ (.int .i64 ((rd_T119 l0_0 x4_2).f2))).setCell ⟨gb113, 3, none⟩ (.int .i64 ((rd_T119 l0_0 x4_2).f3))).setCell ⟨gb113, 4, none⟩ (.int .i64 ((rd_T119 l0_0 x4_2).f4))).setCell ⟨gb113, 5, none⟩ (.int .i64 ((rd_T119 l0_0 x4_2).f5))).setCell ⟨gb113, 6, none⟩ (.int .i64 ((rd_T119 l0_0 x4_2).f6))).heap[gb113]? = some (.cells #[.int .i64 ((rd_T119 l0_0 x4_2).f0), .int .i64 ((rd_T119 l0_0 x4_2).f1), .int .i64 ((rd_T119 l0_0 x4_2).f2), .int .i64 ((rd_T119 l0_0 x4_2).f3), .int .i64 ((rd_T119 l0_0 x4_2).f4), .int .i64 ((rd_T119 l0_0 x4_2).f5), .int .i64 ((rd_T119 l0_0 x4_2).f6)] 119 (0, 0))) := ⟨by (with_reducible repeat (first | refine blk_drewN ?_ _ | refine blk_drew ?_ | refine blk_alloc ?_ _)); refine blk_put (cs := #[.int .i64 ((rd_T119 l0_0 x4_2).f0), .int .i64 ((rd_T119 l0_0 x4_2).f1), .int .i64 ((rd_T119 l0_0 x4_2).f2), .int .i64 ((rd_T119 l0_0 x4_2).f3), .int .i64 ((rd_T119 l0_0 x4_2).f4), .int .i64 ((rd_T119 l0_0 x4_2).f5), .int .i64 0]) ?_ 6 _ rfl; (with_reducible repeat (first | refine blk_drewN ?_ _ | refine blk_drew ?_ | refine blk_alloc ?_ _)); refine blk_put (cs := #[.int .i64 ((rd_T119 l0_0 x4_2).f0), .int .i64 ((rd_T119 l0_0 x4_2).f1), .int .i64 ((rd_T119 l0_0 x4_2).f2), .int .i64 ((rd_T119 l0_0 x4_2).f3), .int .i64 ((rd_T119 l0_0 x4_2).f4), .int .i64 0, .int .i64 0]) ?_ 5 _ rfl; (with_reducible repeat (first | refine blk_drewN ?_ _ | refine blk_drew ?_ | refine blk_alloc ?_ _)); refine blk_put (cs := #[.int .i64 ((rd_T119 l0_0 x4_2).f0), .int .i64 ((rd_T119 l0_0 x4_2).f1), .int .i64 ((rd_T119 l0_0 x4_2).f2), .int .i64 ((rd_T119 l0_0 x4_2).f3), .int .i64 0, .int .i64 0, .int .i64 0]) ?_ 4 _ rfl; (with_reducible repeat (first | refine blk_drewN ?_ _ | refine blk_drew ?_ | refine blk_alloc ?_ _)); refine blk_put (cs := #[.int .i64 ((rd_T119 l0_0 x4_2).f0), .int .i64 ((rd_T119 l0_0 x4_2).f1), .int .i64 ((rd_T119 l0_0 x4_2).f2), .int .i64 0, .int .i64 0, .int .i64 0, .int .i64 0]) ?_ 3 _ rfl; (with_reducible repeat (first | refine blk_drewN ?_ _ | refine blk_drew ?_ | refine blk_alloc ?_ _)); refine blk_put (cs := #[.int .i64 ((rd_T119 l0_0 x4_2).f0), .int .i64 ((rd_T119 l0_0 x4_2).f1), .int .i64 0, .int .i64 0, .int .i64 0, .int .i64 0, .int .i64 0]) ?_ 2 _ rfl; (with_reducible repeat (first | refine blk_drewN ?_ _ | refine blk_drew ?_ | refine blk_alloc ?_ _)); refine blk_put (cs := #[.int .i64 ((rd_T119 l0_0 x4_2).f0), .int .i64 0, .int .i64 0, .int .i64 0, .int .i64 0, .int .i64 0, .int .i64 0]) ?_ 1 _ rfl; (with_reducible repeat (first | refine blk_drewN ?_ _ | refine blk_drew ?_ | refine blk_alloc ?_ _)); refine blk_put (cs := #[.int .i64 0, .int .i64 0, .int .i64 0, .int .i64 0, .int .i64 0, .int .i64 0, .int .i64 0]) ?_ 0 _ rfl; (with_reducible repeat (first | refine blk_drewN ?_ _ | refine blk_drew ?_ | refine blk_alloc ?_ _)); exact BK113.out⟩
                 have n3_ : Aside0 (Below w.heap.size w (((((((w21.setCell ⟨gb113, 0, none⟩ (.int .i64 ((rd_T119 l0_0 x4_2).f0))).setCell ⟨gb113, 1, none⟩ (.int .i64 ((rd_T119 l0_0 x4_2).f1))).setCell ⟨gb113, 2, none⟩ (.int .i64 ((rd_T119 l0_0 x4_2).f2))).setCell ⟨gb113, 3, none⟩ (.int .i64 ((rd_T119 l0_0 x4_2).f3))).setCell ⟨gb113, 4, none⟩ (.int .i64 ((rd_T119 l0_0 x4_2).f4))).setCell ⟨gb113, 5, none⟩ (.int .i64 ((rd_T119 l0_0 x4_2).f5))).setCell ⟨gb113, 6, none⟩ (.int .i64 ((rd_T119 l0_0 x4_2).f6)))) := ⟨by repeat (first | (with_reducible first | exact HB.out | apply below_alloc | apply pw_below_drewN | apply below_drew1 | refine below_set ?_ GE107.out | refine below_set ?_ GE113.out) | exact HB.out)⟩
                 (try clear HO_3)
                 (try clear BK107)
                 (try clear BK113)
                 (try clear HB)
                 generalize (((((((w21.setCell ⟨gb113, 0, none⟩ (.int .i64 ((rd_T119 l0_0 x4_2).f0))).setCell ⟨gb113, 1, none⟩ (.int .i64 ((rd_T119 l0_0 x4_2).f1))).setCell ⟨gb113, 2, none⟩ (.int .i64 ((rd_T119 l0_0 x4_2).f2))).setCell ⟨gb113, 3, none⟩ (.int .i64 ((rd_T119 l0_0 x4_2).f3))).setCell ⟨gb113, 4, none⟩ (.int .i64 ((rd_T119 l0_0 x4_2).f4))).setCell ⟨gb113, 5, none⟩ (.int .i64 ((rd_T119 l0_0 x4_2).f5))).setCell ⟨gb113, 6, none⟩ (.int .i64 ((rd_T119 l0_0 x4_2).f6))) = w32 at n0_ n1_ n2_ n3_ ⊢
                 try replace n0_ := Aside0.mk (by first | exact Kd.R_drewN n0_.out nd | exact blk_drewN n0_.out nd | exact pw_below_drewN n0_.out nd)
                 try replace n1_ := Aside0.mk (by first | exact Kd.R_drewN n1_.out nd | exact blk_drewN n1_.out nd | exact pw_below_drewN n1_.out nd)
                 try replace n2_ := Aside0.mk (by first | exact Kd.R_drewN n2_.out nd | exact blk_drewN n2_.out nd | exact pw_below_drewN n2_.out nd)
                 try replace n3_ := Aside0.mk (by first | exact Kd.R_drewN n3_.out nd | exact blk_drewN n3_.out nd | exact pw_below_drewN n3_.out nd)
                 try generalize w32.drewN nd = w32 at n0_ n1_ n2_ n3_ ⊢
                 have HO_3 := n0_
                 have BK107 := n1_
                 have BK113 := n2_
                 have HB := n3_
                 clear n0_ n1_ n2_ n3_
                 have n0_ := Aside0.mk (Kd.R_drew HO_3.out)
                 have n1_ := Aside0.mk (blk_drew BK107.out)
                 have n2_ := Aside0.mk (blk_drew BK113.out)
                 have n3_ := Aside0.mk (below_drew1 HB.out)
                 clear HO_3
                 clear BK107
                 clear BK113
                 clear HB
                 have HO_3 := n0_
                 have BK107 := n1_
                 have BK113 := n2_
                 have HB := n3_
                 clear n0_ n1_ n2_ n3_
                 have p117 : 0 ≤ ((ji28) : Int) := of_decide_eq_true (by first | (with_reducible assumption) | assumption)
                 have q117 : (ji28) < (l0_0.length : Int) := of_decide_eq_true (by first | (with_reducible assumption) | assumption)
                 obtain ⟨ad117, e117, hx117_0, hx117_1, hx117_2, hx117_3, hx117_4, hx117_5, hx117_6⟩ := at_T119 HR0_0.out (ji28) p117 q117
                 have hw117_6 := hx117_6
                 have hw117_5 := hx117_5
                 have hw117_4 := hx117_4
                 have hw117_3 := hx117_3
                 have hw117_2 := hx117_2
                 have hw117_1 := hx117_1
                 have hw117_0 := hx117_0
                 obtain rfl : ad112 = ad117 := (by injection e117)
                 replace hx117_0 := (HB.out.cell (World.block_lt_of_cell? w _ hx117_0)).trans hx117_0
                 replace hx117_1 := (HB.out.cell (World.block_lt_of_cell? w _ hx117_1)).trans hx117_1
                 replace hx117_2 := (HB.out.cell (World.block_lt_of_cell? w _ hx117_2)).trans hx117_2
                 replace hx117_3 := (HB.out.cell (World.block_lt_of_cell? w _ hx117_3)).trans hx117_3
                 replace hx117_4 := (HB.out.cell (World.block_lt_of_cell? w _ hx117_4)).trans hx117_4
                 replace hx117_5 := (HB.out.cell (World.block_lt_of_cell? w _ hx117_5)).trans hx117_5
                 replace hx117_6 := (HB.out.cell (World.block_lt_of_cell? w _ hx117_6)).trans hx117_6
                 replace p117 := eq_true p117
                 replace q117 := eq_true q117
                 refine start_ (n := 40) (S := fun w' => w'.cell? ⟨gb113, 0, none⟩ = some (.int .i64 ((rd_T119 l0_0 x4_2).f0)) ∧ w'.cell? ⟨gb113, 1, none⟩ = some (.int .i64 ((rd_T119 l0_0 x4_2).f1)) ∧ w'.cell? ⟨gb113, 2, none⟩ = some (.int .i64 ((rd_T119 l0_0 x4_2).f2)) ∧ w'.cell? ⟨gb113, 3, none⟩ = some (.int .i64 ((rd_T119 l0_0 x4_2).f3)) ∧ w'.cell? ⟨gb113, 4, none⟩ = some (.int .i64 ((rd_T119 l0_0 x4_2).f4)) ∧ w'.cell? ⟨gb113, 5, none⟩ = some (.int .i64 ((rd_T119 l0_0 x4_2).f5)) ∧ w'.cell? ⟨gb113, 6, none⟩ = some (.int .i64 ((rd_T119 l0_0 x4_2).f6)) ∧ w'.cell? ⟨gb107, 0, none⟩ = some (.slice (some ad112) l0_0.length c0_0) ∧ w'.cell? ⟨gb107, 1, none⟩ = some (.slice A0_1 l0_1.length c0_1) ∧ w'.cell? ⟨gb107, 2, none⟩ = some (.int .i64 a0_2) ∧ w'.cell? (ad112.add (((ji28)).toNat * 7)) = some (.int .i64 ((rd_T119 l0_0 (ji28)).f0)) ∧ w'.cell? ⟨(ad112.add (((ji28)).toNat * 7)).block, (ad112.add (((ji28)).toNat * 7)).off + 1, none⟩ = some (.int .i64 ((rd_T119 l0_0 (ji28)).f1)) ∧ w'.cell? ⟨(ad112.add (((ji28)).toNat * 7)).block, (ad112.add (((ji28)).toNat * 7)).off + 2, none⟩ = some (.int .i64 ((rd_T119 l0_0 (ji28)).f2)) ∧ w'.cell? ⟨(ad112.add (((ji28)).toNat * 7)).block, (ad112.add (((ji28)).toNat * 7)).off + 3, none⟩ = some (.int .i64 ((rd_T119 l0_0 (ji28)).f3)) ∧ w'.cell? ⟨(ad112.add (((ji28)).toNat * 7)).block, (ad112.add (((ji28)).toNat * 7)).off + 4, none⟩ = some (.int .i64 ((rd_T119 l0_0 (ji28)).f4)) ∧ w'.cell? ⟨(ad112.add (((ji28)).toNat * 7)).block, (ad112.add (((ji28)).toNat * 7)).off + 5, none⟩ = some (.int .i64 ((rd_T119 l0_0 (ji28)).f5)) ∧ w'.cell? ⟨(ad112.add (((ji28)).toNat * 7)).block, (ad112.add (((ji28)).toNat * 7)).off + 6, none⟩ = some (.int .i64 ((rd_T119 l0_0 (ji28)).f6))) (ds := []) spec_HouseOk.v0 (by kernel_rfl) rfl rfl ⟨(blk_cell BK113.out 0).trans rfl, (blk_cell BK113.out 1).trans rfl, (blk_cell BK113.out 2).trans rfl, (blk_cell BK113.out 3).trans rfl, (blk_cell BK113.out 4).trans rfl, (blk_cell BK113.out 5).trans rfl, (blk_cell BK113.out 6).trans rfl, (blk_cell BK107.out 0).trans rfl, (blk_cell BK107.out 1).trans rfl, (blk_cell BK107.out 2).trans rfl, ((HB.out.cell (World.block_lt_of_cell? w _ hw117_0)).trans hw117_0), ((HB.out.cell (World.block_lt_of_cell? w _ hw117_1)).trans hw117_1), ((HB.out.cell (World.block_lt_of_cell? w _ hw117_2)).trans hw117_2), ((HB.out.cell (World.block_lt_of_cell? w _ hw117_3)).trans hw117_3), ((HB.out.cell (World.block_lt_of_cell? w _ hw117_4)).trans hw117_4), ((HB.out.cell (World.block_lt_of_cell? w _ hw117_5)).trans hw117_5), ((HB.out.cell (World.block_lt_of_cell? w _ hw117_6)).trans hw117_6)⟩ (fun hHeld => ?_); refine with_tabW spec_HouseOk.tab9 spec_HouseOk.bits9 (fun HT_ HW_ => ?_)
                 generalize w32.drew = w33 at HO_3 BK107 BK113 HB hx117_0 hx117_1 hx117_2 hx117_3 hx117_4 hx117_5 hx117_6 hHeld ⊢
                 refine Sk.pq 0 52 spec_HouseOk.v1 HT_.out (h := ?_)
                 refine Sk.pq 1 53 spec_HouseOk.v2 HT_.out (h := ?_)
                 refine Sk.pq 2 54 spec_HouseOk.v3 HT_.out (h := ?_)
                 refine Sk.pq 3 55 spec_HouseOk.v4 HT_.out (h := ?_)
                 refine Sk.tk17 4 56 spec_HouseOk.v5 HT_.out HW_.out hHeld (h := ?_)
                 refine one_ (i := 5) (N := some 57) spec_HouseOk.v6 rfl rfl (one_of HT_.out (by kernel_rfl)) (by decide) (fun K hK => ?_)
                 refine goes_ Try.func51 (by kernel_rfl) rfl #[.int .i64 ((rd_T119 l0_0 x4_2).f0), .int .i64 1, .int .i64 1000000] (by rfl) rfl rfl (by (try simp only [List.map_toArray, List.map_cons, List.map_nil]); first | done | rfl | (simp only [List.length_drop, List.length_take]; rfl)) ?_
                 with_reducible refine (spec_l1In.calls ((rd_T119 l0_0 x4_2).f0) 1 1000000 true _ A25.out).mono ?_
                 rintro e w' ⟨rfl, ⟨nd, rfl⟩⟩
                 refine ⟨_, rfl, ?_⟩
                 refine hK.out _ _ ⟨(blk_cell BK113.out 0).trans rfl, (blk_cell BK113.out 1).trans rfl, (blk_cell BK113.out 2).trans rfl, (blk_cell BK113.out 3).trans rfl, (blk_cell BK113.out 4).trans rfl, (blk_cell BK113.out 5).trans rfl, (blk_cell BK113.out 6).trans rfl, (blk_cell BK107.out 0).trans rfl, (blk_cell BK107.out 1).trans rfl, (blk_cell BK107.out 2).trans rfl, ((HB.out.cell (World.block_lt_of_cell? w _ hw117_0)).trans hw117_0), ((HB.out.cell (World.block_lt_of_cell? w _ hw117_1)).trans hw117_1), ((HB.out.cell (World.block_lt_of_cell? w _ hw117_2)).trans hw117_2), ((HB.out.cell (World.block_lt_of_cell? w _ hw117_3)).trans hw117_3), ((HB.out.cell (World.block_lt_of_cell? w _ hw117_4)).trans hw117_4), ((HB.out.cell (World.block_lt_of_cell? w _ hw117_5)).trans hw117_5), ((HB.out.cell (World.block_lt_of_cell? w _ hw117_6)).trans hw117_6)⟩ (fun hHeld => ?_)
                 clear hK K
                 refine Sk.nm 57 (h := ?_)
                 refine Sk.pq 6 58 spec_HouseOk.v7 HT_.out (h := ?_)
                 refine Sk.pq 7 59 spec_HouseOk.v8 HT_.out (h := ?_)
                 refine Sk.pq 8 60 spec_HouseOk.v9 HT_.out (h := ?_)
                 refine Sk.pq 9 61 spec_HouseOk.v10 HT_.out (h := ?_)
                 refine Sk.pq 10 62 spec_HouseOk.v11 HT_.out (h := ?_)
                 refine Sk.pq 11 63 spec_HouseOk.v12 HT_.out (h := ?_)
                 refine Sk.pq 12 64 spec_HouseOk.v13 HT_.out (h := ?_)
                 refine Sk.pq 14 66 spec_HouseOk.v14 HT_.out (h := ?_)
                 refine Sk.pq 15 67 spec_HouseOk.v15 HT_.out (h := ?_)
                 refine Sk.pq 19 71 spec_HouseOk.v16 HT_.out (h := ?_)
                 refine Sk.tk17 13 65 spec_HouseOk.v17 HT_.out HW_.out hHeld (h := ?_)
                 refine Sk.pq 16 68 spec_HouseOk.v18 HT_.out (h := ?_)
                 refine Sk.pq 17 69 spec_HouseOk.v19 HT_.out (h := ?_)
                 refine Sk.tk17 18 70 spec_HouseOk.v20 HT_.out HW_.out hHeld (h := ?_)
                 refine Sk.tk17 20 72 spec_HouseOk.v21 HT_.out HW_.out hHeld (h := ?_)
                 refine Sk.pq 21 73 spec_HouseOk.v22 HT_.out (h := ?_)
                 refine Sk.pq 22 74 spec_HouseOk.v23 HT_.out (h := ?_)
                 refine Sk.pq 23 75 spec_HouseOk.v24 HT_.out (h := ?_)
                 refine Sk.pq 24 76 spec_HouseOk.v25 HT_.out (h := ?_)
                 refine Sk.pu 25 77 spec_HouseOk.v26 HT_.out (h := ?_)
                 refine Sk.pu 26 78 spec_HouseOk.v27 HT_.out (h := ?_)
                 refine Sk.pu 27 79 spec_HouseOk.v28 HT_.out (h := ?_)
                 refine Sk.pu 28 80 spec_HouseOk.v29 HT_.out (h := ?_)
                 refine Sk.pu 29 81 spec_HouseOk.v30 HT_.out (h := ?_)
                 refine Sk.pu 30 82 spec_HouseOk.v31 HT_.out (h := ?_)
                 refine Sk.pu 31 83 spec_HouseOk.v32 HT_.out (h := ?_)
                 refine Sk.pu 32 84 spec_HouseOk.v33 HT_.out (h := ?_)
                 refine Sk.pq 33 85 spec_HouseOk.v34 HT_.out (h := ?_)
                 refine Sk.pq 34 86 spec_HouseOk.v35 HT_.out (h := ?_)
                 refine Sk.pu 35 87 spec_HouseOk.v36 HT_.out (h := ?_)
                 refine Sk.pu 36 88 spec_HouseOk.v37 HT_.out (h := ?_)
                 refine Sk.pu 37 89 spec_HouseOk.v38 HT_.out (h := ?_)
                 refine Sk.pu 38 90 spec_HouseOk.v39 HT_.out (h := ?_)
                 refine Sk.pq 39 91 spec_HouseOk.v40 HT_.out (h := ?_)
                 refine done_ (done_of HT_.out (by kernel_rfl)) ?_
                 try go_wp2
                 go_meet
                 case rel => exact ⟨_, (true), (by first | rfl | (simp; done) | (simp [*]; done)), H', ⟨by have := HJ1.out; have := HK2.out; first | omega | exact Nat.le_refl _⟩, ⟨by (with_reducible repeat (first | apply Kd.R_alloc | apply Kd.R_drewN | apply Kd.R_drew)); exact HO_3.out⟩, ⟨by (with_reducible repeat (first | refine blk_drewN ?_ _ | refine blk_drew ?_ | refine blk_alloc ?_ _)); exact BK107.out⟩, ⟨by (with_reducible repeat (first | refine blk_drewN ?_ _ | refine blk_drew ?_ | refine blk_alloc ?_ _)); exact BK113.out⟩, ⟨by repeat (first | (with_reducible first | exact HB.out | apply below_alloc | apply pw_below_drewN | apply below_drew1 | refine below_set ?_ GE107.out | refine below_set ?_ GE113.out) | exact HB.out)⟩⟩
                ·rw [if_neg c31] at H
                 have c31b0 : decide (((rd_T119 l0_0 x4_2).f0) ≤ ((rd_T119 l0_0 (ji28)).f0)) = false := decide_eq_false c31
                 clear c31
                 replace H := Option.bind_eq_some_iff.mp H
                 obtain ⟨t118, A340, H⟩ := H
                 (try dsimp only at H)
                 have A34 := Aside0.mk A340
                 clear A340
                 by_cases c35 : t118 = true
                 ·subst c35
                  rw [if_pos rfl] at H
                  replace H := Option.bind_eq_some_iff.mp H
                  obtain ⟨t119, A360, H⟩ := H
                  (try dsimp only at H)
                  have A36 := Aside0.mk A360
                  clear A360
                  have H' := Aside0.mk H
                  clear H
                  try go_wp2
                  have n0_ : Aside0 (Kd.R (Kd.int .i64) 3 (((((((w21.setCell ⟨gb113, 0, none⟩ (.int .i64 ((rd_T119 l0_0 x4_2).f0))).setCell ⟨gb113, 1, none⟩ (.int .i64 ((rd_T119 l0_0 x4_2).f1))).setCell ⟨gb113, 2, none⟩ (.int .i64 ((rd_T119 l0_0 x4_2).f2))).setCell ⟨gb113, 3, none⟩ (.int .i64 ((rd_T119 l0_0 x4_2).f3))).setCell ⟨gb113, 4, none⟩ (.int .i64 ((rd_T119 l0_0 x4_2).f4))).setCell ⟨gb113, 5, none⟩ (.int .i64 ((rd_T119 l0_0 x4_2).f5))).setCell ⟨gb113, 6, none⟩ (.int .i64 ((rd_T119 l0_0 x4_2).f6))) w.heap.size (fun _ => True) v110 x3_2) := ⟨by (with_reducible repeat (first | apply Kd.R_alloc | apply Kd.R_drewN | apply Kd.R_drew)); exact Kd.R_mono (Kd.R_far (p := ⟨gb113, 6, none⟩) (Kd.R_far (p := ⟨gb113, 5, none⟩) (Kd.R_far (p := ⟨gb113, 4, none⟩) (Kd.R_far (p := ⟨gb113, 3, none⟩) (Kd.R_far (p := ⟨gb113, 2, none⟩) (Kd.R_far (p := ⟨gb113, 1, none⟩) (Kd.R_far (p := ⟨gb113, 0, none⟩) (Kd.R_types HO_3.out BK113.out (by decide)) (fun _ hk => hk.2) (.int .i64 ((rd_T119 l0_0 x4_2).f0))) (fun _ hk => hk.2) (.int .i64 ((rd_T119 l0_0 x4_2).f1))) (fun _ hk => hk.2) (.int .i64 ((rd_T119 l0_0 x4_2).f2))) (fun _ hk => hk.2) (.int .i64 ((rd_T119 l0_0 x4_2).f3))) (fun _ hk => hk.2) (.int .i64 ((rd_T119 l0_0 x4_2).f4))) (fun _ hk => hk.2) (.int .i64 ((rd_T119 l0_0 x4_2).f5))) (fun _ hk => hk.2) (.int .i64 ((rd_T119 l0_0 x4_2).f6))) (fun _ hk => trivial)⟩
                  have n1_ : Aside0 ((((((((w21.setCell ⟨gb113, 0, none⟩ (.int .i64 ((rd_T119 l0_0 x4_2).f0))).setCell ⟨gb113, 1, none⟩ (.int .i64 ((rd_T119 l0_0 x4_2).f1))).setCell ⟨gb113, 2, none⟩ (.int .i64 ((rd_T119 l0_0 x4_2).f2))).setCell ⟨gb113, 3, none⟩ (.int .i64 ((rd_T119 l0_0 x4_2).f3))).setCell ⟨gb113, 4, none⟩ (.int .i64 ((rd_T119 l0_0 x4_2).f4))).setCell ⟨gb113, 5, none⟩ (.int .i64 ((rd_T119 l0_0 x4_2).f5))).setCell ⟨gb113, 6, none⟩ (.int .i64 ((rd_T119 l0_0 x4_2).f6))).heap[gb107]? = some (.cells #[.slice (some ad112) l0_0.length c0_0, .slice A0_1 l0_1.length c0_1, .int .i64 a0_2] 75 (0, 0))) := ⟨by (with_reducible repeat (first | refine blk_drewN ?_ _ | refine blk_drew ?_ | refine blk_alloc ?_ _)); refine blk_far ?_ NB107_113.out _; (with_reducible repeat (first | refine blk_drewN ?_ _ | refine blk_drew ?_ | refine blk_alloc ?_ _)); refine blk_far ?_ NB107_113.out _; (with_reducible repeat (first | refine blk_drewN ?_ _ | refine blk_drew ?_ | refine blk_alloc ?_ _)); refine blk_far ?_ NB107_113.out _; (with_reducible repeat (first | refine blk_drewN ?_ _ | refine blk_drew ?_ | refine blk_alloc ?_ _)); refine blk_far ?_ NB107_113.out _; (with_reducible repeat (first | refine blk_drewN ?_ _ | refine blk_drew ?_ | refine blk_alloc ?_ _)); refine blk_far ?_ NB107_113.out _; (with_reducible repeat (first | refine blk_drewN ?_ _ | refine blk_drew ?_ | refine blk_alloc ?_ _)); refine blk_far ?_ NB107_113.out _; (with_reducible repeat (first | refine blk_drewN ?_ _ | refine blk_drew ?_ | refine blk_alloc ?_ _)); refine blk_far ?_ NB107_113.out _; (with_reducible repeat (first | refine blk_drewN ?_ _ | refine blk_drew ?_ | refine blk_alloc ?_ _)); exact BK107.out⟩
                  have n2_ : Aside0 ((((((((w21.setCell ⟨gb113, 0, none⟩ (.int .i64 ((rd_T119 l0_0 x4_2).f0))).setCell ⟨gb113, 1, none⟩ (.int .i64 ((rd_T119 l0_0 x4_2).f1))).setCell ⟨gb113, 2, none⟩ (.int .i64 ((rd_T119 l0_0 x4_2).f2))).setCell ⟨gb113, 3, none⟩ (.int .i64 ((rd_T119 l0_0 x4_2).f3))).setCell ⟨gb113, 4, none⟩ (.int .i64 ((rd_T119 l0_0 x4_2).f4))).setCell ⟨gb113, 5, none⟩ (.int .i64 ((rd_T119 l0_0 x4_2).f5))).setCell ⟨gb113, 6, none⟩ (.int .i64 ((rd_T119 l0_0 x4_2).f6))).heap[gb113]? = some (.cells #[.int .i64 ((rd_T119 l0_0 x4_2).f0), .int .i64 ((rd_T119 l0_0 x4_2).f1), .int .i64 ((rd_T119 l0_0 x4_2).f2), .int .i64 ((rd_T119 l0_0 x4_2).f3), .int .i64 ((rd_T119 l0_0 x4_2).f4), .int .i64 ((rd_T119 l0_0 x4_2).f5), .int .i64 ((rd_T119 l0_0 x4_2).f6)] 119 (0, 0))) := ⟨by (with_reducible repeat (first | refine blk_drewN ?_ _ | refine blk_drew ?_ | refine blk_alloc ?_ _)); refine blk_put (cs := #[.int .i64 ((rd_T119 l0_0 x4_2).f0), .int .i64 ((rd_T119 l0_0 x4_2).f1), .int .i64 ((rd_T119 l0_0 x4_2).f2), .int .i64 ((rd_T119 l0_0 x4_2).f3), .int .i64 ((rd_T119 l0_0 x4_2).f4), .int .i64 ((rd_T119 l0_0 x4_2).f5), .int .i64 0]) ?_ 6 _ rfl; (with_reducible repeat (first | refine blk_drewN ?_ _ | refine blk_drew ?_ | refine blk_alloc ?_ _)); refine blk_put (cs := #[.int .i64 ((rd_T119 l0_0 x4_2).f0), .int .i64 ((rd_T119 l0_0 x4_2).f1), .int .i64 ((rd_T119 l0_0 x4_2).f2), .int .i64 ((rd_T119 l0_0 x4_2).f3), .int .i64 ((rd_T119 l0_0 x4_2).f4), .int .i64 0, .int .i64 0]) ?_ 5 _ rfl; (with_reducible repeat (first | refine blk_drewN ?_ _ | refine blk_drew ?_ | refine blk_alloc ?_ _)); refine blk_put (cs := #[.int .i64 ((rd_T119 l0_0 x4_2).f0), .int .i64 ((rd_T119 l0_0 x4_2).f1), .int .i64 ((rd_T119 l0_0 x4_2).f2), .int .i64 ((rd_T119 l0_0 x4_2).f3), .int .i64 0, .int .i64 0, .int .i64 0]) ?_ 4 _ rfl; (with_reducible repeat (first | refine blk_drewN ?_ _ | refine blk_drew ?_ | refine blk_alloc ?_ _)); refine blk_put (cs := #[.int .i64 ((rd_T119 l0_0 x4_2).f0), .int .i64 ((rd_T119 l0_0 x4_2).f1), .int .i64 ((rd_T119 l0_0 x4_2).f2), .int .i64 0, .int .i64 0, .int .i64 0, .int .i64 0]) ?_ 3 _ rfl; (with_reducible repeat (first | refine blk_drewN ?_ _ | refine blk_drew ?_ | refine blk_alloc ?_ _)); refine blk_put (cs := #[.int .i64 ((rd_T119 l0_0 x4_2).f0), .int .i64 ((rd_T119 l0_0 x4_2).f1), .int .i64 0, .int .i64 0, .int .i64 0, .int .i64 0, .int .i64 0]) ?_ 2 _ rfl; (with_reducible repeat (first | refine blk_drewN ?_ _ | refine blk_drew ?_ | refine blk_alloc ?_ _)); refine blk_put (cs := #[.int .i64 ((rd_T119 l0_0 x4_2).f0), .int .i64 0, .int .i64 0, .int .i64 0, .int .i64 0, .int .i64 0, .int .i64 0]) ?_ 1 _ rfl; (with_reducible repeat (first | refine blk_drewN ?_ _ | refine blk_drew ?_ | refine blk_alloc ?_ _)); refine blk_put (cs := #[.int .i64 0, .int .i64 0, .int .i64 0, .int .i64 0, .int .i64 0, .int .i64 0, .int .i64 0]) ?_ 0 _ rfl; (with_reducible repeat (first | refine blk_drewN ?_ _ | refine blk_drew ?_ | refine blk_alloc ?_ _)); exact BK113.out⟩
                  have n3_ : Aside0 (Below w.heap.size w (((((((w21.setCell ⟨gb113, 0, none⟩ (.int .i64 ((rd_T119 l0_0 x4_2).f0))).setCell ⟨gb113, 1, none⟩ (.int .i64 ((rd_T119 l0_0 x4_2).f1))).setCell ⟨gb113, 2, none⟩ (.int .i64 ((rd_T119 l0_0 x4_2).f2))).setCell ⟨gb113, 3, none⟩ (.int .i64 ((rd_T119 l0_0 x4_2).f3))).setCell ⟨gb113, 4, none⟩ (.int .i64 ((rd_T119 l0_0 x4_2).f4))).setCell ⟨gb113, 5, none⟩ (.int .i64 ((rd_T119 l0_0 x4_2).f5))).setCell ⟨gb113, 6, none⟩ (.int .i64 ((rd_T119 l0_0 x4_2).f6)))) := ⟨by repeat (first | (with_reducible first | exact HB.out | apply below_alloc | apply pw_below_drewN | apply below_drew1 | refine below_set ?_ GE107.out | refine below_set ?_ GE113.out) | exact HB.out)⟩
                  (try clear HO_3)
                  (try clear BK107)
                  (try clear BK113)
                  (try clear HB)
                  generalize (((((((w21.setCell ⟨gb113, 0, none⟩ (.int .i64 ((rd_T119 l0_0 x4_2).f0))).setCell ⟨gb113, 1, none⟩ (.int .i64 ((rd_T119 l0_0 x4_2).f1))).setCell ⟨gb113, 2, none⟩ (.int .i64 ((rd_T119 l0_0 x4_2).f2))).setCell ⟨gb113, 3, none⟩ (.int .i64 ((rd_T119 l0_0 x4_2).f3))).setCell ⟨gb113, 4, none⟩ (.int .i64 ((rd_T119 l0_0 x4_2).f4))).setCell ⟨gb113, 5, none⟩ (.int .i64 ((rd_T119 l0_0 x4_2).f5))).setCell ⟨gb113, 6, none⟩ (.int .i64 ((rd_T119 l0_0 x4_2).f6))) = w37 at n0_ n1_ n2_ n3_ ⊢
                  try replace n0_ := Aside0.mk (by first | exact Kd.R_drewN n0_.out nd | exact blk_drewN n0_.out nd | exact pw_below_drewN n0_.out nd)
                  try replace n1_ := Aside0.mk (by first | exact Kd.R_drewN n1_.out nd | exact blk_drewN n1_.out nd | exact pw_below_drewN n1_.out nd)
                  try replace n2_ := Aside0.mk (by first | exact Kd.R_drewN n2_.out nd | exact blk_drewN n2_.out nd | exact pw_below_drewN n2_.out nd)
                  try replace n3_ := Aside0.mk (by first | exact Kd.R_drewN n3_.out nd | exact blk_drewN n3_.out nd | exact pw_below_drewN n3_.out nd)
                  try generalize w37.drewN nd = w37 at n0_ n1_ n2_ n3_ ⊢
                  have HO_3 := n0_
                  have BK107 := n1_
                  have BK113 := n2_
                  have HB := n3_
                  clear n0_ n1_ n2_ n3_
                  have n0_ := Aside0.mk (Kd.R_drew HO_3.out)
                  have n1_ := Aside0.mk (blk_drew BK107.out)
                  have n2_ := Aside0.mk (blk_drew BK113.out)
                  have n3_ := Aside0.mk (below_drew1 HB.out)
                  clear HO_3
                  clear BK107
                  clear BK113
                  clear HB
                  have HO_3 := n0_
                  have BK107 := n1_
                  have BK113 := n2_
                  have HB := n3_
                  clear n0_ n1_ n2_ n3_
                  have p117 : 0 ≤ ((ji28) : Int) := of_decide_eq_true (by first | (with_reducible assumption) | assumption)
                  have q117 : (ji28) < (l0_0.length : Int) := of_decide_eq_true (by first | (with_reducible assumption) | assumption)
                  obtain ⟨ad117, e117, hx117_0, hx117_1, hx117_2, hx117_3, hx117_4, hx117_5, hx117_6⟩ := at_T119 HR0_0.out (ji28) p117 q117
                  have hw117_6 := hx117_6
                  have hw117_5 := hx117_5
                  have hw117_4 := hx117_4
                  have hw117_3 := hx117_3
                  have hw117_2 := hx117_2
                  have hw117_1 := hx117_1
                  have hw117_0 := hx117_0
                  obtain rfl : ad112 = ad117 := (by injection e117)
                  replace hx117_0 := (HB.out.cell (World.block_lt_of_cell? w _ hx117_0)).trans hx117_0
                  replace hx117_1 := (HB.out.cell (World.block_lt_of_cell? w _ hx117_1)).trans hx117_1
                  replace hx117_2 := (HB.out.cell (World.block_lt_of_cell? w _ hx117_2)).trans hx117_2
                  replace hx117_3 := (HB.out.cell (World.block_lt_of_cell? w _ hx117_3)).trans hx117_3
                  replace hx117_4 := (HB.out.cell (World.block_lt_of_cell? w _ hx117_4)).trans hx117_4
                  replace hx117_5 := (HB.out.cell (World.block_lt_of_cell? w _ hx117_5)).trans hx117_5
                  replace hx117_6 := (HB.out.cell (World.block_lt_of_cell? w _ hx117_6)).trans hx117_6
                  replace p117 := eq_true p117
                  replace q117 := eq_true q117
                  refine start_ (n := 40) (S := fun w' => w'.cell? ⟨gb113, 0, none⟩ = some (.int .i64 ((rd_T119 l0_0 x4_2).f0)) ∧ w'.cell? ⟨gb113, 1, none⟩ = some (.int .i64 ((rd_T119 l0_0 x4_2).f1)) ∧ w'.cell? ⟨gb113, 2, none⟩ = some (.int .i64 ((rd_T119 l0_0 x4_2).f2)) ∧ w'.cell? ⟨gb113, 3, none⟩ = some (.int .i64 ((rd_T119 l0_0 x4_2).f3)) ∧ w'.cell? ⟨gb113, 4, none⟩ = some (.int .i64 ((rd_T119 l0_0 x4_2).f4)) ∧ w'.cell? ⟨gb113, 5, none⟩ = some (.int .i64 ((rd_T119 l0_0 x4_2).f5)) ∧ w'.cell? ⟨gb113, 6, none⟩ = some (.int .i64 ((rd_T119 l0_0 x4_2).f6)) ∧ w'.cell? ⟨gb107, 0, none⟩ = some (.slice (some ad112) l0_0.length c0_0) ∧ w'.cell? ⟨gb107, 1, none⟩ = some (.slice A0_1 l0_1.length c0_1) ∧ w'.cell? ⟨gb107, 2, none⟩ = some (.int .i64 a0_2) ∧ w'.cell? (ad112.add (((ji28)).toNat * 7)) = some (.int .i64 ((rd_T119 l0_0 (ji28)).f0)) ∧ w'.cell? ⟨(ad112.add (((ji28)).toNat * 7)).block, (ad112.add (((ji28)).toNat * 7)).off + 1, none⟩ = some (.int .i64 ((rd_T119 l0_0 (ji28)).f1)) ∧ w'.cell? ⟨(ad112.add (((ji28)).toNat * 7)).block, (ad112.add (((ji28)).toNat * 7)).off + 2, none⟩ = some (.int .i64 ((rd_T119 l0_0 (ji28)).f2)) ∧ w'.cell? ⟨(ad112.add (((ji28)).toNat * 7)).block, (ad112.add (((ji28)).toNat * 7)).off + 3, none⟩ = some (.int .i64 ((rd_T119 l0_0 (ji28)).f3)) ∧ w'.cell? ⟨(ad112.add (((ji28)).toNat * 7)).block, (ad112.add (((ji28)).toNat * 7)).off + 4, none⟩ = some (.int .i64 ((rd_T119 l0_0 (ji28)).f4)) ∧ w'.cell? ⟨(ad112.add (((ji28)).toNat * 7)).block, (ad112.add (((ji28)).toNat * 7)).off + 5, none⟩ = some (.int .i64 ((rd_T119 l0_0 (ji28)).f5)) ∧ w'.cell? ⟨(ad112.add (((ji28)).toNat * 7)).block, (ad112.add (((ji28)).toNat * 7)).off + 6, none⟩ = some (.int .i64 ((rd_T119 l0_0 (ji28)).f6))) (ds := []) spec_HouseOk.v0 (by kernel_rfl) rfl rfl ⟨(blk_cell BK113.out 0).trans rfl, (blk_cell BK113.out 1).trans rfl, (blk_cell BK113.out 2).trans rfl, (blk_cell BK113.out 3).trans rfl, (blk_cell BK113.out 4).trans rfl, (blk_cell BK113.out 5).trans rfl, (blk_cell BK113.out 6).trans rfl, (blk_cell BK107.out 0).trans rfl, (blk_cell BK107.out 1).trans rfl, (blk_cell BK107.out 2).trans rfl, ((HB.out.cell (World.block_lt_of_cell? w _ hw117_0)).trans hw117_0), ((HB.out.cell (World.block_lt_of_cell? w _ hw117_1)).trans hw117_1), ((HB.out.cell (World.block_lt_of_cell? w _ hw117_2)).trans hw117_2), ((HB.out.cell (World.block_lt_of_cell? w _ hw117_3)).trans hw117_3), ((HB.out.cell (World.block_lt_of_cell? w _ hw117_4)).trans hw117_4), ((HB.out.cell (World.block_lt_of_cell? w _ hw117_5)).trans hw117_5), ((HB.out.cell (World.block_lt_of_cell? w _ hw117_6)).trans hw117_6)⟩ (fun hHeld => ?_); refine with_tabW spec_HouseOk.tab9 spec_HouseOk.bits9 (fun HT_ HW_ => ?_)
                  generalize w37.drew = w38 at HO_3 BK107 BK113 HB hx117_0 hx117_1 hx117_2 hx117_3 hx117_4 hx117_5 hx117_6 hHeld ⊢
                  refine Sk.pq 0 52 spec_HouseOk.v1 HT_.out (h := ?_)
                  refine Sk.pq 1 53 spec_HouseOk.v2 HT_.out (h := ?_)
                  refine Sk.pq 2 54 spec_HouseOk.v3 HT_.out (h := ?_)
                  refine Sk.pq 3 55 spec_HouseOk.v4 HT_.out (h := ?_)
                  refine Sk.tk17 4 56 spec_HouseOk.v5 HT_.out HW_.out hHeld (h := ?_)
                  refine one_ (i := 5) (N := some 57) spec_HouseOk.v6 rfl rfl (one_of HT_.out (by kernel_rfl)) (by decide) (fun K hK => ?_)
                  refine goes_ Try.func51 (by kernel_rfl) rfl #[.int .i64 ((rd_T119 l0_0 x4_2).f0), .int .i64 1, .int .i64 1000000] (by rfl) rfl rfl (by (try simp only [List.map_toArray, List.map_cons, List.map_nil]); first | done | rfl | (simp only [List.length_drop, List.length_take]; rfl)) ?_
                  with_reducible refine (spec_l1In.calls ((rd_T119 l0_0 x4_2).f0) 1 1000000 true _ A25.out).mono ?_
                  rintro e w' ⟨rfl, ⟨nd, rfl⟩⟩
                  refine ⟨_, rfl, ?_⟩
                  refine hK.out _ _ ⟨(blk_cell BK113.out 0).trans rfl, (blk_cell BK113.out 1).trans rfl, (blk_cell BK113.out 2).trans rfl, (blk_cell BK113.out 3).trans rfl, (blk_cell BK113.out 4).trans rfl, (blk_cell BK113.out 5).trans rfl, (blk_cell BK113.out 6).trans rfl, (blk_cell BK107.out 0).trans rfl, (blk_cell BK107.out 1).trans rfl, (blk_cell BK107.out 2).trans rfl, ((HB.out.cell (World.block_lt_of_cell? w _ hw117_0)).trans hw117_0), ((HB.out.cell (World.block_lt_of_cell? w _ hw117_1)).trans hw117_1), ((HB.out.cell (World.block_lt_of_cell? w _ hw117_2)).trans hw117_2), ((HB.out.cell (World.block_lt_of_cell? w _ hw117_3)).trans hw117_3), ((HB.out.cell (World.block_lt_of_cell? w _ hw117_4)).trans hw117_4), ((HB.out.cell (World.block_lt_of_cell? w _ hw117_5)).trans hw117_5), ((HB.out.cell (World.block_lt_of_cell? w _ hw117_6)).trans hw117_6)⟩ (fun hHeld => ?_)
                  clear hK K
                  refine Sk.nm 57 (h := ?_)
                  refine Sk.pq 6 58 spec_HouseOk.v7 HT_.out (h := ?_)
                  refine Sk.pq 7 59 spec_HouseOk.v8 HT_.out (h := ?_)
                  refine Sk.pq 8 60 spec_HouseOk.v9 HT_.out (h := ?_)
                  refine Sk.pq 9 61 spec_HouseOk.v10 HT_.out (h := ?_)
                  refine Sk.pq 10 62 spec_HouseOk.v11 HT_.out (h := ?_)
                  refine Sk.pq 11 63 spec_HouseOk.v12 HT_.out (h := ?_)
                  refine Sk.pq 12 64 spec_HouseOk.v13 HT_.out (h := ?_)
                  refine Sk.pq 14 66 spec_HouseOk.v14 HT_.out (h := ?_)
                  refine Sk.pq 15 67 spec_HouseOk.v15 HT_.out (h := ?_)
                  refine Sk.pq 19 71 spec_HouseOk.v16 HT_.out (h := ?_)
                  refine Sk.tk17 13 65 spec_HouseOk.v17 HT_.out HW_.out hHeld (h := ?_)
                  refine Sk.pq 16 68 spec_HouseOk.v18 HT_.out (h := ?_)
                  refine Sk.pq 17 69 spec_HouseOk.v19 HT_.out (h := ?_)
                  refine Sk.tk17 18 70 spec_HouseOk.v20 HT_.out HW_.out hHeld (h := ?_)
                  refine Sk.tk17 20 72 spec_HouseOk.v21 HT_.out HW_.out hHeld (h := ?_)
                  refine Sk.pq 21 73 spec_HouseOk.v22 HT_.out (h := ?_)
                  refine Sk.pq 22 74 spec_HouseOk.v23 HT_.out (h := ?_)
                  refine Sk.pq 23 75 spec_HouseOk.v24 HT_.out (h := ?_)
                  refine Sk.pq 24 76 spec_HouseOk.v25 HT_.out (h := ?_)
                  refine Sk.pq 25 77 spec_HouseOk.v26 HT_.out (h := ?_)
                  refine Sk.pq 27 79 spec_HouseOk.v41 HT_.out (h := ?_)
                  refine Sk.tk17 26 78 spec_HouseOk.v28 HT_.out HW_.out hHeld (h := ?_)
                  refine Sk.tk17 28 80 spec_HouseOk.v29 HT_.out HW_.out hHeld (h := ?_)
                  refine Sk.pq 29 81 spec_HouseOk.v30 HT_.out (h := ?_)
                  refine Sk.pq 30 82 spec_HouseOk.v31 HT_.out (h := ?_)
                  refine one_ (i := 31) (N := some 83) spec_HouseOk.v32 rfl rfl (one_of HT_.out (by kernel_rfl)) (by decide) (fun K hK => ?_)
                  refine goes_ Try.func51 (by kernel_rfl) rfl #[.int .i64 ((rd_T119 l0_0 x4_2).f1), .int .i64 0, .int .i64 (wrap64 ((l0_1.length : Int) - 1))] (by rfl) rfl rfl (by (try simp only [List.map_toArray, List.map_cons, List.map_nil]); first | done | rfl | (simp only [List.length_drop, List.length_take]; rfl)) ?_
                  with_reducible refine (spec_l1In.calls ((rd_T119 l0_0 x4_2).f1) 0 (wrap64 ((l0_1.length : Int) - 1)) true _ A34.out).mono ?_
                  rintro e w' ⟨rfl, ⟨nd, rfl⟩⟩
                  refine ⟨_, rfl, ?_⟩
                  refine hK.out _ _ ⟨(blk_cell BK113.out 0).trans rfl, (blk_cell BK113.out 1).trans rfl, (blk_cell BK113.out 2).trans rfl, (blk_cell BK113.out 3).trans rfl, (blk_cell BK113.out 4).trans rfl, (blk_cell BK113.out 5).trans rfl, (blk_cell BK113.out 6).trans rfl, (blk_cell BK107.out 0).trans rfl, (blk_cell BK107.out 1).trans rfl, (blk_cell BK107.out 2).trans rfl, ((HB.out.cell (World.block_lt_of_cell? w _ hw117_0)).trans hw117_0), ((HB.out.cell (World.block_lt_of_cell? w _ hw117_1)).trans hw117_1), ((HB.out.cell (World.block_lt_of_cell? w _ hw117_2)).trans hw117_2), ((HB.out.cell (World.block_lt_of_cell? w _ hw117_3)).trans hw117_3), ((HB.out.cell (World.block_lt_of_cell? w _ hw117_4)).trans hw117_4), ((HB.out.cell (World.block_lt_of_cell? w _ hw117_5)).trans hw117_5), ((HB.out.cell (World.block_lt_of_cell? w _ hw117_6)).trans hw117_6)⟩ (fun hHeld => ?_)
                  clear hK K
                  refine Sk.nm 83 (h := ?_)
                  refine Sk.pq 32 84 spec_HouseOk.v33 HT_.out (h := ?_)
                  refine Sk.pq 33 85 spec_HouseOk.v34 HT_.out (h := ?_)
                  refine Sk.pq 34 86 spec_HouseOk.v35 HT_.out (h := ?_)
                  refine Sk.pq 35 87 spec_HouseOk.v36 HT_.out (h := ?_)
                  refine Sk.tk17 36 88 spec_HouseOk.v37 HT_.out HW_.out hHeld (h := ?_)
                  refine one_ (i := 37) (N := some 89) spec_HouseOk.v38 rfl rfl (one_of HT_.out (by kernel_rfl)) (by decide) (fun K hK => ?_)
                  refine goes_ Try.func51 (by kernel_rfl) rfl #[.int .i64 ((rd_T119 l0_0 x4_2).f5), .int .i64 1, .int .i64 5] (by rfl) rfl rfl (by (try simp only [List.map_toArray, List.map_cons, List.map_nil]); first | done | rfl | (simp only [List.length_drop, List.length_take]; rfl)) ?_
                  with_reducible refine (spec_l1In.calls ((rd_T119 l0_0 x4_2).f5) 1 5 t119 _ A36.out).mono ?_
                  rintro e w' ⟨rfl, ⟨nd, rfl⟩⟩
                  refine ⟨_, rfl, ?_⟩
                  refine hK.out _ _ ⟨(blk_cell BK113.out 0).trans rfl, (blk_cell BK113.out 1).trans rfl, (blk_cell BK113.out 2).trans rfl, (blk_cell BK113.out 3).trans rfl, (blk_cell BK113.out 4).trans rfl, (blk_cell BK113.out 5).trans rfl, (blk_cell BK113.out 6).trans rfl, (blk_cell BK107.out 0).trans rfl, (blk_cell BK107.out 1).trans rfl, (blk_cell BK107.out 2).trans rfl, ((HB.out.cell (World.block_lt_of_cell? w _ hw117_0)).trans hw117_0), ((HB.out.cell (World.block_lt_of_cell? w _ hw117_1)).trans hw117_1), ((HB.out.cell (World.block_lt_of_cell? w _ hw117_2)).trans hw117_2), ((HB.out.cell (World.block_lt_of_cell? w _ hw117_3)).trans hw117_3), ((HB.out.cell (World.block_lt_of_cell? w _ hw117_4)).trans hw117_4), ((HB.out.cell (World.block_lt_of_cell? w _ hw117_5)).trans hw117_5), ((HB.out.cell (World.block_lt_of_cell? w _ hw117_6)).trans hw117_6)⟩ (fun hHeld => ?_)
                  clear hK K
                  refine Sk.nm 89 (h := ?_)
                  refine Sk.pq 38 90 spec_HouseOk.v39 HT_.out (h := ?_)
                  refine Sk.pq 39 91 spec_HouseOk.v40 HT_.out (h := ?_)
                  refine done_ (done_of HT_.out (by kernel_rfl)) ?_
                  try go_wp2
                  go_meet
                  case rel => exact ⟨_, (!t119), (by first | rfl | (simp; done) | (simp [*]; done)), H', ⟨by have := HJ1.out; have := HK2.out; first | omega | exact Nat.le_refl _⟩, ⟨by (with_reducible repeat (first | apply Kd.R_alloc | apply Kd.R_drewN | apply Kd.R_drew)); exact HO_3.out⟩, ⟨by (with_reducible repeat (first | refine blk_drewN ?_ _ | refine blk_drew ?_ | refine blk_alloc ?_ _)); exact BK107.out⟩, ⟨by (with_reducible repeat (first | refine blk_drewN ?_ _ | refine blk_drew ?_ | refine blk_alloc ?_ _)); exact BK113.out⟩, ⟨by repeat (first | (with_reducible first | exact HB.out | apply below_alloc | apply pw_below_drewN | apply below_drew1 | refine below_set ?_ GE107.out | refine below_set ?_ GE113.out) | exact HB.out)⟩⟩
                 ·replace c35 := Bool.eq_false_iff.mpr c35
                  subst c35
                  rw [if_neg (show ¬ (false = true) by decide)] at H
                  have H' := Aside0.mk H
                  clear H
                  try go_wp2
                  have n0_ : Aside0 (Kd.R (Kd.int .i64) 3 (((((((w21.setCell ⟨gb113, 0, none⟩ (.int .i64 ((rd_T119 l0_0 x4_2).f0))).setCell ⟨gb113, 1, none⟩ (.int .i64 ((rd_T119 l0_0 x4_2).f1))).setCell ⟨gb113, 2, none⟩ (.int .i64 ((rd_T119 l0_0 x4_2).f2))).setCell ⟨gb113, 3, none⟩ (.int .i64 ((rd_T119 l0_0 x4_2).f3))).setCell ⟨gb113, 4, none⟩ (.int .i64 ((rd_T119 l0_0 x4_2).f4))).setCell ⟨gb113, 5, none⟩ (.int .i64 ((rd_T119 l0_0 x4_2).f5))).setCell ⟨gb113, 6, none⟩ (.int .i64 ((rd_T119 l0_0 x4_2).f6))) w.heap.size (fun _ => True) v110 x3_2) := ⟨by (with_reducible repeat (first | apply Kd.R_alloc | apply Kd.R_drewN | apply Kd.R_drew)); exact Kd.R_mono (Kd.R_far (p := ⟨gb113, 6, none⟩) (Kd.R_far (p := ⟨gb113, 5, none⟩) (Kd.R_far (p := ⟨gb113, 4, none⟩) (Kd.R_far (p := ⟨gb113, 3, none⟩) (Kd.R_far (p := ⟨gb113, 2, none⟩) (Kd.R_far (p := ⟨gb113, 1, none⟩) (Kd.R_far (p := ⟨gb113, 0, none⟩) (Kd.R_types HO_3.out BK113.out (by decide)) (fun _ hk => hk.2) (.int .i64 ((rd_T119 l0_0 x4_2).f0))) (fun _ hk => hk.2) (.int .i64 ((rd_T119 l0_0 x4_2).f1))) (fun _ hk => hk.2) (.int .i64 ((rd_T119 l0_0 x4_2).f2))) (fun _ hk => hk.2) (.int .i64 ((rd_T119 l0_0 x4_2).f3))) (fun _ hk => hk.2) (.int .i64 ((rd_T119 l0_0 x4_2).f4))) (fun _ hk => hk.2) (.int .i64 ((rd_T119 l0_0 x4_2).f5))) (fun _ hk => hk.2) (.int .i64 ((rd_T119 l0_0 x4_2).f6))) (fun _ hk => trivial)⟩
                  have n1_ : Aside0 ((((((((w21.setCell ⟨gb113, 0, none⟩ (.int .i64 ((rd_T119 l0_0 x4_2).f0))).setCell ⟨gb113, 1, none⟩ (.int .i64 ((rd_T119 l0_0 x4_2).f1))).setCell ⟨gb113, 2, none⟩ (.int .i64 ((rd_T119 l0_0 x4_2).f2))).setCell ⟨gb113, 3, none⟩ (.int .i64 ((rd_T119 l0_0 x4_2).f3))).setCell ⟨gb113, 4, none⟩ (.int .i64 ((rd_T119 l0_0 x4_2).f4))).setCell ⟨gb113, 5, none⟩ (.int .i64 ((rd_T119 l0_0 x4_2).f5))).setCell ⟨gb113, 6, none⟩ (.int .i64 ((rd_T119 l0_0 x4_2).f6))).heap[gb107]? = some (.cells #[.slice (some ad112) l0_0.length c0_0, .slice A0_1 l0_1.length c0_1, .int .i64 a0_2] 75 (0, 0))) := ⟨by (with_reducible repeat (first | refine blk_drewN ?_ _ | refine blk_drew ?_ | refine blk_alloc ?_ _)); refine blk_far ?_ NB107_113.out _; (with_reducible repeat (first | refine blk_drewN ?_ _ | refine blk_drew ?_ | refine blk_alloc ?_ _)); refine blk_far ?_ NB107_113.out _; (with_reducible repeat (first | refine blk_drewN ?_ _ | refine blk_drew ?_ | refine blk_alloc ?_ _)); refine blk_far ?_ NB107_113.out _; (with_reducible repeat (first | refine blk_drewN ?_ _ | refine blk_drew ?_ | refine blk_alloc ?_ _)); refine blk_far ?_ NB107_113.out _; (with_reducible repeat (first | refine blk_drewN ?_ _ | refine blk_drew ?_ | refine blk_alloc ?_ _)); refine blk_far ?_ NB107_113.out _; (with_reducible repeat (first | refine blk_drewN ?_ _ | refine blk_drew ?_ | refine blk_alloc ?_ _)); refine blk_far ?_ NB107_113.out _; (with_reducible repeat (first | refine blk_drewN ?_ _ | refine blk_drew ?_ | refine blk_alloc ?_ _)); refine blk_far ?_ NB107_113.out _; (with_reducible repeat (first | refine blk_drewN ?_ _ | refine blk_drew ?_ | refine blk_alloc ?_ _)); exact BK107.out⟩
                  have n2_ : Aside0 ((((((((w21.setCell ⟨gb113, 0, none⟩ (.int .i64 ((rd_T119 l0_0 x4_2).f0))).setCell ⟨gb113, 1, none⟩ (.int .i64 ((rd_T119 l0_0 x4_2).f1))).setCell ⟨gb113, 2, none⟩ (.int .i64 ((rd_T119 l0_0 x4_2).f2))).setCell ⟨gb113, 3, none⟩ (.int .i64 ((rd_T119 l0_0 x4_2).f3))).setCell ⟨gb113, 4, none⟩ (.int .i64 ((rd_T119 l0_0 x4_2).f4))).setCell ⟨gb113, 5, none⟩ (.int .i64 ((rd_T119 l0_0 x4_2).f5))).setCell ⟨gb113, 6, none⟩ (.int .i64 ((rd_T119 l0_0 x4_2).f6))).heap[gb113]? = some (.cells #[.int .i64 ((rd_T119 l0_0 x4_2).f0), .int .i64 ((rd_T119 l0_0 x4_2).f1), .int .i64 ((rd_T119 l0_0 x4_2).f2), .int .i64 ((rd_T119 l0_0 x4_2).f3), .int .i64 ((rd_T119 l0_0 x4_2).f4), .int .i64 ((rd_T119 l0_0 x4_2).f5), .int .i64 ((rd_T119 l0_0 x4_2).f6)] 119 (0, 0))) := ⟨by (with_reducible repeat (first | refine blk_drewN ?_ _ | refine blk_drew ?_ | refine blk_alloc ?_ _)); refine blk_put (cs := #[.int .i64 ((rd_T119 l0_0 x4_2).f0), .int .i64 ((rd_T119 l0_0 x4_2).f1), .int .i64 ((rd_T119 l0_0 x4_2).f2), .int .i64 ((rd_T119 l0_0 x4_2).f3), .int .i64 ((rd_T119 l0_0 x4_2).f4), .int .i64 ((rd_T119 l0_0 x4_2).f5), .int .i64 0]) ?_ 6 _ rfl; (with_reducible repeat (first | refine blk_drewN ?_ _ | refine blk_drew ?_ | refine blk_alloc ?_ _)); refine blk_put (cs := #[.int .i64 ((rd_T119 l0_0 x4_2).f0), .int .i64 ((rd_T119 l0_0 x4_2).f1), .int .i64 ((rd_T119 l0_0 x4_2).f2), .int .i64 ((rd_T119 l0_0 x4_2).f3), .int .i64 ((rd_T119 l0_0 x4_2).f4), .int .i64 0, .int .i64 0]) ?_ 5 _ rfl; (with_reducible repeat (first | refine blk_drewN ?_ _ | refine blk_drew ?_ | refine blk_alloc ?_ _)); refine blk_put (cs := #[.int .i64 ((rd_T119 l0_0 x4_2).f0), .int .i64 ((rd_T119 l0_0 x4_2).f1), .int .i64 ((rd_T119 l0_0 x4_2).f2), .int .i64 ((rd_T119 l0_0 x4_2).f3), .int .i64 0, .int .i64 0, .int .i64 0]) ?_ 4 _ rfl; (with_reducible repeat (first | refine blk_drewN ?_ _ | refine blk_drew ?_ | refine blk_alloc ?_ _)); refine blk_put (cs := #[.int .i64 ((rd_T119 l0_0 x4_2).f0), .int .i64 ((rd_T119 l0_0 x4_2).f1), .int .i64 ((rd_T119 l0_0 x4_2).f2), .int .i64 0, .int .i64 0, .int .i64 0, .int .i64 0]) ?_ 3 _ rfl; (with_reducible repeat (first | refine blk_drewN ?_ _ | refine blk_drew ?_ | refine blk_alloc ?_ _)); refine blk_put (cs := #[.int .i64 ((rd_T119 l0_0 x4_2).f0), .int .i64 ((rd_T119 l0_0 x4_2).f1), .int .i64 0, .int .i64 0, .int .i64 0, .int .i64 0, .int .i64 0]) ?_ 2 _ rfl; (with_reducible repeat (first | refine blk_drewN ?_ _ | refine blk_drew ?_ | refine blk_alloc ?_ _)); refine blk_put (cs := #[.int .i64 ((rd_T119 l0_0 x4_2).f0), .int .i64 0, .int .i64 0, .int .i64 0, .int .i64 0, .int .i64 0, .int .i64 0]) ?_ 1 _ rfl; (with_reducible repeat (first | refine blk_drewN ?_ _ | refine blk_drew ?_ | refine blk_alloc ?_ _)); refine blk_put (cs := #[.int .i64 0, .int .i64 0, .int .i64 0, .int .i64 0, .int .i64 0, .int .i64 0, .int .i64 0]) ?_ 0 _ rfl; (with_reducible repeat (first | refine blk_drewN ?_ _ | refine blk_drew ?_ | refine blk_alloc ?_ _)); exact BK113.out⟩
                  have n3_ : Aside0 (Below w.heap.size w (((((((w21.setCell ⟨gb113, 0, none⟩ (.int .i64 ((rd_T119 l0_0 x4_2).f0))).setCell ⟨gb113, 1, none⟩ (.int .i64 ((rd_T119 l0_0 x4_2).f1))).setCell ⟨gb113, 2, none⟩ (.int .i64 ((rd_T119 l0_0 x4_2).f2))).setCell ⟨gb113, 3, none⟩ (.int .i64 ((rd_T119 l0_0 x4_2).f3))).setCell ⟨gb113, 4, none⟩ (.int .i64 ((rd_T119 l0_0 x4_2).f4))).setCell ⟨gb113, 5, none⟩ (.int .i64 ((rd_T119 l0_0 x4_2).f5))).setCell ⟨gb113, 6, none⟩ (.int .i64 ((rd_T119 l0_0 x4_2).f6)))) := ⟨by repeat (first | (with_reducible first | exact HB.out | apply below_alloc | apply pw_below_drewN | apply below_drew1 | refine below_set ?_ GE107.out | refine below_set ?_ GE113.out) | exact HB.out)⟩
                  (try clear HO_3)
                  (try clear BK107)
                  (try clear BK113)
                  (try clear HB)
                  generalize (((((((w21.setCell ⟨gb113, 0, none⟩ (.int .i64 ((rd_T119 l0_0 x4_2).f0))).setCell ⟨gb113, 1, none⟩ (.int .i64 ((rd_T119 l0_0 x4_2).f1))).setCell ⟨gb113, 2, none⟩ (.int .i64 ((rd_T119 l0_0 x4_2).f2))).setCell ⟨gb113, 3, none⟩ (.int .i64 ((rd_T119 l0_0 x4_2).f3))).setCell ⟨gb113, 4, none⟩ (.int .i64 ((rd_T119 l0_0 x4_2).f4))).setCell ⟨gb113, 5, none⟩ (.int .i64 ((rd_T119 l0_0 x4_2).f5))).setCell ⟨gb113, 6, none⟩ (.int .i64 ((rd_T119 l0_0 x4_2).f6))) = w39 at n0_ n1_ n2_ n3_ ⊢
                  try replace n0_ := Aside0.mk (by first | exact Kd.R_drewN n0_.out nd | exact blk_drewN n0_.out nd | exact pw_below_drewN n0_.out nd)
                  try replace n1_ := Aside0.mk (by first | exact Kd.R_drewN n1_.out nd | exact blk_drewN n1_.out nd | exact pw_below_drewN n1_.out nd)
                  try replace n2_ := Aside0.mk (by first | exact Kd.R_drewN n2_.out nd | exact blk_drewN n2_.out nd | exact pw_below_drewN n2_.out nd)
                  try replace n3_ := Aside0.mk (by first | exact Kd.R_drewN n3_.out nd | exact blk_drewN n3_.out nd | exact pw_below_drewN n3_.out nd)
                  try generalize w39.drewN nd = w39 at n0_ n1_ n2_ n3_ ⊢
                  have HO_3 := n0_
                  have BK107 := n1_
                  have BK113 := n2_
                  have HB := n3_
                  clear n0_ n1_ n2_ n3_
                  have n0_ := Aside0.mk (Kd.R_drew HO_3.out)
                  have n1_ := Aside0.mk (blk_drew BK107.out)
                  have n2_ := Aside0.mk (blk_drew BK113.out)
                  have n3_ := Aside0.mk (below_drew1 HB.out)
                  clear HO_3
                  clear BK107
                  clear BK113
                  clear HB
                  have HO_3 := n0_
                  have BK107 := n1_
                  have BK113 := n2_
                  have HB := n3_
                  clear n0_ n1_ n2_ n3_
                  have p117 : 0 ≤ ((ji28) : Int) := of_decide_eq_true (by first | (with_reducible assumption) | assumption)
                  have q117 : (ji28) < (l0_0.length : Int) := of_decide_eq_true (by first | (with_reducible assumption) | assumption)
                  obtain ⟨ad117, e117, hx117_0, hx117_1, hx117_2, hx117_3, hx117_4, hx117_5, hx117_6⟩ := at_T119 HR0_0.out (ji28) p117 q117
                  have hw117_6 := hx117_6
                  have hw117_5 := hx117_5
                  have hw117_4 := hx117_4
                  have hw117_3 := hx117_3
                  have hw117_2 := hx117_2
                  have hw117_1 := hx117_1
                  have hw117_0 := hx117_0
                  obtain rfl : ad112 = ad117 := (by injection e117)
                  replace hx117_0 := (HB.out.cell (World.block_lt_of_cell? w _ hx117_0)).trans hx117_0
                  replace hx117_1 := (HB.out.cell (World.block_lt_of_cell? w _ hx117_1)).trans hx117_1
                  replace hx117_2 := (HB.out.cell (World.block_lt_of_cell? w _ hx117_2)).trans hx117_2
                  replace hx117_3 := (HB.out.cell (World.block_lt_of_cell? w _ hx117_3)).trans hx117_3
                  replace hx117_4 := (HB.out.cell (World.block_lt_of_cell? w _ hx117_4)).trans hx117_4
                  replace hx117_5 := (HB.out.cell (World.block_lt_of_cell? w _ hx117_5)).trans hx117_5
                  replace hx117_6 := (HB.out.cell (World.block_lt_of_cell? w _ hx117_6)).trans hx117_6
                  replace p117 := eq_true p117
                  replace q117 := eq_true q117
                  refine start_ (n := 40) (S := fun w' => w'.cell? ⟨gb113, 0, none⟩ = some (.int .i64 ((rd_T119 l0_0 x4_2).f0)) ∧ w'.cell? ⟨gb113, 1, none⟩ = some (.int .i64 ((rd_T119 l0_0 x4_2).f1)) ∧ w'.cell? ⟨gb113, 2, none⟩ = some (.int .i64 ((rd_T119 l0_0 x4_2).f2)) ∧ w'.cell? ⟨gb113, 3, none⟩ = some (.int .i64 ((rd_T119 l0_0 x4_2).f3)) ∧ w'.cell? ⟨gb113, 4, none⟩ = some (.int .i64 ((rd_T119 l0_0 x4_2).f4)) ∧ w'.cell? ⟨gb113, 5, none⟩ = some (.int .i64 ((rd_T119 l0_0 x4_2).f5)) ∧ w'.cell? ⟨gb113, 6, none⟩ = some (.int .i64 ((rd_T119 l0_0 x4_2).f6)) ∧ w'.cell? ⟨gb107, 0, none⟩ = some (.slice (some ad112) l0_0.length c0_0) ∧ w'.cell? ⟨gb107, 1, none⟩ = some (.slice A0_1 l0_1.length c0_1) ∧ w'.cell? ⟨gb107, 2, none⟩ = some (.int .i64 a0_2) ∧ w'.cell? (ad112.add (((ji28)).toNat * 7)) = some (.int .i64 ((rd_T119 l0_0 (ji28)).f0)) ∧ w'.cell? ⟨(ad112.add (((ji28)).toNat * 7)).block, (ad112.add (((ji28)).toNat * 7)).off + 1, none⟩ = some (.int .i64 ((rd_T119 l0_0 (ji28)).f1)) ∧ w'.cell? ⟨(ad112.add (((ji28)).toNat * 7)).block, (ad112.add (((ji28)).toNat * 7)).off + 2, none⟩ = some (.int .i64 ((rd_T119 l0_0 (ji28)).f2)) ∧ w'.cell? ⟨(ad112.add (((ji28)).toNat * 7)).block, (ad112.add (((ji28)).toNat * 7)).off + 3, none⟩ = some (.int .i64 ((rd_T119 l0_0 (ji28)).f3)) ∧ w'.cell? ⟨(ad112.add (((ji28)).toNat * 7)).block, (ad112.add (((ji28)).toNat * 7)).off + 4, none⟩ = some (.int .i64 ((rd_T119 l0_0 (ji28)).f4)) ∧ w'.cell? ⟨(ad112.add (((ji28)).toNat * 7)).block, (ad112.add (((ji28)).toNat * 7)).off + 5, none⟩ = some (.int .i64 ((rd_T119 l0_0 (ji28)).f5)) ∧ w'.cell? ⟨(ad112.add (((ji28)).toNat * 7)).block, (ad112.add (((ji28)).toNat * 7)).off + 6, none⟩ = some (.int .i64 ((rd_T119 l0_0 (ji28)).f6))) (ds := []) spec_HouseOk.v0 (by kernel_rfl) rfl rfl ⟨(blk_cell BK113.out 0).trans rfl, (blk_cell BK113.out 1).trans rfl, (blk_cell BK113.out 2).trans rfl, (blk_cell BK113.out 3).trans rfl, (blk_cell BK113.out 4).trans rfl, (blk_cell BK113.out 5).trans rfl, (blk_cell BK113.out 6).trans rfl, (blk_cell BK107.out 0).trans rfl, (blk_cell BK107.out 1).trans rfl, (blk_cell BK107.out 2).trans rfl, ((HB.out.cell (World.block_lt_of_cell? w _ hw117_0)).trans hw117_0), ((HB.out.cell (World.block_lt_of_cell? w _ hw117_1)).trans hw117_1), ((HB.out.cell (World.block_lt_of_cell? w _ hw117_2)).trans hw117_2), ((HB.out.cell (World.block_lt_of_cell? w _ hw117_3)).trans hw117_3), ((HB.out.cell (World.block_lt_of_cell? w _ hw117_4)).trans hw117_4), ((HB.out.cell (World.block_lt_of_cell? w _ hw117_5)).trans hw117_5), ((HB.out.cell (World.block_lt_of_cell? w _ hw117_6)).trans hw117_6)⟩ (fun hHeld => ?_); refine with_tabW spec_HouseOk.tab9 spec_HouseOk.bits9 (fun HT_ HW_ => ?_)
                  generalize w39.drew = w40 at HO_3 BK107 BK113 HB hx117_0 hx117_1 hx117_2 hx117_3 hx117_4 hx117_5 hx117_6 hHeld ⊢
                  refine Sk.pq 0 52 spec_HouseOk.v1 HT_.out (h := ?_)
                  refine Sk.pq 1 53 spec_HouseOk.v2 HT_.out (h := ?_)
                  refine Sk.pq 2 54 spec_HouseOk.v3 HT_.out (h := ?_)
                  refine Sk.pq 3 55 spec_HouseOk.v4 HT_.out (h := ?_)
                  refine Sk.tk17 4 56 spec_HouseOk.v5 HT_.out HW_.out hHeld (h := ?_)
                  refine one_ (i := 5) (N := some 57) spec_HouseOk.v6 rfl rfl (one_of HT_.out (by kernel_rfl)) (by decide) (fun K hK => ?_)
                  refine goes_ Try.func51 (by kernel_rfl) rfl #[.int .i64 ((rd_T119 l0_0 x4_2).f0), .int .i64 1, .int .i64 1000000] (by rfl) rfl rfl (by (try simp only [List.map_toArray, List.map_cons, List.map_nil]); first | done | rfl | (simp only [List.length_drop, List.length_take]; rfl)) ?_
                  with_reducible refine (spec_l1In.calls ((rd_T119 l0_0 x4_2).f0) 1 1000000 true _ A25.out).mono ?_
                  rintro e w' ⟨rfl, ⟨nd, rfl⟩⟩
                  refine ⟨_, rfl, ?_⟩
                  refine hK.out _ _ ⟨(blk_cell BK113.out 0).trans rfl, (blk_cell BK113.out 1).trans rfl, (blk_cell BK113.out 2).trans rfl, (blk_cell BK113.out 3).trans rfl, (blk_cell BK113.out 4).trans rfl, (blk_cell BK113.out 5).trans rfl, (blk_cell BK113.out 6).trans rfl, (blk_cell BK107.out 0).trans rfl, (blk_cell BK107.out 1).trans rfl, (blk_cell BK107.out 2).trans rfl, ((HB.out.cell (World.block_lt_of_cell? w _ hw117_0)).trans hw117_0), ((HB.out.cell (World.block_lt_of_cell? w _ hw117_1)).trans hw117_1), ((HB.out.cell (World.block_lt_of_cell? w _ hw117_2)).trans hw117_2), ((HB.out.cell (World.block_lt_of_cell? w _ hw117_3)).trans hw117_3), ((HB.out.cell (World.block_lt_of_cell? w _ hw117_4)).trans hw117_4), ((HB.out.cell (World.block_lt_of_cell? w _ hw117_5)).trans hw117_5), ((HB.out.cell (World.block_lt_of_cell? w _ hw117_6)).trans hw117_6)⟩ (fun hHeld => ?_)
                  clear hK K
                  refine Sk.nm 57 (h := ?_)
                  refine Sk.pq 6 58 spec_HouseOk.v7 HT_.out (h := ?_)
                  refine Sk.pq 7 59 spec_HouseOk.v8 HT_.out (h := ?_)
                  refine Sk.pq 8 60 spec_HouseOk.v9 HT_.out (h := ?_)
                  refine Sk.pq 9 61 spec_HouseOk.v10 HT_.out (h := ?_)
                  refine Sk.pq 10 62 spec_HouseOk.v11 HT_.out (h := ?_)
                  refine Sk.pq 11 63 spec_HouseOk.v12 HT_.out (h := ?_)
                  refine Sk.pq 12 64 spec_HouseOk.v13 HT_.out (h := ?_)
                  refine Sk.pq 14 66 spec_HouseOk.v14 HT_.out (h := ?_)
                  refine Sk.pq 15 67 spec_HouseOk.v15 HT_.out (h := ?_)
                  refine Sk.pq 19 71 spec_HouseOk.v16 HT_.out (h := ?_)
                  refine Sk.tk17 13 65 spec_HouseOk.v17 HT_.out HW_.out hHeld (h := ?_)
                  refine Sk.pq 16 68 spec_HouseOk.v18 HT_.out (h := ?_)
                  refine Sk.pq 17 69 spec_HouseOk.v19 HT_.out (h := ?_)
                  refine Sk.tk17 18 70 spec_HouseOk.v20 HT_.out HW_.out hHeld (h := ?_)
                  refine Sk.tk17 20 72 spec_HouseOk.v21 HT_.out HW_.out hHeld (h := ?_)
                  refine Sk.pq 21 73 spec_HouseOk.v22 HT_.out (h := ?_)
                  refine Sk.pq 22 74 spec_HouseOk.v23 HT_.out (h := ?_)
                  refine Sk.pq 23 75 spec_HouseOk.v24 HT_.out (h := ?_)
                  refine Sk.pq 24 76 spec_HouseOk.v25 HT_.out (h := ?_)
                  refine Sk.pq 25 77 spec_HouseOk.v26 HT_.out (h := ?_)
                  refine Sk.pq 27 79 spec_HouseOk.v41 HT_.out (h := ?_)
                  refine Sk.tk17 26 78 spec_HouseOk.v28 HT_.out HW_.out hHeld (h := ?_)
                  refine Sk.tk17 28 80 spec_HouseOk.v29 HT_.out HW_.out hHeld (h := ?_)
                  refine Sk.pq 29 81 spec_HouseOk.v30 HT_.out (h := ?_)
                  refine Sk.pq 30 82 spec_HouseOk.v31 HT_.out (h := ?_)
                  refine one_ (i := 31) (N := some 83) spec_HouseOk.v32 rfl rfl (one_of HT_.out (by kernel_rfl)) (by decide) (fun K hK => ?_)
                  refine goes_ Try.func51 (by kernel_rfl) rfl #[.int .i64 ((rd_T119 l0_0 x4_2).f1), .int .i64 0, .int .i64 (wrap64 ((l0_1.length : Int) - 1))] (by rfl) rfl rfl (by (try simp only [List.map_toArray, List.map_cons, List.map_nil]); first | done | rfl | (simp only [List.length_drop, List.length_take]; rfl)) ?_
                  with_reducible refine (spec_l1In.calls ((rd_T119 l0_0 x4_2).f1) 0 (wrap64 ((l0_1.length : Int) - 1)) false _ A34.out).mono ?_
                  rintro e w' ⟨rfl, ⟨nd, rfl⟩⟩
                  refine ⟨_, rfl, ?_⟩
                  refine hK.out _ _ ⟨(blk_cell BK113.out 0).trans rfl, (blk_cell BK113.out 1).trans rfl, (blk_cell BK113.out 2).trans rfl, (blk_cell BK113.out 3).trans rfl, (blk_cell BK113.out 4).trans rfl, (blk_cell BK113.out 5).trans rfl, (blk_cell BK113.out 6).trans rfl, (blk_cell BK107.out 0).trans rfl, (blk_cell BK107.out 1).trans rfl, (blk_cell BK107.out 2).trans rfl, ((HB.out.cell (World.block_lt_of_cell? w _ hw117_0)).trans hw117_0), ((HB.out.cell (World.block_lt_of_cell? w _ hw117_1)).trans hw117_1), ((HB.out.cell (World.block_lt_of_cell? w _ hw117_2)).trans hw117_2), ((HB.out.cell (World.block_lt_of_cell? w _ hw117_3)).trans hw117_3), ((HB.out.cell (World.block_lt_of_cell? w _ hw117_4)).trans hw117_4), ((HB.out.cell (World.block_lt_of_cell? w _ hw117_5)).trans hw117_5), ((HB.out.cell (World.block_lt_of_cell? w _ hw117_6)).trans hw117_6)⟩ (fun hHeld => ?_)
                  clear hK K
                  refine Sk.nm 83 (h := ?_)
                  refine Sk.pq 32 84 spec_HouseOk.v33 HT_.out (h := ?_)
                  refine Sk.pq 33 85 spec_HouseOk.v34 HT_.out (h := ?_)
                  refine Sk.pq 34 86 spec_HouseOk.v35 HT_.out (h := ?_)
                  refine Sk.pu 35 87 spec_HouseOk.v36 HT_.out (h := ?_)
                  refine Sk.pu 36 88 spec_HouseOk.v37 HT_.out (h := ?_)
                  refine Sk.pu 37 89 spec_HouseOk.v38 HT_.out (h := ?_)
                  refine Sk.pu 38 90 spec_HouseOk.v39 HT_.out (h := ?_)
                  refine Sk.pq 39 91 spec_HouseOk.v40 HT_.out (h := ?_)
                  refine done_ (done_of HT_.out (by kernel_rfl)) ?_
                  try go_wp2
                  go_meet
                  case rel => exact ⟨_, (true), (by first | rfl | (simp; done) | (simp [*]; done)), H', ⟨by have := HJ1.out; have := HK2.out; first | omega | exact Nat.le_refl _⟩, ⟨by (with_reducible repeat (first | apply Kd.R_alloc | apply Kd.R_drewN | apply Kd.R_drew)); exact HO_3.out⟩, ⟨by (with_reducible repeat (first | refine blk_drewN ?_ _ | refine blk_drew ?_ | refine blk_alloc ?_ _)); exact BK107.out⟩, ⟨by (with_reducible repeat (first | refine blk_drewN ?_ _ | refine blk_drew ?_ | refine blk_alloc ?_ _)); exact BK113.out⟩, ⟨by repeat (first | (with_reducible first | exact HB.out | apply below_alloc | apply pw_below_drewN | apply below_drew1 | refine below_set ?_ GE107.out | refine below_set ?_ GE113.out) | exact HB.out)⟩⟩
               ·rw [if_neg c30] at H
                exact absurd H (by simp)
              ·rw [if_neg c29] at H
               exact absurd H (by simp)
             ·rw [if_neg c27] at H
              have c27b0 : decide (0 < x4_2) = false := decide_eq_false c27
              clear c27
              (first | rw [c27b0] | (simp only [i64_w, i32_w]; rw [c27b0]) | skip)
              replace H := Option.bind_eq_some_iff.mp H
              obtain ⟨t120, A410, H⟩ := H
              (try dsimp only at H)
              have A41 := Aside0.mk A410
              clear A410
              by_cases c42 : t120 = true
              ·subst c42
               rw [if_pos rfl] at H
               replace H := Option.bind_eq_some_iff.mp H
               obtain ⟨t121, A430, H⟩ := H
               (try dsimp only at H)
               have A43 := Aside0.mk A430
               clear A430
               have H' := Aside0.mk H
               clear H
               try go_wp2
               have n0_ : Aside0 (Kd.R (Kd.int .i64) 3 (((((((w21.setCell ⟨gb113, 0, none⟩ (.int .i64 ((rd_T119 l0_0 x4_2).f0))).setCell ⟨gb113, 1, none⟩ (.int .i64 ((rd_T119 l0_0 x4_2).f1))).setCell ⟨gb113, 2, none⟩ (.int .i64 ((rd_T119 l0_0 x4_2).f2))).setCell ⟨gb113, 3, none⟩ (.int .i64 ((rd_T119 l0_0 x4_2).f3))).setCell ⟨gb113, 4, none⟩ (.int .i64 ((rd_T119 l0_0 x4_2).f4))).setCell ⟨gb113, 5, none⟩ (.int .i64 ((rd_T119 l0_0 x4_2).f5))).setCell ⟨gb113, 6, none⟩ (.int .i64 ((rd_T119 l0_0 x4_2).f6))) w.heap.size (fun _ => True) v110 x3_2) := ⟨by (with_reducible repeat (first | apply Kd.R_alloc | apply Kd.R_drewN | apply Kd.R_drew)); exact Kd.R_mono (Kd.R_far (p := ⟨gb113, 6, none⟩) (Kd.R_far (p := ⟨gb113, 5, none⟩) (Kd.R_far (p := ⟨gb113, 4, none⟩) (Kd.R_far (p := ⟨gb113, 3, none⟩) (Kd.R_far (p := ⟨gb113, 2, none⟩) (Kd.R_far (p := ⟨gb113, 1, none⟩) (Kd.R_far (p := ⟨gb113, 0, none⟩) (Kd.R_types HO_3.out BK113.out (by decide)) (fun _ hk => hk.2) (.int .i64 ((rd_T119 l0_0 x4_2).f0))) (fun _ hk => hk.2) (.int .i64 ((rd_T119 l0_0 x4_2).f1))) (fun _ hk => hk.2) (.int .i64 ((rd_T119 l0_0 x4_2).f2))) (fun _ hk => hk.2) (.int .i64 ((rd_T119 l0_0 x4_2).f3))) (fun _ hk => hk.2) (.int .i64 ((rd_T119 l0_0 x4_2).f4))) (fun _ hk => hk.2) (.int .i64 ((rd_T119 l0_0 x4_2).f5))) (fun _ hk => hk.2) (.int .i64 ((rd_T119 l0_0 x4_2).f6))) (fun _ hk => trivial)⟩
               have n1_ : Aside0 ((((((((w21.setCell ⟨gb113, 0, none⟩ (.int .i64 ((rd_T119 l0_0 x4_2).f0))).setCell ⟨gb113, 1, none⟩ (.int .i64 ((rd_T119 l0_0 x4_2).f1))).setCell ⟨gb113, 2, none⟩ (.int .i64 ((rd_T119 l0_0 x4_2).f2))).setCell ⟨gb113, 3, none⟩ (.int .i64 ((rd_T119 l0_0 x4_2).f3))).setCell ⟨gb113, 4, none⟩ (.int .i64 ((rd_T119 l0_0 x4_2).f4))).setCell ⟨gb113, 5, none⟩ (.int .i64 ((rd_T119 l0_0 x4_2).f5))).setCell ⟨gb113, 6, none⟩ (.int .i64 ((rd_T119 l0_0 x4_2).f6))).heap[gb107]? = some (.cells #[.slice (some ad112) l0_0.length c0_0, .slice A0_1 l0_1.length c0_1, .int .i64 a0_2] 75 (0, 0))) := ⟨by (with_reducible repeat (first | refine blk_drewN ?_ _ | refine blk_drew ?_ | refine blk_alloc ?_ _)); refine blk_far ?_ NB107_113.out _; (with_reducible repeat (first | refine blk_drewN ?_ _ | refine blk_drew ?_ | refine blk_alloc ?_ _)); refine blk_far ?_ NB107_113.out _; (with_reducible repeat (first | refine blk_drewN ?_ _ | refine blk_drew ?_ | refine blk_alloc ?_ _)); refine blk_far ?_ NB107_113.out _; (with_reducible repeat (first | refine blk_drewN ?_ _ | refine blk_drew ?_ | refine blk_alloc ?_ _)); refine blk_far ?_ NB107_113.out _; (with_reducible repeat (first | refine blk_drewN ?_ _ | refine blk_drew ?_ | refine blk_alloc ?_ _)); refine blk_far ?_ NB107_113.out _; (with_reducible repeat (first | refine blk_drewN ?_ _ | refine blk_drew ?_ | refine blk_alloc ?_ _)); refine blk_far ?_ NB107_113.out _; (with_reducible repeat (first | refine blk_drewN ?_ _ | refine blk_drew ?_ | refine blk_alloc ?_ _)); refine blk_far ?_ NB107_113.out _; (with_reducible repeat (first | refine blk_drewN ?_ _ | refine blk_drew ?_ | refine blk_alloc ?_ _)); exact BK107.out⟩
               have n2_ : Aside0 ((((((((w21.setCell ⟨gb113, 0, none⟩ (.int .i64 ((rd_T119 l0_0 x4_2).f0))).setCell ⟨gb113, 1, none⟩ (.int .i64 ((rd_T119 l0_0 x4_2).f1))).setCell ⟨gb113, 2, none⟩ (.int .i64 ((rd_T119 l0_0 x4_2).f2))).setCell ⟨gb113, 3, none⟩ (.int .i64 ((rd_T119 l0_0 x4_2).f3))).setCell ⟨gb113, 4, none⟩ (.int .i64 ((rd_T119 l0_0 x4_2).f4))).setCell ⟨gb113, 5, none⟩ (.int .i64 ((rd_T119 l0_0 x4_2).f5))).setCell ⟨gb113, 6, none⟩ (.int .i64 ((rd_T119 l0_0 x4_2).f6))).heap[gb113]? = some (.cells #[.int .i64 ((rd_T119 l0_0 x4_2).f0), .int .i64 ((rd_T119 l0_0 x4_2).f1), .int .i64 ((rd_T119 l0_0 x4_2).f2), .int .i64 ((rd_T119 l0_0 x4_2).f3), .int .i64 ((rd_T119 l0_0 x4_2).f4), .int .i64 ((rd_T119 l0_0 x4_2).f5), .int .i64 ((rd_T119 l0_0 x4_2).f6)] 119 (0, 0))) := ⟨by (with_reducible repeat (first | refine blk_drewN ?_ _ | refine blk_drew ?_ | refine blk_alloc ?_ _)); refine blk_put (cs := #[.int .i64 ((rd_T119 l0_0 x4_2).f0), .int .i64 ((rd_T119 l0_0 x4_2).f1), .int .i64 ((rd_T119 l0_0 x4_2).f2), .int .i64 ((rd_T119 l0_0 x4_2).f3), .int .i64 ((rd_T119 l0_0 x4_2).f4), .int .i64 ((rd_T119 l0_0 x4_2).f5), .int .i64 0]) ?_ 6 _ rfl; (with_reducible repeat (first | refine blk_drewN ?_ _ | refine blk_drew ?_ | refine blk_alloc ?_ _)); refine blk_put (cs := #[.int .i64 ((rd_T119 l0_0 x4_2).f0), .int .i64 ((rd_T119 l0_0 x4_2).f1), .int .i64 ((rd_T119 l0_0 x4_2).f2), .int .i64 ((rd_T119 l0_0 x4_2).f3), .int .i64 ((rd_T119 l0_0 x4_2).f4), .int .i64 0, .int .i64 0]) ?_ 5 _ rfl; (with_reducible repeat (first | refine blk_drewN ?_ _ | refine blk_drew ?_ | refine blk_alloc ?_ _)); refine blk_put (cs := #[.int .i64 ((rd_T119 l0_0 x4_2).f0), .int .i64 ((rd_T119 l0_0 x4_2).f1), .int .i64 ((rd_T119 l0_0 x4_2).f2), .int .i64 ((rd_T119 l0_0 x4_2).f3), .int .i64 0, .int .i64 0, .int .i64 0]) ?_ 4 _ rfl; (with_reducible repeat (first | refine blk_drewN ?_ _ | refine blk_drew ?_ | refine blk_alloc ?_ _)); refine blk_put (cs := #[.int .i64 ((rd_T119 l0_0 x4_2).f0), .int .i64 ((rd_T119 l0_0 x4_2).f1), .int .i64 ((rd_T119 l0_0 x4_2).f2), .int .i64 0, .int .i64 0, .int .i64 0, .int .i64 0]) ?_ 3 _ rfl; (with_reducible repeat (first | refine blk_drewN ?_ _ | refine blk_drew ?_ | refine blk_alloc ?_ _)); refine blk_put (cs := #[.int .i64 ((rd_T119 l0_0 x4_2).f0), .int .i64 ((rd_T119 l0_0 x4_2).f1), .int .i64 0, .int .i64 0, .int .i64 0, .int .i64 0, .int .i64 0]) ?_ 2 _ rfl; (with_reducible repeat (first | refine blk_drewN ?_ _ | refine blk_drew ?_ | refine blk_alloc ?_ _)); refine blk_put (cs := #[.int .i64 ((rd_T119 l0_0 x4_2).f0), .int .i64 0, .int .i64 0, .int .i64 0, .int .i64 0, .int .i64 0, .int .i64 0]) ?_ 1 _ rfl; (with_reducible repeat (first | refine blk_drewN ?_ _ | refine blk_drew ?_ | refine blk_alloc ?_ _)); refine blk_put (cs := #[.int .i64 0, .int .i64 0, .int .i64 0, .int .i64 0, .int .i64 0, .int .i64 0, .int .i64 0]) ?_ 0 _ rfl; (with_reducible repeat (first | refine blk_drewN ?_ _ | refine blk_drew ?_ | refine blk_alloc ?_ _)); exact BK113.out⟩
               have n3_ : Aside0 (Below w.heap.size w (((((((w21.setCell ⟨gb113, 0, none⟩ (.int .i64 ((rd_T119 l0_0 x4_2).f0))).setCell ⟨gb113, 1, none⟩ (.int .i64 ((rd_T119 l0_0 x4_2).f1))).setCell ⟨gb113, 2, none⟩ (.int .i64 ((rd_T119 l0_0 x4_2).f2))).setCell ⟨gb113, 3, none⟩ (.int .i64 ((rd_T119 l0_0 x4_2).f3))).setCell ⟨gb113, 4, none⟩ (.int .i64 ((rd_T119 l0_0 x4_2).f4))).setCell ⟨gb113, 5, none⟩ (.int .i64 ((rd_T119 l0_0 x4_2).f5))).setCell ⟨gb113, 6, none⟩ (.int .i64 ((rd_T119 l0_0 x4_2).f6)))) := ⟨by repeat (first | (with_reducible first | exact HB.out | apply below_alloc | apply pw_below_drewN | apply below_drew1 | refine below_set ?_ GE107.out | refine below_set ?_ GE113.out) | exact HB.out)⟩
               (try clear HO_3)
               (try clear BK107)
               (try clear BK113)
               (try clear HB)
               generalize (((((((w21.setCell ⟨gb113, 0, none⟩ (.int .i64 ((rd_T119 l0_0 x4_2).f0))).setCell ⟨gb113, 1, none⟩ (.int .i64 ((rd_T119 l0_0 x4_2).f1))).setCell ⟨gb113, 2, none⟩ (.int .i64 ((rd_T119 l0_0 x4_2).f2))).setCell ⟨gb113, 3, none⟩ (.int .i64 ((rd_T119 l0_0 x4_2).f3))).setCell ⟨gb113, 4, none⟩ (.int .i64 ((rd_T119 l0_0 x4_2).f4))).setCell ⟨gb113, 5, none⟩ (.int .i64 ((rd_T119 l0_0 x4_2).f5))).setCell ⟨gb113, 6, none⟩ (.int .i64 ((rd_T119 l0_0 x4_2).f6))) = w44 at n0_ n1_ n2_ n3_ ⊢
               try replace n0_ := Aside0.mk (by first | exact Kd.R_drewN n0_.out nd | exact blk_drewN n0_.out nd | exact pw_below_drewN n0_.out nd)
               try replace n1_ := Aside0.mk (by first | exact Kd.R_drewN n1_.out nd | exact blk_drewN n1_.out nd | exact pw_below_drewN n1_.out nd)
               try replace n2_ := Aside0.mk (by first | exact Kd.R_drewN n2_.out nd | exact blk_drewN n2_.out nd | exact pw_below_drewN n2_.out nd)
               try replace n3_ := Aside0.mk (by first | exact Kd.R_drewN n3_.out nd | exact blk_drewN n3_.out nd | exact pw_below_drewN n3_.out nd)
               try generalize w44.drewN nd = w44 at n0_ n1_ n2_ n3_ ⊢
               have HO_3 := n0_
               have BK107 := n1_
               have BK113 := n2_
               have HB := n3_
               clear n0_ n1_ n2_ n3_
               have n0_ := Aside0.mk (Kd.R_drew HO_3.out)
               have n1_ := Aside0.mk (blk_drew BK107.out)
               have n2_ := Aside0.mk (blk_drew BK113.out)
               have n3_ := Aside0.mk (below_drew1 HB.out)
               clear HO_3
               clear BK107
               clear BK113
               clear HB
               have HO_3 := n0_
               have BK107 := n1_
               have BK113 := n2_
               have HB := n3_
               clear n0_ n1_ n2_ n3_
               refine start_ (n := 40) (S := fun w' => w'.cell? ⟨gb113, 0, none⟩ = some (.int .i64 ((rd_T119 l0_0 x4_2).f0)) ∧ w'.cell? ⟨gb113, 1, none⟩ = some (.int .i64 ((rd_T119 l0_0 x4_2).f1)) ∧ w'.cell? ⟨gb113, 2, none⟩ = some (.int .i64 ((rd_T119 l0_0 x4_2).f2)) ∧ w'.cell? ⟨gb113, 3, none⟩ = some (.int .i64 ((rd_T119 l0_0 x4_2).f3)) ∧ w'.cell? ⟨gb113, 4, none⟩ = some (.int .i64 ((rd_T119 l0_0 x4_2).f4)) ∧ w'.cell? ⟨gb113, 5, none⟩ = some (.int .i64 ((rd_T119 l0_0 x4_2).f5)) ∧ w'.cell? ⟨gb113, 6, none⟩ = some (.int .i64 ((rd_T119 l0_0 x4_2).f6)) ∧ w'.cell? ⟨gb107, 0, none⟩ = some (.slice (some ad112) l0_0.length c0_0) ∧ w'.cell? ⟨gb107, 1, none⟩ = some (.slice A0_1 l0_1.length c0_1) ∧ w'.cell? ⟨gb107, 2, none⟩ = some (.int .i64 a0_2)) (ds := []) spec_HouseOk.v0 (by kernel_rfl) rfl rfl ⟨(blk_cell BK113.out 0).trans rfl, (blk_cell BK113.out 1).trans rfl, (blk_cell BK113.out 2).trans rfl, (blk_cell BK113.out 3).trans rfl, (blk_cell BK113.out 4).trans rfl, (blk_cell BK113.out 5).trans rfl, (blk_cell BK113.out 6).trans rfl, (blk_cell BK107.out 0).trans rfl, (blk_cell BK107.out 1).trans rfl, (blk_cell BK107.out 2).trans rfl⟩ (fun hHeld => ?_); refine with_tabW spec_HouseOk.tab9 spec_HouseOk.bits9 (fun HT_ HW_ => ?_)
               generalize w44.drew = w45 at HO_3 BK107 BK113 HB hHeld ⊢
               refine Sk.pq 0 52 spec_HouseOk.v1 HT_.out (h := ?_)
               refine Sk.pq 1 53 spec_HouseOk.v2 HT_.out (h := ?_)
               refine Sk.pq 2 54 spec_HouseOk.v3 HT_.out (h := ?_)
               refine Sk.pq 3 55 spec_HouseOk.v4 HT_.out (h := ?_)
               refine Sk.tk10 4 56 spec_HouseOk.v5 HT_.out HW_.out hHeld (h := ?_)
               refine one_ (i := 5) (N := some 57) spec_HouseOk.v6 rfl rfl (one_of HT_.out (by kernel_rfl)) (by decide) (fun K hK => ?_)
               refine goes_ Try.func51 (by kernel_rfl) rfl #[.int .i64 ((rd_T119 l0_0 x4_2).f0), .int .i64 1, .int .i64 1000000] (by rfl) rfl rfl (by (try simp only [List.map_toArray, List.map_cons, List.map_nil]); first | done | rfl | (simp only [List.length_drop, List.length_take]; rfl)) ?_
               with_reducible refine (spec_l1In.calls ((rd_T119 l0_0 x4_2).f0) 1 1000000 true _ A25.out).mono ?_
               rintro e w' ⟨rfl, ⟨nd, rfl⟩⟩
               refine ⟨_, rfl, ?_⟩
               refine hK.out _ _ ⟨(blk_cell BK113.out 0).trans rfl, (blk_cell BK113.out 1).trans rfl, (blk_cell BK113.out 2).trans rfl, (blk_cell BK113.out 3).trans rfl, (blk_cell BK113.out 4).trans rfl, (blk_cell BK113.out 5).trans rfl, (blk_cell BK113.out 6).trans rfl, (blk_cell BK107.out 0).trans rfl, (blk_cell BK107.out 1).trans rfl, (blk_cell BK107.out 2).trans rfl⟩ (fun hHeld => ?_)
               clear hK K
               refine Sk.nm 57 (h := ?_)
               refine Sk.pq 6 58 spec_HouseOk.v7 HT_.out (h := ?_)
               refine Sk.pq 7 59 spec_HouseOk.v8 HT_.out (h := ?_)
               refine Sk.pq 8 60 spec_HouseOk.v9 HT_.out (h := ?_)
               refine Sk.pq 9 61 spec_HouseOk.v10 HT_.out (h := ?_)
               refine Sk.pq 10 62 spec_HouseOk.v11 HT_.out (h := ?_)
               refine Sk.pq 11 63 spec_HouseOk.v12 HT_.out (h := ?_)
               refine Sk.pu 12 64 spec_HouseOk.v13 HT_.out (h := ?_)
               refine Sk.pu 13 65 spec_HouseOk.v42 HT_.out (h := ?_)
               refine Sk.pu 14 66 spec_HouseOk.v43 HT_.out (h := ?_)
               refine Sk.pu 15 67 spec_HouseOk.v44 HT_.out (h := ?_)
               refine Sk.pu 16 68 spec_HouseOk.v45 HT_.out (h := ?_)
               refine Sk.pu 17 69 spec_HouseOk.v46 HT_.out (h := ?_)
               refine Sk.pu 18 70 spec_HouseOk.v47 HT_.out (h := ?_)
               refine Sk.pu 19 71 spec_HouseOk.v20 HT_.out (h := ?_)
               refine Sk.pu 20 72 spec_HouseOk.v21 HT_.out (h := ?_)
               refine Sk.pu 21 73 spec_HouseOk.v22 HT_.out (h := ?_)
               refine Sk.pq 22 74 spec_HouseOk.v23 HT_.out (h := ?_)
               refine Sk.pq 23 75 spec_HouseOk.v24 HT_.out (h := ?_)
               refine Sk.pq 24 76 spec_HouseOk.v25 HT_.out (h := ?_)
               refine Sk.pq 25 77 spec_HouseOk.v26 HT_.out (h := ?_)
               refine Sk.pq 27 79 spec_HouseOk.v41 HT_.out (h := ?_)
               refine Sk.tk10 26 78 spec_HouseOk.v28 HT_.out HW_.out hHeld (h := ?_)
               refine Sk.tk10 28 80 spec_HouseOk.v29 HT_.out HW_.out hHeld (h := ?_)
               refine Sk.pq 29 81 spec_HouseOk.v30 HT_.out (h := ?_)
               refine Sk.pq 30 82 spec_HouseOk.v31 HT_.out (h := ?_)
               refine one_ (i := 31) (N := some 83) spec_HouseOk.v32 rfl rfl (one_of HT_.out (by kernel_rfl)) (by decide) (fun K hK => ?_)
               refine goes_ Try.func51 (by kernel_rfl) rfl #[.int .i64 ((rd_T119 l0_0 x4_2).f1), .int .i64 0, .int .i64 (wrap64 ((l0_1.length : Int) - 1))] (by rfl) rfl rfl (by (try simp only [List.map_toArray, List.map_cons, List.map_nil]); first | done | rfl | (simp only [List.length_drop, List.length_take]; rfl)) ?_
               with_reducible refine (spec_l1In.calls ((rd_T119 l0_0 x4_2).f1) 0 (wrap64 ((l0_1.length : Int) - 1)) true _ A41.out).mono ?_
               rintro e w' ⟨rfl, ⟨nd, rfl⟩⟩
               refine ⟨_, rfl, ?_⟩
               refine hK.out _ _ ⟨(blk_cell BK113.out 0).trans rfl, (blk_cell BK113.out 1).trans rfl, (blk_cell BK113.out 2).trans rfl, (blk_cell BK113.out 3).trans rfl, (blk_cell BK113.out 4).trans rfl, (blk_cell BK113.out 5).trans rfl, (blk_cell BK113.out 6).trans rfl, (blk_cell BK107.out 0).trans rfl, (blk_cell BK107.out 1).trans rfl, (blk_cell BK107.out 2).trans rfl⟩ (fun hHeld => ?_)
               clear hK K
               refine Sk.nm 83 (h := ?_)
               refine Sk.pq 32 84 spec_HouseOk.v33 HT_.out (h := ?_)
               refine Sk.pq 33 85 spec_HouseOk.v34 HT_.out (h := ?_)
               refine Sk.pq 34 86 spec_HouseOk.v35 HT_.out (h := ?_)
               refine Sk.pq 35 87 spec_HouseOk.v36 HT_.out (h := ?_)
               refine Sk.tk10 36 88 spec_HouseOk.v37 HT_.out HW_.out hHeld (h := ?_)
               refine one_ (i := 37) (N := some 89) spec_HouseOk.v38 rfl rfl (one_of HT_.out (by kernel_rfl)) (by decide) (fun K hK => ?_)
               refine goes_ Try.func51 (by kernel_rfl) rfl #[.int .i64 ((rd_T119 l0_0 x4_2).f5), .int .i64 1, .int .i64 5] (by rfl) rfl rfl (by (try simp only [List.map_toArray, List.map_cons, List.map_nil]); first | done | rfl | (simp only [List.length_drop, List.length_take]; rfl)) ?_
               with_reducible refine (spec_l1In.calls ((rd_T119 l0_0 x4_2).f5) 1 5 t121 _ A43.out).mono ?_
               rintro e w' ⟨rfl, ⟨nd, rfl⟩⟩
               refine ⟨_, rfl, ?_⟩
               refine hK.out _ _ ⟨(blk_cell BK113.out 0).trans rfl, (blk_cell BK113.out 1).trans rfl, (blk_cell BK113.out 2).trans rfl, (blk_cell BK113.out 3).trans rfl, (blk_cell BK113.out 4).trans rfl, (blk_cell BK113.out 5).trans rfl, (blk_cell BK113.out 6).trans rfl, (blk_cell BK107.out 0).trans rfl, (blk_cell BK107.out 1).trans rfl, (blk_cell BK107.out 2).trans rfl⟩ (fun hHeld => ?_)
               clear hK K
               refine Sk.nm 89 (h := ?_)
               refine Sk.pq 38 90 spec_HouseOk.v39 HT_.out (h := ?_)
               refine Sk.pq 39 91 spec_HouseOk.v40 HT_.out (h := ?_)
               refine done_ (done_of HT_.out (by kernel_rfl)) ?_
               try go_wp2
               go_meet
               case rel => exact ⟨_, (!t121), (by first | rfl | (simp; done) | (simp [*]; done)), H', ⟨by have := HJ1.out; have := HK2.out; first | omega | exact Nat.le_refl _⟩, ⟨by (with_reducible repeat (first | apply Kd.R_alloc | apply Kd.R_drewN | apply Kd.R_drew)); exact HO_3.out⟩, ⟨by (with_reducible repeat (first | refine blk_drewN ?_ _ | refine blk_drew ?_ | refine blk_alloc ?_ _)); exact BK107.out⟩, ⟨by (with_reducible repeat (first | refine blk_drewN ?_ _ | refine blk_drew ?_ | refine blk_alloc ?_ _)); exact BK113.out⟩, ⟨by repeat (first | (with_reducible first | exact HB.out | apply below_alloc | apply pw_below_drewN | apply below_drew1 | refine below_set ?_ GE107.out | refine below_set ?_ GE113.out) | exact HB.out)⟩⟩
              ·replace c42 := Bool.eq_false_iff.mpr c42
               subst c42
               rw [if_neg (show ¬ (false = true) by decide)] at H
               have H' := Aside0.mk H
               clear H
               try go_wp2
               have n0_ : Aside0 (Kd.R (Kd.int .i64) 3 (((((((w21.setCell ⟨gb113, 0, none⟩ (.int .i64 ((rd_T119 l0_0 x4_2).f0))).setCell ⟨gb113, 1, none⟩ (.int .i64 ((rd_T119 l0_0 x4_2).f1))).setCell ⟨gb113, 2, none⟩ (.int .i64 ((rd_T119 l0_0 x4_2).f2))).setCell ⟨gb113, 3, none⟩ (.int .i64 ((rd_T119 l0_0 x4_2).f3))).setCell ⟨gb113, 4, none⟩ (.int .i64 ((rd_T119 l0_0 x4_2).f4))).setCell ⟨gb113, 5, none⟩ (.int .i64 ((rd_T119 l0_0 x4_2).f5))).setCell ⟨gb113, 6, none⟩ (.int .i64 ((rd_T119 l0_0 x4_2).f6))) w.heap.size (fun _ => True) v110 x3_2) := ⟨by (with_reducible repeat (first | apply Kd.R_alloc | apply Kd.R_drewN | apply Kd.R_drew)); exact Kd.R_mono (Kd.R_far (p := ⟨gb113, 6, none⟩) (Kd.R_far (p := ⟨gb113, 5, none⟩) (Kd.R_far (p := ⟨gb113, 4, none⟩) (Kd.R_far (p := ⟨gb113, 3, none⟩) (Kd.R_far (p := ⟨gb113, 2, none⟩) (Kd.R_far (p := ⟨gb113, 1, none⟩) (Kd.R_far (p := ⟨gb113, 0, none⟩) (Kd.R_types HO_3.out BK113.out (by decide)) (fun _ hk => hk.2) (.int .i64 ((rd_T119 l0_0 x4_2).f0))) (fun _ hk => hk.2) (.int .i64 ((rd_T119 l0_0 x4_2).f1))) (fun _ hk => hk.2) (.int .i64 ((rd_T119 l0_0 x4_2).f2))) (fun _ hk => hk.2) (.int .i64 ((rd_T119 l0_0 x4_2).f3))) (fun _ hk => hk.2) (.int .i64 ((rd_T119 l0_0 x4_2).f4))) (fun _ hk => hk.2) (.int .i64 ((rd_T119 l0_0 x4_2).f5))) (fun _ hk => hk.2) (.int .i64 ((rd_T119 l0_0 x4_2).f6))) (fun _ hk => trivial)⟩
               have n1_ : Aside0 ((((((((w21.setCell ⟨gb113, 0, none⟩ (.int .i64 ((rd_T119 l0_0 x4_2).f0))).setCell ⟨gb113, 1, none⟩ (.int .i64 ((rd_T119 l0_0 x4_2).f1))).setCell ⟨gb113, 2, none⟩ (.int .i64 ((rd_T119 l0_0 x4_2).f2))).setCell ⟨gb113, 3, none⟩ (.int .i64 ((rd_T119 l0_0 x4_2).f3))).setCell ⟨gb113, 4, none⟩ (.int .i64 ((rd_T119 l0_0 x4_2).f4))).setCell ⟨gb113, 5, none⟩ (.int .i64 ((rd_T119 l0_0 x4_2).f5))).setCell ⟨gb113, 6, none⟩ (.int .i64 ((rd_T119 l0_0 x4_2).f6))).heap[gb107]? = some (.cells #[.slice (some ad112) l0_0.length c0_0, .slice A0_1 l0_1.length c0_1, .int .i64 a0_2] 75 (0, 0))) := ⟨by (with_reducible repeat (first | refine blk_drewN ?_ _ | refine blk_drew ?_ | refine blk_alloc ?_ _)); refine blk_far ?_ NB107_113.out _; (with_reducible repeat (first | refine blk_drewN ?_ _ | refine blk_drew ?_ | refine blk_alloc ?_ _)); refine blk_far ?_ NB107_113.out _; (with_reducible repeat (first | refine blk_drewN ?_ _ | refine blk_drew ?_ | refine blk_alloc ?_ _)); refine blk_far ?_ NB107_113.out _; (with_reducible repeat (first | refine blk_drewN ?_ _ | refine blk_drew ?_ | refine blk_alloc ?_ _)); refine blk_far ?_ NB107_113.out _; (with_reducible repeat (first | refine blk_drewN ?_ _ | refine blk_drew ?_ | refine blk_alloc ?_ _)); refine blk_far ?_ NB107_113.out _; (with_reducible repeat (first | refine blk_drewN ?_ _ | refine blk_drew ?_ | refine blk_alloc ?_ _)); refine blk_far ?_ NB107_113.out _; (with_reducible repeat (first | refine blk_drewN ?_ _ | refine blk_drew ?_ | refine blk_alloc ?_ _)); refine blk_far ?_ NB107_113.out _; (with_reducible repeat (first | refine blk_drewN ?_ _ | refine blk_drew ?_ | refine blk_alloc ?_ _)); exact BK107.out⟩
               have n2_ : Aside0 ((((((((w21.setCell ⟨gb113, 0, none⟩ (.int .i64 ((rd_T119 l0_0 x4_2).f0))).setCell ⟨gb113, 1, none⟩ (.int .i64 ((rd_T119 l0_0 x4_2).f1))).setCell ⟨gb113, 2, none⟩ (.int .i64 ((rd_T119 l0_0 x4_2).f2))).setCell ⟨gb113, 3, none⟩ (.int .i64 ((rd_T119 l0_0 x4_2).f3))).setCell ⟨gb113, 4, none⟩ (.int .i64 ((rd_T119 l0_0 x4_2).f4))).setCell ⟨gb113, 5, none⟩ (.int .i64 ((rd_T119 l0_0 x4_2).f5))).setCell ⟨gb113, 6, none⟩ (.int .i64 ((rd_T119 l0_0 x4_2).f6))).heap[gb113]? = some (.cells #[.int .i64 ((rd_T119 l0_0 x4_2).f0), .int .i64 ((rd_T119 l0_0 x4_2).f1), .int .i64 ((rd_T119 l0_0 x4_2).f2), .int .i64 ((rd_T119 l0_0 x4_2).f3), .int .i64 ((rd_T119 l0_0 x4_2).f4), .int .i64 ((rd_T119 l0_0 x4_2).f5), .int .i64 ((rd_T119 l0_0 x4_2).f6)] 119 (0, 0))) := ⟨by (with_reducible repeat (first | refine blk_drewN ?_ _ | refine blk_drew ?_ | refine blk_alloc ?_ _)); refine blk_put (cs := #[.int .i64 ((rd_T119 l0_0 x4_2).f0), .int .i64 ((rd_T119 l0_0 x4_2).f1), .int .i64 ((rd_T119 l0_0 x4_2).f2), .int .i64 ((rd_T119 l0_0 x4_2).f3), .int .i64 ((rd_T119 l0_0 x4_2).f4), .int .i64 ((rd_T119 l0_0 x4_2).f5), .int .i64 0]) ?_ 6 _ rfl; (with_reducible repeat (first | refine blk_drewN ?_ _ | refine blk_drew ?_ | refine blk_alloc ?_ _)); refine blk_put (cs := #[.int .i64 ((rd_T119 l0_0 x4_2).f0), .int .i64 ((rd_T119 l0_0 x4_2).f1), .int .i64 ((rd_T119 l0_0 x4_2).f2), .int .i64 ((rd_T119 l0_0 x4_2).f3), .int .i64 ((rd_T119 l0_0 x4_2).f4), .int .i64 0, .int .i64 0]) ?_ 5 _ rfl; (with_reducible repeat (first | refine blk_drewN ?_ _ | refine blk_drew ?_ | refine blk_alloc ?_ _)); refine blk_put (cs := #[.int .i64 ((rd_T119 l0_0 x4_2).f0), .int .i64 ((rd_T119 l0_0 x4_2).f1), .int .i64 ((rd_T119 l0_0 x4_2).f2), .int .i64 ((rd_T119 l0_0 x4_2).f3), .int .i64 0, .int .i64 0, .int .i64 0]) ?_ 4 _ rfl; (with_reducible repeat (first | refine blk_drewN ?_ _ | refine blk_drew ?_ | refine blk_alloc ?_ _)); refine blk_put (cs := #[.int .i64 ((rd_T119 l0_0 x4_2).f0), .int .i64 ((rd_T119 l0_0 x4_2).f1), .int .i64 ((rd_T119 l0_0 x4_2).f2), .int .i64 0, .int .i64 0, .int .i64 0, .int .i64 0]) ?_ 3 _ rfl; (with_reducible repeat (first | refine blk_drewN ?_ _ | refine blk_drew ?_ | refine blk_alloc ?_ _)); refine blk_put (cs := #[.int .i64 ((rd_T119 l0_0 x4_2).f0), .int .i64 ((rd_T119 l0_0 x4_2).f1), .int .i64 0, .int .i64 0, .int .i64 0, .int .i64 0, .int .i64 0]) ?_ 2 _ rfl; (with_reducible repeat (first | refine blk_drewN ?_ _ | refine blk_drew ?_ | refine blk_alloc ?_ _)); refine blk_put (cs := #[.int .i64 ((rd_T119 l0_0 x4_2).f0), .int .i64 0, .int .i64 0, .int .i64 0, .int .i64 0, .int .i64 0, .int .i64 0]) ?_ 1 _ rfl; (with_reducible repeat (first | refine blk_drewN ?_ _ | refine blk_drew ?_ | refine blk_alloc ?_ _)); refine blk_put (cs := #[.int .i64 0, .int .i64 0, .int .i64 0, .int .i64 0, .int .i64 0, .int .i64 0, .int .i64 0]) ?_ 0 _ rfl; (with_reducible repeat (first | refine blk_drewN ?_ _ | refine blk_drew ?_ | refine blk_alloc ?_ _)); exact BK113.out⟩
               have n3_ : Aside0 (Below w.heap.size w (((((((w21.setCell ⟨gb113, 0, none⟩ (.int .i64 ((rd_T119 l0_0 x4_2).f0))).setCell ⟨gb113, 1, none⟩ (.int .i64 ((rd_T119 l0_0 x4_2).f1))).setCell ⟨gb113, 2, none⟩ (.int .i64 ((rd_T119 l0_0 x4_2).f2))).setCell ⟨gb113, 3, none⟩ (.int .i64 ((rd_T119 l0_0 x4_2).f3))).setCell ⟨gb113, 4, none⟩ (.int .i64 ((rd_T119 l0_0 x4_2).f4))).setCell ⟨gb113, 5, none⟩ (.int .i64 ((rd_T119 l0_0 x4_2).f5))).setCell ⟨gb113, 6, none⟩ (.int .i64 ((rd_T119 l0_0 x4_2).f6)))) := ⟨by repeat (first | (with_reducible first | exact HB.out | apply below_alloc | apply pw_below_drewN | apply below_drew1 | refine below_set ?_ GE107.out | refine below_set ?_ GE113.out) | exact HB.out)⟩
               (try clear HO_3)
               (try clear BK107)
               (try clear BK113)
               (try clear HB)
               generalize (((((((w21.setCell ⟨gb113, 0, none⟩ (.int .i64 ((rd_T119 l0_0 x4_2).f0))).setCell ⟨gb113, 1, none⟩ (.int .i64 ((rd_T119 l0_0 x4_2).f1))).setCell ⟨gb113, 2, none⟩ (.int .i64 ((rd_T119 l0_0 x4_2).f2))).setCell ⟨gb113, 3, none⟩ (.int .i64 ((rd_T119 l0_0 x4_2).f3))).setCell ⟨gb113, 4, none⟩ (.int .i64 ((rd_T119 l0_0 x4_2).f4))).setCell ⟨gb113, 5, none⟩ (.int .i64 ((rd_T119 l0_0 x4_2).f5))).setCell ⟨gb113, 6, none⟩ (.int .i64 ((rd_T119 l0_0 x4_2).f6))) = w46 at n0_ n1_ n2_ n3_ ⊢
               try replace n0_ := Aside0.mk (by first | exact Kd.R_drewN n0_.out nd | exact blk_drewN n0_.out nd | exact pw_below_drewN n0_.out nd)
               try replace n1_ := Aside0.mk (by first | exact Kd.R_drewN n1_.out nd | exact blk_drewN n1_.out nd | exact pw_below_drewN n1_.out nd)
               try replace n2_ := Aside0.mk (by first | exact Kd.R_drewN n2_.out nd | exact blk_drewN n2_.out nd | exact pw_below_drewN n2_.out nd)
               try replace n3_ := Aside0.mk (by first | exact Kd.R_drewN n3_.out nd | exact blk_drewN n3_.out nd | exact pw_below_drewN n3_.out nd)
               try generalize w46.drewN nd = w46 at n0_ n1_ n2_ n3_ ⊢
               have HO_3 := n0_
               have BK107 := n1_
               have BK113 := n2_
               have HB := n3_
               clear n0_ n1_ n2_ n3_
               have n0_ := Aside0.mk (Kd.R_drew HO_3.out)
               have n1_ := Aside0.mk (blk_drew BK107.out)
               have n2_ := Aside0.mk (blk_drew BK113.out)
               have n3_ := Aside0.mk (below_drew1 HB.out)
               clear HO_3
               clear BK107
               clear BK113
               clear HB
               have HO_3 := n0_
               have BK107 := n1_
               have BK113 := n2_
               have HB := n3_
               clear n0_ n1_ n2_ n3_
               refine start_ (n := 40) (S := fun w' => w'.cell? ⟨gb113, 0, none⟩ = some (.int .i64 ((rd_T119 l0_0 x4_2).f0)) ∧ w'.cell? ⟨gb113, 1, none⟩ = some (.int .i64 ((rd_T119 l0_0 x4_2).f1)) ∧ w'.cell? ⟨gb113, 2, none⟩ = some (.int .i64 ((rd_T119 l0_0 x4_2).f2)) ∧ w'.cell? ⟨gb113, 3, none⟩ = some (.int .i64 ((rd_T119 l0_0 x4_2).f3)) ∧ w'.cell? ⟨gb113, 4, none⟩ = some (.int .i64 ((rd_T119 l0_0 x4_2).f4)) ∧ w'.cell? ⟨gb113, 5, none⟩ = some (.int .i64 ((rd_T119 l0_0 x4_2).f5)) ∧ w'.cell? ⟨gb113, 6, none⟩ = some (.int .i64 ((rd_T119 l0_0 x4_2).f6)) ∧ w'.cell? ⟨gb107, 0, none⟩ = some (.slice (some ad112) l0_0.length c0_0) ∧ w'.cell? ⟨gb107, 1, none⟩ = some (.slice A0_1 l0_1.length c0_1) ∧ w'.cell? ⟨gb107, 2, none⟩ = some (.int .i64 a0_2)) (ds := []) spec_HouseOk.v0 (by kernel_rfl) rfl rfl ⟨(blk_cell BK113.out 0).trans rfl, (blk_cell BK113.out 1).trans rfl, (blk_cell BK113.out 2).trans rfl, (blk_cell BK113.out 3).trans rfl, (blk_cell BK113.out 4).trans rfl, (blk_cell BK113.out 5).trans rfl, (blk_cell BK113.out 6).trans rfl, (blk_cell BK107.out 0).trans rfl, (blk_cell BK107.out 1).trans rfl, (blk_cell BK107.out 2).trans rfl⟩ (fun hHeld => ?_); refine with_tabW spec_HouseOk.tab9 spec_HouseOk.bits9 (fun HT_ HW_ => ?_)
               generalize w46.drew = w47 at HO_3 BK107 BK113 HB hHeld ⊢
               refine Sk.pq 0 52 spec_HouseOk.v1 HT_.out (h := ?_)
               refine Sk.pq 1 53 spec_HouseOk.v2 HT_.out (h := ?_)
               refine Sk.pq 2 54 spec_HouseOk.v3 HT_.out (h := ?_)
               refine Sk.pq 3 55 spec_HouseOk.v4 HT_.out (h := ?_)
               refine Sk.tk10 4 56 spec_HouseOk.v5 HT_.out HW_.out hHeld (h := ?_)
               refine one_ (i := 5) (N := some 57) spec_HouseOk.v6 rfl rfl (one_of HT_.out (by kernel_rfl)) (by decide) (fun K hK => ?_)
               refine goes_ Try.func51 (by kernel_rfl) rfl #[.int .i64 ((rd_T119 l0_0 x4_2).f0), .int .i64 1, .int .i64 1000000] (by rfl) rfl rfl (by (try simp only [List.map_toArray, List.map_cons, List.map_nil]); first | done | rfl | (simp only [List.length_drop, List.length_take]; rfl)) ?_
               with_reducible refine (spec_l1In.calls ((rd_T119 l0_0 x4_2).f0) 1 1000000 true _ A25.out).mono ?_
               rintro e w' ⟨rfl, ⟨nd, rfl⟩⟩
               refine ⟨_, rfl, ?_⟩
               refine hK.out _ _ ⟨(blk_cell BK113.out 0).trans rfl, (blk_cell BK113.out 1).trans rfl, (blk_cell BK113.out 2).trans rfl, (blk_cell BK113.out 3).trans rfl, (blk_cell BK113.out 4).trans rfl, (blk_cell BK113.out 5).trans rfl, (blk_cell BK113.out 6).trans rfl, (blk_cell BK107.out 0).trans rfl, (blk_cell BK107.out 1).trans rfl, (blk_cell BK107.out 2).trans rfl⟩ (fun hHeld => ?_)
               clear hK K
               refine Sk.nm 57 (h := ?_)
               refine Sk.pq 6 58 spec_HouseOk.v7 HT_.out (h := ?_)
               refine Sk.pq 7 59 spec_HouseOk.v8 HT_.out (h := ?_)
               refine Sk.pq 8 60 spec_HouseOk.v9 HT_.out (h := ?_)
               refine Sk.pq 9 61 spec_HouseOk.v10 HT_.out (h := ?_)
               refine Sk.pq 10 62 spec_HouseOk.v11 HT_.out (h := ?_)
               refine Sk.pq 11 63 spec_HouseOk.v12 HT_.out (h := ?_)
               refine Sk.pu 12 64 spec_HouseOk.v13 HT_.out (h := ?_)
               refine Sk.pu 13 65 spec_HouseOk.v42 HT_.out (h := ?_)
               refine Sk.pu 14 66 spec_HouseOk.v43 HT_.out (h := ?_)
               refine Sk.pu 15 67 spec_HouseOk.v44 HT_.out (h := ?_)
               refine Sk.pu 16 68 spec_HouseOk.v45 HT_.out (h := ?_)
               refine Sk.pu 17 69 spec_HouseOk.v46 HT_.out (h := ?_)
               refine Sk.pu 18 70 spec_HouseOk.v47 HT_.out (h := ?_)
               refine Sk.pu 19 71 spec_HouseOk.v20 HT_.out (h := ?_)
               refine Sk.pu 20 72 spec_HouseOk.v21 HT_.out (h := ?_)
               refine Sk.pu 21 73 spec_HouseOk.v22 HT_.out (h := ?_)
               refine Sk.pq 22 74 spec_HouseOk.v23 HT_.out (h := ?_)
               refine Sk.pq 23 75 spec_HouseOk.v24 HT_.out (h := ?_)
               refine Sk.pq 24 76 spec_HouseOk.v25 HT_.out (h := ?_)
               refine Sk.pq 25 77 spec_HouseOk.v26 HT_.out (h := ?_)
               refine Sk.pq 27 79 spec_HouseOk.v41 HT_.out (h := ?_)
               refine Sk.tk10 26 78 spec_HouseOk.v28 HT_.out HW_.out hHeld (h := ?_)
               refine Sk.tk10 28 80 spec_HouseOk.v29 HT_.out HW_.out hHeld (h := ?_)
               refine Sk.pq 29 81 spec_HouseOk.v30 HT_.out (h := ?_)
               refine Sk.pq 30 82 spec_HouseOk.v31 HT_.out (h := ?_)
               refine one_ (i := 31) (N := some 83) spec_HouseOk.v32 rfl rfl (one_of HT_.out (by kernel_rfl)) (by decide) (fun K hK => ?_)
               refine goes_ Try.func51 (by kernel_rfl) rfl #[.int .i64 ((rd_T119 l0_0 x4_2).f1), .int .i64 0, .int .i64 (wrap64 ((l0_1.length : Int) - 1))] (by rfl) rfl rfl (by (try simp only [List.map_toArray, List.map_cons, List.map_nil]); first | done | rfl | (simp only [List.length_drop, List.length_take]; rfl)) ?_
               with_reducible refine (spec_l1In.calls ((rd_T119 l0_0 x4_2).f1) 0 (wrap64 ((l0_1.length : Int) - 1)) false _ A41.out).mono ?_
               rintro e w' ⟨rfl, ⟨nd, rfl⟩⟩
               refine ⟨_, rfl, ?_⟩
               refine hK.out _ _ ⟨(blk_cell BK113.out 0).trans rfl, (blk_cell BK113.out 1).trans rfl, (blk_cell BK113.out 2).trans rfl, (blk_cell BK113.out 3).trans rfl, (blk_cell BK113.out 4).trans rfl, (blk_cell BK113.out 5).trans rfl, (blk_cell BK113.out 6).trans rfl, (blk_cell BK107.out 0).trans rfl, (blk_cell BK107.out 1).trans rfl, (blk_cell BK107.out 2).trans rfl⟩ (fun hHeld => ?_)
               clear hK K
               refine Sk.nm 83 (h := ?_)
               refine Sk.pq 32 84 spec_HouseOk.v33 HT_.out (h := ?_)
               refine Sk.pq 33 85 spec_HouseOk.v34 HT_.out (h := ?_)
               refine Sk.pq 34 86 spec_HouseOk.v35 HT_.out (h := ?_)
               refine Sk.pu 35 87 spec_HouseOk.v36 HT_.out (h := ?_)
               refine Sk.pu 36 88 spec_HouseOk.v37 HT_.out (h := ?_)
               refine Sk.pu 37 89 spec_HouseOk.v38 HT_.out (h := ?_)
               refine Sk.pu 38 90 spec_HouseOk.v39 HT_.out (h := ?_)
               refine Sk.pq 39 91 spec_HouseOk.v40 HT_.out (h := ?_)
               refine done_ (done_of HT_.out (by kernel_rfl)) ?_
               try go_wp2
               go_meet
               case rel => exact ⟨_, (true), (by first | rfl | (simp; done) | (simp [*]; done)), H', ⟨by have := HJ1.out; have := HK2.out; first | omega | exact Nat.le_refl _⟩, ⟨by (with_reducible repeat (first | apply Kd.R_alloc | apply Kd.R_drewN | apply Kd.R_drew)); exact HO_3.out⟩, ⟨by (with_reducible repeat (first | refine blk_drewN ?_ _ | refine blk_drew ?_ | refine blk_alloc ?_ _)); exact BK107.out⟩, ⟨by (with_reducible repeat (first | refine blk_drewN ?_ _ | refine blk_drew ?_ | refine blk_alloc ?_ _)); exact BK113.out⟩, ⟨by repeat (first | (with_reducible first | exact HB.out | apply below_alloc | apply pw_below_drewN | apply below_drew1 | refine below_set ?_ GE107.out | refine below_set ?_ GE113.out) | exact HB.out)⟩⟩
            ·replace c26 := Bool.eq_false_iff.mpr c26
             subst c26
             rw [if_neg (show ¬ (false = true) by decide)] at H
             have H' := Aside0.mk H
             clear H
             try go_wp2
             have n0_ : Aside0 (Kd.R (Kd.int .i64) 3 (((((((w21.setCell ⟨gb113, 0, none⟩ (.int .i64 ((rd_T119 l0_0 x4_2).f0))).setCell ⟨gb113, 1, none⟩ (.int .i64 ((rd_T119 l0_0 x4_2).f1))).setCell ⟨gb113, 2, none⟩ (.int .i64 ((rd_T119 l0_0 x4_2).f2))).setCell ⟨gb113, 3, none⟩ (.int .i64 ((rd_T119 l0_0 x4_2).f3))).setCell ⟨gb113, 4, none⟩ (.int .i64 ((rd_T119 l0_0 x4_2).f4))).setCell ⟨gb113, 5, none⟩ (.int .i64 ((rd_T119 l0_0 x4_2).f5))).setCell ⟨gb113, 6, none⟩ (.int .i64 ((rd_T119 l0_0 x4_2).f6))) w.heap.size (fun _ => True) v110 x3_2) := ⟨by (with_reducible repeat (first | apply Kd.R_alloc | apply Kd.R_drewN | apply Kd.R_drew)); exact Kd.R_mono (Kd.R_far (p := ⟨gb113, 6, none⟩) (Kd.R_far (p := ⟨gb113, 5, none⟩) (Kd.R_far (p := ⟨gb113, 4, none⟩) (Kd.R_far (p := ⟨gb113, 3, none⟩) (Kd.R_far (p := ⟨gb113, 2, none⟩) (Kd.R_far (p := ⟨gb113, 1, none⟩) (Kd.R_far (p := ⟨gb113, 0, none⟩) (Kd.R_types HO_3.out BK113.out (by decide)) (fun _ hk => hk.2) (.int .i64 ((rd_T119 l0_0 x4_2).f0))) (fun _ hk => hk.2) (.int .i64 ((rd_T119 l0_0 x4_2).f1))) (fun _ hk => hk.2) (.int .i64 ((rd_T119 l0_0 x4_2).f2))) (fun _ hk => hk.2) (.int .i64 ((rd_T119 l0_0 x4_2).f3))) (fun _ hk => hk.2) (.int .i64 ((rd_T119 l0_0 x4_2).f4))) (fun _ hk => hk.2) (.int .i64 ((rd_T119 l0_0 x4_2).f5))) (fun _ hk => hk.2) (.int .i64 ((rd_T119 l0_0 x4_2).f6))) (fun _ hk => trivial)⟩
             have n1_ : Aside0 ((((((((w21.setCell ⟨gb113, 0, none⟩ (.int .i64 ((rd_T119 l0_0 x4_2).f0))).setCell ⟨gb113, 1, none⟩ (.int .i64 ((rd_T119 l0_0 x4_2).f1))).setCell ⟨gb113, 2, none⟩ (.int .i64 ((rd_T119 l0_0 x4_2).f2))).setCell ⟨gb113, 3, none⟩ (.int .i64 ((rd_T119 l0_0 x4_2).f3))).setCell ⟨gb113, 4, none⟩ (.int .i64 ((rd_T119 l0_0 x4_2).f4))).setCell ⟨gb113, 5, none⟩ (.int .i64 ((rd_T119 l0_0 x4_2).f5))).setCell ⟨gb113, 6, none⟩ (.int .i64 ((rd_T119 l0_0 x4_2).f6))).heap[gb107]? = some (.cells #[.slice (some ad112) l0_0.length c0_0, .slice A0_1 l0_1.length c0_1, .int .i64 a0_2] 75 (0, 0))) := ⟨by (with_reducible repeat (first | refine blk_drewN ?_ _ | refine blk_drew ?_ | refine blk_alloc ?_ _)); refine blk_far ?_ NB107_113.out _; (with_reducible repeat (first | refine blk_drewN ?_ _ | refine blk_drew ?_ | refine blk_alloc ?_ _)); refine blk_far ?_ NB107_113.out _; (with_reducible repeat (first | refine blk_drewN ?_ _ | refine blk_drew ?_ | refine blk_alloc ?_ _)); refine blk_far ?_ NB107_113.out _; (with_reducible repeat (first | refine blk_drewN ?_ _ | refine blk_drew ?_ | refine blk_alloc ?_ _)); refine blk_far ?_ NB107_113.out _; (with_reducible repeat (first | refine blk_drewN ?_ _ | refine blk_drew ?_ | refine blk_alloc ?_ _)); refine blk_far ?_ NB107_113.out _; (with_reducible repeat (first | refine blk_drewN ?_ _ | refine blk_drew ?_ | refine blk_alloc ?_ _)); refine blk_far ?_ NB107_113.out _; (with_reducible repeat (first | refine blk_drewN ?_ _ | refine blk_drew ?_ | refine blk_alloc ?_ _)); refine blk_far ?_ NB107_113.out _; (with_reducible repeat (first | refine blk_drewN ?_ _ | refine blk_drew ?_ | refine blk_alloc ?_ _)); exact BK107.out⟩
             have n2_ : Aside0 ((((((((w21.setCell ⟨gb113, 0, none⟩ (.int .i64 ((rd_T119 l0_0 x4_2).f0))).setCell ⟨gb113, 1, none⟩ (.int .i64 ((rd_T119 l0_0 x4_2).f1))).setCell ⟨gb113, 2, none⟩ (.int .i64 ((rd_T119 l0_0 x4_2).f2))).setCell ⟨gb113, 3, none⟩ (.int .i64 ((rd_T119 l0_0 x4_2).f3))).setCell ⟨gb113, 4, none⟩ (.int .i64 ((rd_T119 l0_0 x4_2).f4))).setCell ⟨gb113, 5, none⟩ (.int .i64 ((rd_T119 l0_0 x4_2).f5))).setCell ⟨gb113, 6, none⟩ (.int .i64 ((rd_T119 l0_0 x4_2).f6))).heap[gb113]? = some (.cells #[.int .i64 ((rd_T119 l0_0 x4_2).f0), .int .i64 ((rd_T119 l0_0 x4_2).f1), .int .i64 ((rd_T119 l0_0 x4_2).f2), .int .i64 ((rd_T119 l0_0 x4_2).f3), .int .i64 ((rd_T119 l0_0 x4_2).f4), .int .i64 ((rd_T119 l0_0 x4_2).f5), .int .i64 ((rd_T119 l0_0 x4_2).f6)] 119 (0, 0))) := ⟨by (with_reducible repeat (first | refine blk_drewN ?_ _ | refine blk_drew ?_ | refine blk_alloc ?_ _)); refine blk_put (cs := #[.int .i64 ((rd_T119 l0_0 x4_2).f0), .int .i64 ((rd_T119 l0_0 x4_2).f1), .int .i64 ((rd_T119 l0_0 x4_2).f2), .int .i64 ((rd_T119 l0_0 x4_2).f3), .int .i64 ((rd_T119 l0_0 x4_2).f4), .int .i64 ((rd_T119 l0_0 x4_2).f5), .int .i64 0]) ?_ 6 _ rfl; (with_reducible repeat (first | refine blk_drewN ?_ _ | refine blk_drew ?_ | refine blk_alloc ?_ _)); refine blk_put (cs := #[.int .i64 ((rd_T119 l0_0 x4_2).f0), .int .i64 ((rd_T119 l0_0 x4_2).f1), .int .i64 ((rd_T119 l0_0 x4_2).f2), .int .i64 ((rd_T119 l0_0 x4_2).f3), .int .i64 ((rd_T119 l0_0 x4_2).f4), .int .i64 0, .int .i64 0]) ?_ 5 _ rfl; (with_reducible repeat (first | refine blk_drewN ?_ _ | refine blk_drew ?_ | refine blk_alloc ?_ _)); refine blk_put (cs := #[.int .i64 ((rd_T119 l0_0 x4_2).f0), .int .i64 ((rd_T119 l0_0 x4_2).f1), .int .i64 ((rd_T119 l0_0 x4_2).f2), .int .i64 ((rd_T119 l0_0 x4_2).f3), .int .i64 0, .int .i64 0, .int .i64 0]) ?_ 4 _ rfl; (with_reducible repeat (first | refine blk_drewN ?_ _ | refine blk_drew ?_ | refine blk_alloc ?_ _)); refine blk_put (cs := #[.int .i64 ((rd_T119 l0_0 x4_2).f0), .int .i64 ((rd_T119 l0_0 x4_2).f1), .int .i64 ((rd_T119 l0_0 x4_2).f2), .int .i64 0, .int .i64 0, .int .i64 0, .int .i64 0]) ?_ 3 _ rfl; (with_reducible repeat (first | refine blk_drewN ?_ _ | refine blk_drew ?_ | refine blk_alloc ?_ _)); refine blk_put (cs := #[.int .i64 ((rd_T119 l0_0 x4_2).f0), .int .i64 ((rd_T119 l0_0 x4_2).f1), .int .i64 0, .int .i64 0, .int .i64 0, .int .i64 0, .int .i64 0]) ?_ 2 _ rfl; (with_reducible repeat (first | refine blk_drewN ?_ _ | refine blk_drew ?_ | refine blk_alloc ?_ _)); refine blk_put (cs := #[.int .i64 ((rd_T119 l0_0 x4_2).f0), .int .i64 0, .int .i64 0, .int .i64 0, .int .i64 0, .int .i64 0, .int .i64 0]) ?_ 1 _ rfl; (with_reducible repeat (first | refine blk_drewN ?_ _ | refine blk_drew ?_ | refine blk_alloc ?_ _)); refine blk_put (cs := #[.int .i64 0, .int .i64 0, .int .i64 0, .int .i64 0, .int .i64 0, .int .i64 0, .int .i64 0]) ?_ 0 _ rfl; (with_reducible repeat (first | refine blk_drewN ?_ _ | refine blk_drew ?_ | refine blk_alloc ?_ _)); exact BK113.out⟩
             have n3_ : Aside0 (Below w.heap.size w (((((((w21.setCell ⟨gb113, 0, none⟩ (.int .i64 ((rd_T119 l0_0 x4_2).f0))).setCell ⟨gb113, 1, none⟩ (.int .i64 ((rd_T119 l0_0 x4_2).f1))).setCell ⟨gb113, 2, none⟩ (.int .i64 ((rd_T119 l0_0 x4_2).f2))).setCell ⟨gb113, 3, none⟩ (.int .i64 ((rd_T119 l0_0 x4_2).f3))).setCell ⟨gb113, 4, none⟩ (.int .i64 ((rd_T119 l0_0 x4_2).f4))).setCell ⟨gb113, 5, none⟩ (.int .i64 ((rd_T119 l0_0 x4_2).f5))).setCell ⟨gb113, 6, none⟩ (.int .i64 ((rd_T119 l0_0 x4_2).f6)))) := ⟨by repeat (first | (with_reducible first | exact HB.out | apply below_alloc | apply pw_below_drewN | apply below_drew1 | refine below_set ?_ GE107.out | refine below_set ?_ GE113.out) | exact HB.out)⟩
             (try clear HO_3)
             (try clear BK107)
             (try clear BK113)
             (try clear HB)
             generalize (((((((w21.setCell ⟨gb113, 0, none⟩ (.int .i64 ((rd_T119 l0_0 x4_2).f0))).setCell ⟨gb113, 1, none⟩ (.int .i64 ((rd_T119 l0_0 x4_2).f1))).setCell ⟨gb113, 2, none⟩ (.int .i64 ((rd_T119 l0_0 x4_2).f2))).setCell ⟨gb113, 3, none⟩ (.int .i64 ((rd_T119 l0_0 x4_2).f3))).setCell ⟨gb113, 4, none⟩ (.int .i64 ((rd_T119 l0_0 x4_2).f4))).setCell ⟨gb113, 5, none⟩ (.int .i64 ((rd_T119 l0_0 x4_2).f5))).setCell ⟨gb113, 6, none⟩ (.int .i64 ((rd_T119 l0_0 x4_2).f6))) = w48 at n0_ n1_ n2_ n3_ ⊢
             try replace n0_ := Aside0.mk (by first | exact Kd.R_drewN n0_.out nd | exact blk_drewN n0_.out nd | exact pw_below_drewN n0_.out nd)
             try replace n1_ := Aside0.mk (by first | exact Kd.R_drewN n1_.out nd | exact blk_drewN n1_.out nd | exact pw_below_drewN n1_.out nd)
             try replace n2_ := Aside0.mk (by first | exact Kd.R_drewN n2_.out nd | exact blk_drewN n2_.out nd | exact pw_below_drewN n2_.out nd)
             try replace n3_ := Aside0.mk (by first | exact Kd.R_drewN n3_.out nd | exact blk_drewN n3_.out nd | exact pw_below_drewN n3_.out nd)
             try generalize w48.drewN nd = w48 at n0_ n1_ n2_ n3_ ⊢
             have HO_3 := n0_
             have BK107 := n1_
             have BK113 := n2_
             have HB := n3_
             clear n0_ n1_ n2_ n3_
             have n0_ := Aside0.mk (Kd.R_drew HO_3.out)
             have n1_ := Aside0.mk (blk_drew BK107.out)
             have n2_ := Aside0.mk (blk_drew BK113.out)
             have n3_ := Aside0.mk (below_drew1 HB.out)
             clear HO_3
             clear BK107
             clear BK113
             clear HB
             have HO_3 := n0_
             have BK107 := n1_
             have BK113 := n2_
             have HB := n3_
             clear n0_ n1_ n2_ n3_
             refine start_ (n := 40) (S := fun w' => w'.cell? ⟨gb113, 0, none⟩ = some (.int .i64 ((rd_T119 l0_0 x4_2).f0)) ∧ w'.cell? ⟨gb113, 1, none⟩ = some (.int .i64 ((rd_T119 l0_0 x4_2).f1)) ∧ w'.cell? ⟨gb113, 2, none⟩ = some (.int .i64 ((rd_T119 l0_0 x4_2).f2)) ∧ w'.cell? ⟨gb113, 3, none⟩ = some (.int .i64 ((rd_T119 l0_0 x4_2).f3)) ∧ w'.cell? ⟨gb113, 4, none⟩ = some (.int .i64 ((rd_T119 l0_0 x4_2).f4)) ∧ w'.cell? ⟨gb113, 5, none⟩ = some (.int .i64 ((rd_T119 l0_0 x4_2).f5)) ∧ w'.cell? ⟨gb113, 6, none⟩ = some (.int .i64 ((rd_T119 l0_0 x4_2).f6))) (ds := []) spec_HouseOk.v0 (by kernel_rfl) rfl rfl ⟨(blk_cell BK113.out 0).trans rfl, (blk_cell BK113.out 1).trans rfl, (blk_cell BK113.out 2).trans rfl, (blk_cell BK113.out 3).trans rfl, (blk_cell BK113.out 4).trans rfl, (blk_cell BK113.out 5).trans rfl, (blk_cell BK113.out 6).trans rfl⟩ (fun hHeld => ?_); refine with_tabW spec_HouseOk.tab9 spec_HouseOk.bits9 (fun HT_ HW_ => ?_)
             generalize w48.drew = w49 at HO_3 BK107 BK113 HB hHeld ⊢
             refine Sk.pq 0 52 spec_HouseOk.v1 HT_.out (h := ?_)
             refine Sk.pq 1 53 spec_HouseOk.v2 HT_.out (h := ?_)
             refine Sk.pq 2 54 spec_HouseOk.v3 HT_.out (h := ?_)
             refine Sk.pq 3 55 spec_HouseOk.v4 HT_.out (h := ?_)
             refine Sk.tk7 4 56 spec_HouseOk.v5 HT_.out HW_.out hHeld (h := ?_)
             refine one_ (i := 5) (N := some 57) spec_HouseOk.v6 rfl rfl (one_of HT_.out (by kernel_rfl)) (by decide) (fun K hK => ?_)
             refine goes_ Try.func51 (by kernel_rfl) rfl #[.int .i64 ((rd_T119 l0_0 x4_2).f0), .int .i64 1, .int .i64 1000000] (by rfl) rfl rfl (by (try simp only [List.map_toArray, List.map_cons, List.map_nil]); first | done | rfl | (simp only [List.length_drop, List.length_take]; rfl)) ?_
             with_reducible refine (spec_l1In.calls ((rd_T119 l0_0 x4_2).f0) 1 1000000 false _ A25.out).mono ?_
             rintro e w' ⟨rfl, ⟨nd, rfl⟩⟩
             refine ⟨_, rfl, ?_⟩
             refine hK.out _ _ ⟨(blk_cell BK113.out 0).trans rfl, (blk_cell BK113.out 1).trans rfl, (blk_cell BK113.out 2).trans rfl, (blk_cell BK113.out 3).trans rfl, (blk_cell BK113.out 4).trans rfl, (blk_cell BK113.out 5).trans rfl, (blk_cell BK113.out 6).trans rfl⟩ (fun hHeld => ?_)
             clear hK K
             refine Sk.nm 57 (h := ?_)
             refine Sk.pq 6 58 spec_HouseOk.v7 HT_.out (h := ?_)
             refine Sk.pq 7 59 spec_HouseOk.v8 HT_.out (h := ?_)
             refine Sk.pq 8 60 spec_HouseOk.v9 HT_.out (h := ?_)
             refine Sk.pu 9 61 spec_HouseOk.v10 HT_.out (h := ?_)
             refine Sk.pu 10 62 spec_HouseOk.v11 HT_.out (h := ?_)
             refine Sk.pu 11 63 spec_HouseOk.v12 HT_.out (h := ?_)
             refine Sk.pu 12 64 spec_HouseOk.v13 HT_.out (h := ?_)
             refine Sk.pu 13 65 spec_HouseOk.v42 HT_.out (h := ?_)
             refine Sk.pu 14 66 spec_HouseOk.v43 HT_.out (h := ?_)
             refine Sk.pu 15 67 spec_HouseOk.v44 HT_.out (h := ?_)
             refine Sk.pu 16 68 spec_HouseOk.v45 HT_.out (h := ?_)
             refine Sk.pu 17 69 spec_HouseOk.v46 HT_.out (h := ?_)
             refine Sk.pu 18 70 spec_HouseOk.v47 HT_.out (h := ?_)
             refine Sk.pu 19 71 spec_HouseOk.v20 HT_.out (h := ?_)
             refine Sk.pu 20 72 spec_HouseOk.v21 HT_.out (h := ?_)
             refine Sk.pu 21 73 spec_HouseOk.v22 HT_.out (h := ?_)
             refine Sk.pu 22 74 spec_HouseOk.v23 HT_.out (h := ?_)
             refine Sk.pq 23 75 spec_HouseOk.v24 HT_.out (h := ?_)
             refine Sk.pq 24 76 spec_HouseOk.v25 HT_.out (h := ?_)
             refine Sk.pu 25 77 spec_HouseOk.v26 HT_.out (h := ?_)
             refine Sk.pu 26 78 spec_HouseOk.v27 HT_.out (h := ?_)
             refine Sk.pu 27 79 spec_HouseOk.v28 HT_.out (h := ?_)
             refine Sk.pu 28 80 spec_HouseOk.v29 HT_.out (h := ?_)
             refine Sk.pu 29 81 spec_HouseOk.v30 HT_.out (h := ?_)
             refine Sk.pu 30 82 spec_HouseOk.v31 HT_.out (h := ?_)
             refine Sk.pu 31 83 spec_HouseOk.v32 HT_.out (h := ?_)
             refine Sk.pu 32 84 spec_HouseOk.v33 HT_.out (h := ?_)
             refine Sk.pq 33 85 spec_HouseOk.v34 HT_.out (h := ?_)
             refine Sk.pq 34 86 spec_HouseOk.v35 HT_.out (h := ?_)
             refine Sk.pu 35 87 spec_HouseOk.v36 HT_.out (h := ?_)
             refine Sk.pu 36 88 spec_HouseOk.v37 HT_.out (h := ?_)
             refine Sk.pu 37 89 spec_HouseOk.v38 HT_.out (h := ?_)
             refine Sk.pu 38 90 spec_HouseOk.v39 HT_.out (h := ?_)
             refine Sk.pq 39 91 spec_HouseOk.v40 HT_.out (h := ?_)
             refine done_ (done_of HT_.out (by kernel_rfl)) ?_
             try go_wp2
             go_meet
             case rel => exact ⟨_, (true), (by first | rfl | (simp; done) | (simp [*]; done)), H', ⟨by have := HJ1.out; have := HK2.out; first | omega | exact Nat.le_refl _⟩, ⟨by (with_reducible repeat (first | apply Kd.R_alloc | apply Kd.R_drewN | apply Kd.R_drew)); exact HO_3.out⟩, ⟨by (with_reducible repeat (first | refine blk_drewN ?_ _ | refine blk_drew ?_ | refine blk_alloc ?_ _)); exact BK107.out⟩, ⟨by (with_reducible repeat (first | refine blk_drewN ?_ _ | refine blk_drew ?_ | refine blk_alloc ?_ _)); exact BK113.out⟩, ⟨by repeat (first | (with_reducible first | exact HB.out | apply below_alloc | apply pw_below_drewN | apply below_drew1 | refine below_set ?_ GE107.out | refine below_set ?_ GE113.out) | exact HB.out)⟩⟩
           ·replace c24 := Bool.eq_false_iff.mpr c24
            subst c24
            rw [if_neg (show ¬ (false = true) by decide)] at H
            have H' := Aside0.mk H
            clear H
            try go_wp2
            have n0_ : Aside0 (Kd.R (Kd.int .i64) 3 (((((((w21.setCell ⟨gb113, 0, none⟩ (.int .i64 ((rd_T119 l0_0 x4_2).f0))).setCell ⟨gb113, 1, none⟩ (.int .i64 ((rd_T119 l0_0 x4_2).f1))).setCell ⟨gb113, 2, none⟩ (.int .i64 ((rd_T119 l0_0 x4_2).f2))).setCell ⟨gb113, 3, none⟩ (.int .i64 ((rd_T119 l0_0 x4_2).f3))).setCell ⟨gb113, 4, none⟩ (.int .i64 ((rd_T119 l0_0 x4_2).f4))).setCell ⟨gb113, 5, none⟩ (.int .i64 ((rd_T119 l0_0 x4_2).f5))).setCell ⟨gb113, 6, none⟩ (.int .i64 ((rd_T119 l0_0 x4_2).f6))) w.heap.size (fun _ => True) v110 x3_2) := ⟨by (with_reducible repeat (first | apply Kd.R_alloc | apply Kd.R_drewN | apply Kd.R_drew)); exact Kd.R_mono (Kd.R_far (p := ⟨gb113, 6, none⟩) (Kd.R_far (p := ⟨gb113, 5, none⟩) (Kd.R_far (p := ⟨gb113, 4, none⟩) (Kd.R_far (p := ⟨gb113, 3, none⟩) (Kd.R_far (p := ⟨gb113, 2, none⟩) (Kd.R_far (p := ⟨gb113, 1, none⟩) (Kd.R_far (p := ⟨gb113, 0, none⟩) (Kd.R_types HO_3.out BK113.out (by decide)) (fun _ hk => hk.2) (.int .i64 ((rd_T119 l0_0 x4_2).f0))) (fun _ hk => hk.2) (.int .i64 ((rd_T119 l0_0 x4_2).f1))) (fun _ hk => hk.2) (.int .i64 ((rd_T119 l0_0 x4_2).f2))) (fun _ hk => hk.2) (.int .i64 ((rd_T119 l0_0 x4_2).f3))) (fun _ hk => hk.2) (.int .i64 ((rd_T119 l0_0 x4_2).f4))) (fun _ hk => hk.2) (.int .i64 ((rd_T119 l0_0 x4_2).f5))) (fun _ hk => hk.2) (.int .i64 ((rd_T119 l0_0 x4_2).f6))) (fun _ hk => trivial)⟩
            have n1_ : Aside0 ((((((((w21.setCell ⟨gb113, 0, none⟩ (.int .i64 ((rd_T119 l0_0 x4_2).f0))).setCell ⟨gb113, 1, none⟩ (.int .i64 ((rd_T119 l0_0 x4_2).f1))).setCell ⟨gb113, 2, none⟩ (.int .i64 ((rd_T119 l0_0 x4_2).f2))).setCell ⟨gb113, 3, none⟩ (.int .i64 ((rd_T119 l0_0 x4_2).f3))).setCell ⟨gb113, 4, none⟩ (.int .i64 ((rd_T119 l0_0 x4_2).f4))).setCell ⟨gb113, 5, none⟩ (.int .i64 ((rd_T119 l0_0 x4_2).f5))).setCell ⟨gb113, 6, none⟩ (.int .i64 ((rd_T119 l0_0 x4_2).f6))).heap[gb107]? = some (.cells #[.slice (some ad112) l0_0.length c0_0, .slice A0_1 l0_1.length c0_1, .int .i64 a0_2] 75 (0, 0))) := ⟨by (with_reducible repeat (first | refine blk_drewN ?_ _ | refine blk_drew ?_ | refine blk_alloc ?_ _)); refine blk_far ?_ NB107_113.out _; (with_reducible repeat (first | refine blk_drewN ?_ _ | refine blk_drew ?_ | refine blk_alloc ?_ _)); refine blk_far ?_ NB107_113.out _; (with_reducible repeat (first | refine blk_drewN ?_ _ | refine blk_drew ?_ | refine blk_alloc ?_ _)); refine blk_far ?_ NB107_113.out _; (with_reducible repeat (first | refine blk_drewN ?_ _ | refine blk_drew ?_ | refine blk_alloc ?_ _)); refine blk_far ?_ NB107_113.out _; (with_reducible repeat (first | refine blk_drewN ?_ _ | refine blk_drew ?_ | refine blk_alloc ?_ _)); refine blk_far ?_ NB107_113.out _; (with_reducible repeat (first | refine blk_drewN ?_ _ | refine blk_drew ?_ | refine blk_alloc ?_ _)); refine blk_far ?_ NB107_113.out _; (with_reducible repeat (first | refine blk_drewN ?_ _ | refine blk_drew ?_ | refine blk_alloc ?_ _)); refine blk_far ?_ NB107_113.out _; (with_reducible repeat (first | refine blk_drewN ?_ _ | refine blk_drew ?_ | refine blk_alloc ?_ _)); exact BK107.out⟩
            have n2_ : Aside0 ((((((((w21.setCell ⟨gb113, 0, none⟩ (.int .i64 ((rd_T119 l0_0 x4_2).f0))).setCell ⟨gb113, 1, none⟩ (.int .i64 ((rd_T119 l0_0 x4_2).f1))).setCell ⟨gb113, 2, none⟩ (.int .i64 ((rd_T119 l0_0 x4_2).f2))).setCell ⟨gb113, 3, none⟩ (.int .i64 ((rd_T119 l0_0 x4_2).f3))).setCell ⟨gb113, 4, none⟩ (.int .i64 ((rd_T119 l0_0 x4_2).f4))).setCell ⟨gb113, 5, none⟩ (.int .i64 ((rd_T119 l0_0 x4_2).f5))).setCell ⟨gb113, 6, none⟩ (.int .i64 ((rd_T119 l0_0 x4_2).f6))).heap[gb113]? = some (.cells #[.int .i64 ((rd_T119 l0_0 x4_2).f0), .int .i64 ((rd_T119 l0_0 x4_2).f1), .int .i64 ((rd_T119 l0_0 x4_2).f2), .int .i64 ((rd_T119 l0_0 x4_2).f3), .int .i64 ((rd_T119 l0_0 x4_2).f4), .int .i64 ((rd_T119 l0_0 x4_2).f5), .int .i64 ((rd_T119 l0_0 x4_2).f6)] 119 (0, 0))) := ⟨by (with_reducible repeat (first | refine blk_drewN ?_ _ | refine blk_drew ?_ | refine blk_alloc ?_ _)); refine blk_put (cs := #[.int .i64 ((rd_T119 l0_0 x4_2).f0), .int .i64 ((rd_T119 l0_0 x4_2).f1), .int .i64 ((rd_T119 l0_0 x4_2).f2), .int .i64 ((rd_T119 l0_0 x4_2).f3), .int .i64 ((rd_T119 l0_0 x4_2).f4), .int .i64 ((rd_T119 l0_0 x4_2).f5), .int .i64 0]) ?_ 6 _ rfl; (with_reducible repeat (first | refine blk_drewN ?_ _ | refine blk_drew ?_ | refine blk_alloc ?_ _)); refine blk_put (cs := #[.int .i64 ((rd_T119 l0_0 x4_2).f0), .int .i64 ((rd_T119 l0_0 x4_2).f1), .int .i64 ((rd_T119 l0_0 x4_2).f2), .int .i64 ((rd_T119 l0_0 x4_2).f3), .int .i64 ((rd_T119 l0_0 x4_2).f4), .int .i64 0, .int .i64 0]) ?_ 5 _ rfl; (with_reducible repeat (first | refine blk_drewN ?_ _ | refine blk_drew ?_ | refine blk_alloc ?_ _)); refine blk_put (cs := #[.int .i64 ((rd_T119 l0_0 x4_2).f0), .int .i64 ((rd_T119 l0_0 x4_2).f1), .int .i64 ((rd_T119 l0_0 x4_2).f2), .int .i64 ((rd_T119 l0_0 x4_2).f3), .int .i64 0, .int .i64 0, .int .i64 0]) ?_ 4 _ rfl; (with_reducible repeat (first | refine blk_drewN ?_ _ | refine blk_drew ?_ | refine blk_alloc ?_ _)); refine blk_put (cs := #[.int .i64 ((rd_T119 l0_0 x4_2).f0), .int .i64 ((rd_T119 l0_0 x4_2).f1), .int .i64 ((rd_T119 l0_0 x4_2).f2), .int .i64 0, .int .i64 0, .int .i64 0, .int .i64 0]) ?_ 3 _ rfl; (with_reducible repeat (first | refine blk_drewN ?_ _ | refine blk_drew ?_ | refine blk_alloc ?_ _)); refine blk_put (cs := #[.int .i64 ((rd_T119 l0_0 x4_2).f0), .int .i64 ((rd_T119 l0_0 x4_2).f1), .int .i64 0, .int .i64 0, .int .i64 0, .int .i64 0, .int .i64 0]) ?_ 2 _ rfl; (with_reducible repeat (first | refine blk_drewN ?_ _ | refine blk_drew ?_ | refine blk_alloc ?_ _)); refine blk_put (cs := #[.int .i64 ((rd_T119 l0_0 x4_2).f0), .int .i64 0, .int .i64 0, .int .i64 0, .int .i64 0, .int .i64 0, .int .i64 0]) ?_ 1 _ rfl; (with_reducible repeat (first | refine blk_drewN ?_ _ | refine blk_drew ?_ | refine blk_alloc ?_ _)); refine blk_put (cs := #[.int .i64 0, .int .i64 0, .int .i64 0, .int .i64 0, .int .i64 0, .int .i64 0, .int .i64 0]) ?_ 0 _ rfl; (with_reducible repeat (first | refine blk_drewN ?_ _ | refine blk_drew ?_ | refine blk_alloc ?_ _)); exact BK113.out⟩
            have n3_ : Aside0 (Below w.heap.size w (((((((w21.setCell ⟨gb113, 0, none⟩ (.int .i64 ((rd_T119 l0_0 x4_2).f0))).setCell ⟨gb113, 1, none⟩ (.int .i64 ((rd_T119 l0_0 x4_2).f1))).setCell ⟨gb113, 2, none⟩ (.int .i64 ((rd_T119 l0_0 x4_2).f2))).setCell ⟨gb113, 3, none⟩ (.int .i64 ((rd_T119 l0_0 x4_2).f3))).setCell ⟨gb113, 4, none⟩ (.int .i64 ((rd_T119 l0_0 x4_2).f4))).setCell ⟨gb113, 5, none⟩ (.int .i64 ((rd_T119 l0_0 x4_2).f5))).setCell ⟨gb113, 6, none⟩ (.int .i64 ((rd_T119 l0_0 x4_2).f6)))) := ⟨by repeat (first | (with_reducible first | exact HB.out | apply below_alloc | apply pw_below_drewN | apply below_drew1 | refine below_set ?_ GE107.out | refine below_set ?_ GE113.out) | exact HB.out)⟩
            (try clear HO_3)
            (try clear BK107)
            (try clear BK113)
            (try clear HB)
            generalize (((((((w21.setCell ⟨gb113, 0, none⟩ (.int .i64 ((rd_T119 l0_0 x4_2).f0))).setCell ⟨gb113, 1, none⟩ (.int .i64 ((rd_T119 l0_0 x4_2).f1))).setCell ⟨gb113, 2, none⟩ (.int .i64 ((rd_T119 l0_0 x4_2).f2))).setCell ⟨gb113, 3, none⟩ (.int .i64 ((rd_T119 l0_0 x4_2).f3))).setCell ⟨gb113, 4, none⟩ (.int .i64 ((rd_T119 l0_0 x4_2).f4))).setCell ⟨gb113, 5, none⟩ (.int .i64 ((rd_T119 l0_0 x4_2).f5))).setCell ⟨gb113, 6, none⟩ (.int .i64 ((rd_T119 l0_0 x4_2).f6))) = w50 at n0_ n1_ n2_ n3_ ⊢
            try replace n0_ := Aside0.mk (by first | exact Kd.R_drewN n0_.out nd | exact blk_drewN n0_.out nd | exact pw_below_drewN n0_.out nd)
            try replace n1_ := Aside0.mk (by first | exact Kd.R_drewN n1_.out nd | exact blk_drewN n1_.out nd | exact pw_below_drewN n1_.out nd)
            try replace n2_ := Aside0.mk (by first | exact Kd.R_drewN n2_.out nd | exact blk_drewN n2_.out nd | exact pw_below_drewN n2_.out nd)
            try replace n3_ := Aside0.mk (by first | exact Kd.R_drewN n3_.out nd | exact blk_drewN n3_.out nd | exact pw_below_drewN n3_.out nd)
            try generalize w50.drewN nd = w50 at n0_ n1_ n2_ n3_ ⊢
            have HO_3 := n0_
            have BK107 := n1_
            have BK113 := n2_
            have HB := n3_
            clear n0_ n1_ n2_ n3_
            have n0_ := Aside0.mk (Kd.R_drew HO_3.out)
            have n1_ := Aside0.mk (blk_drew BK107.out)
            have n2_ := Aside0.mk (blk_drew BK113.out)
            have n3_ := Aside0.mk (below_drew1 HB.out)
            clear HO_3
            clear BK107
            clear BK113
            clear HB
            have HO_3 := n0_
            have BK107 := n1_
            have BK113 := n2_
            have HB := n3_
            clear n0_ n1_ n2_ n3_
            refine start_ (n := 40) (S := fun w' => True) (ds := []) spec_HouseOk.v0 (by kernel_rfl) rfl rfl trivial (fun hHeld => ?_); refine with_tabW spec_HouseOk.tab9 spec_HouseOk.bits9 (fun HT_ HW_ => ?_)
            generalize w50.drew = w51 at HO_3 BK107 BK113 HB hHeld ⊢
            refine Sk.pq 0 52 spec_HouseOk.v1 HT_.out (h := ?_)
            refine Sk.pq 1 53 spec_HouseOk.v2 HT_.out (h := ?_)
            refine Sk.pq 2 54 spec_HouseOk.v3 HT_.out (h := ?_)
            refine Sk.pu 3 55 spec_HouseOk.v4 HT_.out (h := ?_)
            refine Sk.pu 4 56 spec_HouseOk.v5 HT_.out (h := ?_)
            refine Sk.pu 5 57 spec_HouseOk.v6 HT_.out (h := ?_)
            refine Sk.pu 6 58 spec_HouseOk.v7 HT_.out (h := ?_)
            refine Sk.pq 7 59 spec_HouseOk.v8 HT_.out (h := ?_)
            refine Sk.pq 8 60 spec_HouseOk.v9 HT_.out (h := ?_)
            refine Sk.pu 9 61 spec_HouseOk.v10 HT_.out (h := ?_)
            refine Sk.pu 10 62 spec_HouseOk.v11 HT_.out (h := ?_)
            refine Sk.pu 11 63 spec_HouseOk.v12 HT_.out (h := ?_)
            refine Sk.pu 12 64 spec_HouseOk.v13 HT_.out (h := ?_)
            refine Sk.pu 13 65 spec_HouseOk.v42 HT_.out (h := ?_)
            refine Sk.pu 14 66 spec_HouseOk.v43 HT_.out (h := ?_)
            refine Sk.pu 15 67 spec_HouseOk.v44 HT_.out (h := ?_)
            refine Sk.pu 16 68 spec_HouseOk.v45 HT_.out (h := ?_)
            refine Sk.pu 17 69 spec_HouseOk.v46 HT_.out (h := ?_)
            refine Sk.pu 18 70 spec_HouseOk.v47 HT_.out (h := ?_)
            refine Sk.pu 19 71 spec_HouseOk.v20 HT_.out (h := ?_)
            refine Sk.pu 20 72 spec_HouseOk.v21 HT_.out (h := ?_)
            refine Sk.pu 21 73 spec_HouseOk.v22 HT_.out (h := ?_)
            refine Sk.pu 22 74 spec_HouseOk.v23 HT_.out (h := ?_)
            refine Sk.pq 23 75 spec_HouseOk.v24 HT_.out (h := ?_)
            refine Sk.pq 24 76 spec_HouseOk.v25 HT_.out (h := ?_)
            refine Sk.pu 25 77 spec_HouseOk.v26 HT_.out (h := ?_)
            refine Sk.pu 26 78 spec_HouseOk.v27 HT_.out (h := ?_)
            refine Sk.pu 27 79 spec_HouseOk.v28 HT_.out (h := ?_)
            refine Sk.pu 28 80 spec_HouseOk.v29 HT_.out (h := ?_)
            refine Sk.pu 29 81 spec_HouseOk.v30 HT_.out (h := ?_)
            refine Sk.pu 30 82 spec_HouseOk.v31 HT_.out (h := ?_)
            refine Sk.pu 31 83 spec_HouseOk.v32 HT_.out (h := ?_)
            refine Sk.pu 32 84 spec_HouseOk.v33 HT_.out (h := ?_)
            refine Sk.pq 33 85 spec_HouseOk.v34 HT_.out (h := ?_)
            refine Sk.pq 34 86 spec_HouseOk.v35 HT_.out (h := ?_)
            refine Sk.pu 35 87 spec_HouseOk.v36 HT_.out (h := ?_)
            refine Sk.pu 36 88 spec_HouseOk.v37 HT_.out (h := ?_)
            refine Sk.pu 37 89 spec_HouseOk.v38 HT_.out (h := ?_)
            refine Sk.pu 38 90 spec_HouseOk.v39 HT_.out (h := ?_)
            refine Sk.pq 39 91 spec_HouseOk.v40 HT_.out (h := ?_)
            refine done_ (done_of HT_.out (by kernel_rfl)) ?_
            try go_wp2
            go_meet
            case rel => exact ⟨_, (true), (by first | rfl | (simp; done) | (simp [*]; done)), H', ⟨by have := HJ1.out; have := HK2.out; first | omega | exact Nat.le_refl _⟩, ⟨by (with_reducible repeat (first | apply Kd.R_alloc | apply Kd.R_drewN | apply Kd.R_drew)); exact HO_3.out⟩, ⟨by (with_reducible repeat (first | refine blk_drewN ?_ _ | refine blk_drew ?_ | refine blk_alloc ?_ _)); exact BK107.out⟩, ⟨by (with_reducible repeat (first | refine blk_drewN ?_ _ | refine blk_drew ?_ | refine blk_alloc ?_ _)); exact BK113.out⟩, ⟨by repeat (first | (with_reducible first | exact HB.out | apply below_alloc | apply pw_below_drewN | apply below_drew1 | refine below_set ?_ GE107.out | refine below_set ?_ GE113.out) | exact HB.out)⟩⟩
          case rest =>
           clear HC19
           obtain ⟨kq, x91_18, rfl, HA, HJ18, HO_3, BK107, BK113, HB⟩ := hcut
           cases kq with
           | zero => exact absurd HA.out (by simp [spec_HouseOk.j2])
           | succ kj18 =>
            have H := HA.out
            clear HA
            simp only [spec_HouseOk.j2] at H
            by_cases c52 : x91_18 = true
            ·subst c52
             rw [if_pos rfl] at H
             obtain rfl := Option.some.inj H
             go_wp2
             go_ret
             exact ⟨by first | rfl | (simp [errW_none, errW_some] <;> rfl) | (simp [*, errW_none, errW_some] <;> rfl), by repeat (first | (with_reducible first | exact HB.out | apply below_alloc | apply pw_below_drewN | apply below_drew1 | refine below_set ?_ GE107.out | refine below_set ?_ GE113.out) | exact HB.out)⟩
            ·replace c52 := Bool.eq_false_iff.mpr c52
             subst c52
             rw [if_neg (show ¬ (false = true) by decide)] at H
             have HC53 := Aside0.mk H
             clear H
             have hnb54 := NB113_107.out
             have hnc54 := NB107_113.out
             obtain ⟨hcz55_0, hcz55_1, hcz55_2, hcz55_3, hcz55_4, hcz55_5, hcz55_6⟩ := spec_HouseOk.cl7 BK113.out
             obtain ⟨hfz55_0, hfz55_1, hfz55_2, hfz55_3, hfz55_4, hfz55_5, hfz55_6⟩ := spec_HouseOk.fz7 BK113.out
             go_upto_if 94 with (fail)
             go_cut [6] (fun v6 wc => ∃ (kq : Nat) (x6_52 : Int), v6 = .int .i64 x6_52 ∧ Aside0 (spec_HouseOk.j3 kq x3_2 x4_2 x6_52 l0_0 l0_1 a0_2 ((rd_T119 l0_0 x4_2).f0) ((rd_T119 l0_0 x4_2).f1) ((rd_T119 l0_0 x4_2).f2) ((rd_T119 l0_0 x4_2).f3) ((rd_T119 l0_0 x4_2).f4) ((rd_T119 l0_0 x4_2).f5) ((rd_T119 l0_0 x4_2).f6) = some r) ∧ Aside0 (kq ≤ kj18) ∧ Aside0 (Kd.R (Kd.int .i64) 3 wc w.heap.size (fun _ => True) v110 x3_2) ∧ Aside0 (wc.heap[gb107]? = some (.cells #[(.slice (some ad112) l0_0.length c0_0), (.slice A0_1 l0_1.length c0_1), .int .i64 a0_2] 75 (0, 0))) ∧ Aside0 (wc.heap[gb113]? = some (.cells #[.int .i64 ((rd_T119 l0_0 x4_2).f0), .int .i64 ((rd_T119 l0_0 x4_2).f1), .int .i64 ((rd_T119 l0_0 x4_2).f2), .int .i64 ((rd_T119 l0_0 x4_2).f3), .int .i64 ((rd_T119 l0_0 x4_2).f4), .int .i64 ((rd_T119 l0_0 x4_2).f5), .int .i64 ((rd_T119 l0_0 x4_2).f6)] 119 (0, 0))) ∧ Aside0 (Below w.heap.size w wc))
             case first =>
              have H := HC53.out
              clear HC53
              by_cases c56 : ((rd_T119 l0_0 x4_2).f5) = 3
              ·rw [if_pos c56] at H
               have c56b0 : (((rd_T119 l0_0 x4_2).f5) == 3) = true := beq_iff_eq.mpr c56
               have c56b1 : (((rd_T119 l0_0 x4_2).f5) != 3) = false := bne_eq_false_iff_eq.mpr c56
               clear c56
               (first | rw [c56b0] | (simp only [i64_w, i32_w]; rw [c56b0]) | skip)
               have H' := Aside0.mk H
               clear H
               go_wp2
               go_meet
               case rel => exact ⟨_, (t114), (by first | rfl | (simp; done) | (simp [*]; done)), H', ⟨by have := HJ1.out; have := HK2.out; have := HJ18.out; first | omega | exact Nat.le_refl _⟩, ⟨by (with_reducible repeat (first | apply Kd.R_alloc | apply Kd.R_drewN | apply Kd.R_drew)); exact HO_3.out⟩, ⟨by (with_reducible repeat (first | refine blk_drewN ?_ _ | refine blk_drew ?_ | refine blk_alloc ?_ _)); exact BK107.out⟩, ⟨by (with_reducible repeat (first | refine blk_drewN ?_ _ | refine blk_drew ?_ | refine blk_alloc ?_ _)); exact BK113.out⟩, ⟨by repeat (first | (with_reducible first | exact HB.out | apply below_alloc | apply pw_below_drewN | apply below_drew1 | refine below_set ?_ GE107.out | refine below_set ?_ GE113.out) | exact HB.out)⟩⟩
              ·rw [if_neg c56] at H
               have c56b0 : (((rd_T119 l0_0 x4_2).f5) == 3) = false := beq_eq_false_iff_ne.mpr c56
               have c56b1 : (((rd_T119 l0_0 x4_2).f5) != 3) = true := bne_iff_ne.mpr c56
               (first | rw [c56b0] | (simp only [i64_w, i32_w]; rw [c56b0]) | skip)
               have H' := Aside0.mk H
               clear H
               go_wp2
               go_meet
               case rel => exact ⟨_, (0), (by first | rfl | (simp; done) | (simp [*]; done)), H', ⟨by have := HJ1.out; have := HK2.out; have := HJ18.out; first | omega | exact Nat.le_refl _⟩, ⟨by (with_reducible repeat (first | apply Kd.R_alloc | apply Kd.R_drewN | apply Kd.R_drew)); exact HO_3.out⟩, ⟨by (with_reducible repeat (first | refine blk_drewN ?_ _ | refine blk_drew ?_ | refine blk_alloc ?_ _)); exact BK107.out⟩, ⟨by (with_reducible repeat (first | refine blk_drewN ?_ _ | refine blk_drew ?_ | refine blk_alloc ?_ _)); exact BK113.out⟩, ⟨by repeat (first | (with_reducible first | exact HB.out | apply below_alloc | apply pw_below_drewN | apply below_drew1 | refine below_set ?_ GE107.out | refine below_set ?_ GE113.out) | exact HB.out)⟩⟩
             case rest =>
              clear HC53
              (try clear c52); (try clear hcz55_0); (try clear hcz55_1); (try clear hcz55_2); (try clear hcz55_3); (try clear hcz55_4); (try clear hcz55_5); (try clear hcz55_6); (try clear hfz55_0); (try clear hfz55_1); (try clear hfz55_2); (try clear hfz55_3); (try clear hfz55_4); (try clear hfz55_5); (try clear hfz55_6)
              obtain ⟨kq, x6_52, rfl, HA, HJ52, HO_3, BK107, BK113, HB⟩ := hcut
              cases kq with
              | zero => exact absurd HA.out (by simp [spec_HouseOk.j3])
              | succ kj52 =>
               have H := HA.out
               clear HA
               simp only [spec_HouseOk.j3] at H
               by_cases c57 : ((rd_T119 l0_0 x4_2).f6) = x6_52
               ·rw [if_pos c57] at H
                have c57b0 : (((rd_T119 l0_0 x4_2).f6) == x6_52) = true := beq_iff_eq.mpr c57
                have c57b1 : (((rd_T119 l0_0 x4_2).f6) != x6_52) = false := bne_eq_false_iff_eq.mpr c57
                clear c57
                by_cases c58 : 0 ≤ ((rd_T119 l0_0 x4_2).f1)
                ·rw [if_pos c58] at H
                 have c58b0 : decide (0 ≤ ((rd_T119 l0_0 x4_2).f1)) = true := decide_eq_true c58
                 clear c58
                 by_cases c59 : ((rd_T119 l0_0 x4_2).f1) < (x3_2.length : Int)
                 ·rw [if_pos c59] at H
                  have c59b0 : decide (((rd_T119 l0_0 x4_2).f1) < (x3_2.length : Int)) = true := decide_eq_true c59
                  clear c59
                  obtain ⟨y123, hy123⟩ : ∃ y_ : List Int, y_ = (x3_2.set (((rd_T119 l0_0 x4_2).f1) : Int).toNat (wrap64 ((rd x3_2 ((rd_T119 l0_0 x4_2).f1)) + x6_52))) := ⟨_, rfl⟩
                  replace H : (spec_HouseOk.l0 kj52 y123 (wrap64 (x4_2 + 1)) l0_0 l0_1 a0_2) = some r := by first | (rw [hy123]; with_reducible exact H) | (have H2_ := (Option.bind_some _ _).symm.trans H; rw [hy123]; with_reducible exact H2_) | (have H2_ := (Option.bind_some _ _).symm.trans H; with_reducible exact H2_) | with_reducible exact H | (rw [hy123]; exact H) | exact H
                  have Ny123 := Aside0.mk hy123
                  clear hy123
                  have H' := Aside0.mk H
                  clear H
                  have hnb61 := NB113_107.out
                  have hnc61 := NB107_113.out
                  obtain ⟨hcz62_0, hcz62_1, hcz62_2, hcz62_3, hcz62_4, hcz62_5, hcz62_6⟩ := spec_HouseOk.cl7 BK113.out
                  obtain ⟨hfz62_0, hfz62_1, hfz62_2, hfz62_3, hfz62_4, hfz62_5, hfz62_6⟩ := spec_HouseOk.fz7 BK113.out
                  try go_wp2
                  have n0_ := Aside0.mk (Kd.R_drew HO_3.out)
                  have n1_ := Aside0.mk (blk_drew BK107.out)
                  have n2_ := Aside0.mk (blk_drew BK113.out)
                  have n3_ := Aside0.mk (below_drew1 HB.out)
                  clear HO_3
                  clear BK107
                  clear BK113
                  clear HB
                  have HO_3 := n0_
                  have BK107 := n1_
                  have BK113 := n2_
                  have HB := n3_
                  clear n0_ n1_ n2_ n3_
                  obtain ⟨Ao64, co64, eo64⟩ := Kd.R_slice HO_3.out
                  (first | subst eo64 | (injection eo64 with f1_ f2_ f3_; have f4_ := f1_.symm; have f5_ := f3_.symm; clear f1_ f2_ f3_; subst f4_; subst f5_))
                  have p122 : 0 ≤ (((rd_T119 l0_0 x4_2).f1) : Int) := of_decide_eq_true (by first | (with_reducible assumption) | assumption)
                  have q122 : ((rd_T119 l0_0 x4_2).f1) < (x3_2.length : Int) := of_decide_eq_true (by first | (with_reducible assumption) | assumption)
                  obtain ⟨ad122, e122, hx122_0⟩ := Kd.at_int (Kd.R_reads' HO_3.out).2.2 ((rd_T119 l0_0 x4_2).f1) p122 q122
                  cases e122
                  replace p122 := eq_true p122
                  replace q122 := eq_true q122
                  have p60 : 0 ≤ (((rd_T119 l0_0 x4_2).f1) : Int) := of_decide_eq_true (by first | (with_reducible assumption) | assumption)
                  have q60 : (((rd_T119 l0_0 x4_2).f1) : Int) < ((x3_2.length : Int) : Int) := of_decide_eq_true (by first | (with_reducible assumption) | assumption)
                  obtain ⟨go60, co60, eo60, gb60, gl60, cl60, HG60⟩ := Kd.R_form HO_3.out (by omega)
                  (first | cases eo60 | (injection eo60 with ea_ en_ ec_; (first | subst ea_ | (injection ea_ with ea_; subst ea_)); subst ec_; clear en_))
                  have GB60 := Aside0.mk gb60
                  have GG60 := Aside0.mk HG60
                  clear gb60 gl60 HG60
                  (first | simp only [add_plain] at hx122_0 | skip)
                  obtain ⟨hx60_0, hf60_0⟩ := Kd.R_celln 0 HO_3.out (((rd_T119 l0_0 x4_2).f1) : Int) p60 q60
                  replace p60 := eq_true p60
                  replace q60 := eq_true q60
                  have HP65 := Kd.R_putn HO_3.out (((rd_T119 l0_0 x4_2).f1) : Int) (wrap64 ((rd x3_2 ((rd_T119 l0_0 x4_2).f1)) + x6_52))
                  rw [← Ny123.out] at HP65
                  have HQ65 := Aside0.mk HP65
                  clear HP65
                  refine start_ (n := 12) (S := fun w' => w'.cell? ⟨gb113, 0, none⟩ = some (.int .i64 ((rd_T119 l0_0 x4_2).f0)) ∧ w'.cell? ⟨gb113, 1, none⟩ = some (.int .i64 ((rd_T119 l0_0 x4_2).f1)) ∧ w'.cell? ⟨gb113, 2, none⟩ = some (.int .i64 ((rd_T119 l0_0 x4_2).f2)) ∧ w'.cell? ⟨gb113, 3, none⟩ = some (.int .i64 ((rd_T119 l0_0 x4_2).f3)) ∧ w'.cell? ⟨gb113, 4, none⟩ = some (.int .i64 ((rd_T119 l0_0 x4_2).f4)) ∧ w'.cell? ⟨gb113, 5, none⟩ = some (.int .i64 ((rd_T119 l0_0 x4_2).f5)) ∧ w'.cell? ⟨gb113, 6, none⟩ = some (.int .i64 ((rd_T119 l0_0 x4_2).f6)) ∧ w'.cell? ⟨go60, (((rd_T119 l0_0 x4_2).f1)).toNat, none⟩ = some (.int .i64 (rd x3_2 ((rd_T119 l0_0 x4_2).f1)))) (ds := [11]) spec_HouseOk.v48 (by kernel_rfl) rfl rfl ⟨(blk_cell BK113.out 0).trans rfl, (blk_cell BK113.out 1).trans rfl, (blk_cell BK113.out 2).trans rfl, (blk_cell BK113.out 3).trans rfl, (blk_cell BK113.out 4).trans rfl, (blk_cell BK113.out 5).trans rfl, (blk_cell BK113.out 6).trans rfl, hx122_0⟩ (fun hHeld => ?_); refine with_tabW spec_HouseOk.tab15 spec_HouseOk.bits15 (fun HT_ HW_ => ?_)
                  generalize wc.drew = w63 at HO_3 BK107 BK113 HB GG60 HQ65 hf60_0 hx122_0 hx60_0 hHeld ⊢
                  refine Sk.pq 0 99 spec_HouseOk.v49 HT_.out (h := ?_)
                  refine Sk.pq 1 100 spec_HouseOk.v50 HT_.out (h := ?_)
                  refine Sk.pq 3 102 spec_HouseOk.v51 HT_.out (h := ?_)
                  refine Sk.pq 4 103 spec_HouseOk.v52 HT_.out (h := ?_)
                  refine Sk.pq 8 107 spec_HouseOk.v53 HT_.out (h := ?_)
                  refine Sk.tk8 2 101 spec_HouseOk.v54 HT_.out HW_.out hHeld (h := ?_)
                  refine Sk.tk8 5 104 spec_HouseOk.v55 HT_.out HW_.out hHeld (h := ?_)
                  refine Sk.pq 6 105 spec_HouseOk.v56 HT_.out (h := ?_)
                  refine Sk.tk8 7 106 spec_HouseOk.v57 HT_.out HW_.out hHeld (h := ?_)
                  refine Sk.pq 9 108 spec_HouseOk.v58 HT_.out (h := ?_)
                  refine Sk.pq 10 109 spec_HouseOk.v59 HT_.out (h := ?_)
                  refine last_ (i := 11) (N := none) spec_HouseOk.v60 rfl rfl (one_of HT_.out (by kernel_rfl)) (by decide) (fun K hK => ?_)
                  refine skip_ (w1 := ?_) (by rfl) rfl ?_ ?_
                  rotate_left
                  ·go_simp
                   rfl
                  refine hK.out _ _ ?_
                  clear hK K
                  refine done_ (done_of HT_.out (by kernel_rfl)) ?_
                  try go_wp2
                  go_roundg kj52
                  case measure => have := HJ1.out; have := HK2.out; have := HJ18.out; have := HJ52.out; omega
                  case rel => exact ⟨(y123), (wrap64 (x4_2 + 1)), (by first | rfl | (simp; done) | (simp [*]; done)), H', ⟨by have := HJ1.out; have := HK2.out; have := HJ18.out; have := HJ52.out; omega⟩, ⟨by (with_reducible repeat (first | apply Kd.R_alloc | apply Kd.R_drewN | apply Kd.R_drew)); exact HQ65.out⟩, ⟨by (with_reducible repeat (first | refine blk_drewN ?_ _ | refine blk_drew ?_ | refine blk_alloc ?_ _)); refine blk_far ?_ (by have h_ := Kd.R_ne HO_3.out BK107.out (by decide); intro e_; exact h_ (by rw [e_]; rfl)) _; (with_reducible repeat (first | refine blk_drewN ?_ _ | refine blk_drew ?_ | refine blk_alloc ?_ _)); exact BK107.out⟩, ⟨by repeat (first | (with_reducible first | exact HB.out | apply below_alloc | apply pw_below_drewN | apply below_drew1 | refine below_set ?_ GB60.out | refine below_set ?_ GE107.out | refine below_set ?_ GE113.out) | exact HB.out)⟩⟩
                 ·rw [if_neg c59] at H
                  exact absurd H (by simp)
                ·rw [if_neg c58] at H
                 exact absurd H (by simp)
               ·rw [if_neg c57] at H
                have c57b0 : (((rd_T119 l0_0 x4_2).f6) == x6_52) = false := beq_eq_false_iff_ne.mpr c57
                have c57b1 : (((rd_T119 l0_0 x4_2).f6) != x6_52) = true := bne_iff_ne.mpr c57
                obtain rfl := Option.some.inj H
                have hnb66 := NB113_107.out
                have hnc66 := NB107_113.out
                obtain ⟨hcz67_0, hcz67_1, hcz67_2, hcz67_3, hcz67_4, hcz67_5, hcz67_6⟩ := spec_HouseOk.cl7 BK113.out
                obtain ⟨hfz67_0, hfz67_1, hfz67_2, hfz67_3, hfz67_4, hfz67_5, hfz67_6⟩ := spec_HouseOk.fz7 BK113.out
                go_wp2
                go_ret
                exact ⟨by first | rfl | (simp [errW_none, errW_some] <;> rfl) | (simp [*, errW_none, errW_some] <;> rfl), by repeat (first | (with_reducible first | exact HB.out | apply below_alloc | apply pw_below_drewN | apply below_drew1 | refine below_set ?_ GE107.out | refine below_set ?_ GE113.out) | exact HB.out)⟩
         ·rw [if_neg c17] at H
          exact absurd H (by simp)
        ·rw [if_neg c16] at H
         have c16b0 : decide (x4_2 < (l0_0.length : Int)) = false := decide_eq_false c16
         clear c16
         have H' := Aside0.mk H
         clear H
         obtain ⟨hcz68_0, hcz68_1, hcz68_2⟩ := spec_HouseOk.cl3 BK107.out
         obtain ⟨hfz68_0, hfz68_1, hfz68_2⟩ := spec_HouseOk.fz3 BK107.out
         go_wp2
         go_loopg [8] k2 (fun kq v8 w' => ∃ (x8_3 : Int), v8 = .int .i64 x8_3 ∧ Aside0 (spec_HouseOk.l1 kq x3_2 x8_3 l0_0 l0_1 a0_2 = some r) ∧ Aside0 (kq ≤ k2) ∧ Aside0 (Kd.R (Kd.int .i64) 3 w' w.heap.size (fun _ => True) v110 x3_2) ∧ Aside0 (w'.heap[gb107]? = some (.cells #[(.slice A0_0 l0_0.length c0_0), (.slice A0_1 l0_1.length c0_1), .int .i64 a0_2] 75 (0, 0))) ∧ Aside0 (Below w.heap.size w w'))
         case atStart => exact ⟨(0), (by first | rfl | (simp; done) | (simp [*]; done)), H', ⟨Nat.le_refl _⟩, ⟨by (with_reducible repeat (first | apply Kd.R_alloc | apply Kd.R_drewN | apply Kd.R_drew)); exact HO_3.out⟩, ⟨by (with_reducible repeat (first | refine blk_drewN ?_ _ | refine blk_drew ?_ | refine blk_alloc ?_ _)); exact BK107.out⟩, ⟨by repeat (first | (with_reducible first | exact HB.out | apply below_alloc | apply pw_below_drewN | apply below_drew1 | refine below_set ?_ GE107.out) | exact HB.out)⟩⟩
         case round =>
          clear H'
          (try clear c16); (try clear c16b0); (try clear hcz68_0); (try clear hcz68_1); (try clear hcz68_2); (try clear hfz68_0); (try clear hfz68_1); (try clear hfz68_2)
          obtain ⟨x8_3, rfl, HA, HK3, HO_3, BK107, HB⟩ := hrel
          cases gk with
          | zero => exact absurd HA.out (by simp [spec_HouseOk.l1])
          | succ k3 =>
           have H := HA.out
           clear HA
           simp only [spec_HouseOk.l1] at H
           by_cases c69 : x8_3 < (l0_1.length : Int)
           ·rw [if_pos c69] at H
            have c69b0 : decide (x8_3 < (l0_1.length : Int)) = true := decide_eq_true c69
            clear c69
            by_cases c70 : 0 ≤ x8_3
            ·rw [if_pos c70] at H
             have c70b0 : decide (0 ≤ x8_3) = true := decide_eq_true c70
             clear c70
             have HC71 := Aside0.mk H
             clear H
             obtain ⟨hcz72_0, hcz72_1, hcz72_2⟩ := spec_HouseOk.cl3 BK107.out
             obtain ⟨hfz72_0, hfz72_1, hfz72_2⟩ := spec_HouseOk.fz3 BK107.out
             have p124 : 0 ≤ (x8_3 : Int) := of_decide_eq_true (by first | (with_reducible assumption) | assumption)
             have q124 : x8_3 < (l0_1.length : Int) := of_decide_eq_true (by first | (with_reducible assumption) | assumption)
             obtain ⟨ad124, e124, hx124_0, hx124_1, hx124_2⟩ := at_T122 HR0_1.out x8_3 p124 q124
             cases e124
             replace hx124_0 := (HB.out.cell (World.block_lt_of_cell? w _ hx124_0)).trans hx124_0
             replace hx124_1 := (HB.out.cell (World.block_lt_of_cell? w _ hx124_1)).trans hx124_1
             replace hx124_2 := (HB.out.cell (World.block_lt_of_cell? w _ hx124_2)).trans hx124_2
             replace p124 := eq_true p124
             replace q124 := eq_true q124
             go_upto_region 20 with (first | ((with_reducible refine gate_dst (N := 9) rfl ?_); (try (refine gate_guard (by rfl) ?_; dsimp only)); refine box_event ?hg (N := 9) ?hd (cs := #[.int .i64 0, .int .i64 0, .int .i64 0]) (t := 122) ?hr ?_; (case hd => rfl); (case hg => rfl); (case hr => first | (go_simp; done) | (go_simp; rfl)); intro gb125 hg w73 hbox hb; have n0_ := Aside0.mk (Kd.R_below (by (with_reducible repeat (first | apply Kd.R_alloc | apply Kd.R_drewN | apply Kd.R_drew)); exact HO_3.out) hb); have n1_ := Aside0.mk (blk_below (g := gb107) (by (with_reducible repeat (first | refine blk_drewN ?_ _ | refine blk_drew ?_ | refine blk_alloc ?_ _)); exact BK107.out) hb); have n2_ := Aside0.mk (below_step (by repeat (first | (with_reducible first | exact HB.out | apply below_alloc | apply pw_below_drewN | apply below_drew1 | refine below_set ?_ GE107.out) | exact HB.out)) hb); have n3_ := Aside0.mk (hbox); have n4_ := Aside0.mk ((by rw [hg]; exact (below_size (by repeat (first | (with_reducible first | exact HB.out | apply below_alloc | apply pw_below_drewN | apply below_drew1 | refine below_set ?_ GE107.out) | exact HB.out))) : w.heap.size ≤ gb125)); have n5_ := Aside0.mk ((by rw [hg]; exact (below_size (by repeat (first | (with_reducible first | exact HB.out | apply below_alloc | apply pw_below_drewN | apply below_drew1 | refine below_set ?_ GE107.out) | exact HB.out))) : w.heap.size ≤ gb125)); have n6_ := Aside0.mk ((by rw [hg]; exact Nat.ne_of_lt (blk_lt (g := gb107) (by (with_reducible repeat (first | refine blk_drewN ?_ _ | refine blk_drew ?_ | refine blk_alloc ?_ _)); exact BK107.out)) : gb107 ≠ gb125)); have n7_ := Aside0.mk ((by rw [hg]; exact Nat.ne_of_gt (blk_lt (g := gb107) (by (with_reducible repeat (first | refine blk_drewN ?_ _ | refine blk_drew ?_ | refine blk_alloc ?_ _)); exact BK107.out)) : gb125 ≠ gb107)); clear HO_3; clear BK107; clear HB; have HO_3 := n0_; have BK107 := n1_; have HB := n2_; have BK125 := n3_; have GW125 := n4_; have GE125 := n5_; have NB107_125 := n6_; have NB125_107 := n7_; clear n0_ n1_ n2_ n3_ n4_ n5_ n6_ n7_; clear hb hbox hg; have hnb74 := NB125_107.out; have hnc74 := NB107_125.out; obtain ⟨hcz75_0, hcz75_1, hcz75_2⟩ := spec_HouseOk.cl3 BK125.out; obtain ⟨hfz75_0, hfz75_1, hfz75_2⟩ := spec_HouseOk.fz3 BK125.out))
             (try simp only [Act.put, List.setIfInBounds_toArray, List.set_cons_zero, List.set_cons_succ])
             go_cut [148] (fun v148 wc => ∃ (kq : Nat) (x148_70 : Bool), v148 = .bool x148_70 ∧ Aside0 (spec_HouseOk.j5 kq x3_2 x8_3 x148_70 l0_0 l0_1 a0_2 = some r) ∧ Aside0 (kq ≤ k3) ∧ Aside0 (Kd.R (Kd.int .i64) 3 wc w.heap.size (fun _ => True) v110 x3_2) ∧ Aside0 (wc.heap[gb107]? = some (.cells #[(.slice A0_0 l0_0.length c0_0), (.slice (some ad124) l0_1.length c0_1), .int .i64 a0_2] 75 (0, 0))) ∧ Aside0 (wc.heap[gb125]? = some (.cells #[.int .i64 ((rd_T122 l0_1 x8_3).f0), .int .i64 ((rd_T122 l0_1 x8_3).f1), .int .i64 ((rd_T122 l0_1 x8_3).f2)] 122 (0, 0))) ∧ Aside0 (Below w.heap.size w wc))
             case first =>
              have H := HC71.out
              clear HC71
              replace H := Option.bind_eq_some_iff.mp H
              obtain ⟨t126, A760, H⟩ := H
              (try dsimp only at H)
              have A76 := Aside0.mk A760
              clear A760
              by_cases c77 : t126 = true
              ·subst c77
               rw [if_pos rfl] at H
               replace H := Option.bind_eq_some_iff.mp H
               obtain ⟨t127, A780, H⟩ := H
               (try dsimp only at H)
               have A78 := Aside0.mk A780
               clear A780
               by_cases c79 : t127 = true
               ·subst c79
                rw [if_pos rfl] at H
                replace H := Option.bind_eq_some_iff.mp H
                obtain ⟨t128, A800, H⟩ := H
                (try dsimp only at H)
                have A80 := Aside0.mk A800
                clear A800
                by_cases c81 : t128 = true
                ·subst c81
                 rw [if_pos rfl] at H
                 by_cases c82 : x8_3 < (x3_2.length : Int)
                 ·rw [if_pos c82] at H
                  have c82b0 : decide (x8_3 < (x3_2.length : Int)) = true := decide_eq_true c82
                  clear c82
                  (first | rw [c82b0] | (simp only [i64_w, i32_w]; rw [c82b0]) | skip)
                  have H' := Aside0.mk H
                  clear H
                  try go_wp2
                  have n0_ : Aside0 (Kd.R (Kd.int .i64) 3 (((w73.setCell ⟨gb125, 0, none⟩ (.int .i64 ((rd_T122 l0_1 x8_3).f0))).setCell ⟨gb125, 1, none⟩ (.int .i64 ((rd_T122 l0_1 x8_3).f1))).setCell ⟨gb125, 2, none⟩ (.int .i64 ((rd_T122 l0_1 x8_3).f2))) w.heap.size (fun _ => True) v110 x3_2) := ⟨by (with_reducible repeat (first | apply Kd.R_alloc | apply Kd.R_drewN | apply Kd.R_drew)); exact Kd.R_mono (Kd.R_far (p := ⟨gb125, 2, none⟩) (Kd.R_far (p := ⟨gb125, 1, none⟩) (Kd.R_far (p := ⟨gb125, 0, none⟩) (Kd.R_types HO_3.out BK125.out (by decide)) (fun _ hk => hk.2) (.int .i64 ((rd_T122 l0_1 x8_3).f0))) (fun _ hk => hk.2) (.int .i64 ((rd_T122 l0_1 x8_3).f1))) (fun _ hk => hk.2) (.int .i64 ((rd_T122 l0_1 x8_3).f2))) (fun _ hk => trivial)⟩
                  have n1_ : Aside0 ((((w73.setCell ⟨gb125, 0, none⟩ (.int .i64 ((rd_T122 l0_1 x8_3).f0))).setCell ⟨gb125, 1, none⟩ (.int .i64 ((rd_T122 l0_1 x8_3).f1))).setCell ⟨gb125, 2, none⟩ (.int .i64 ((rd_T122 l0_1 x8_3).f2))).heap[gb107]? = some (.cells #[.slice A0_0 l0_0.length c0_0, .slice (some ad124) l0_1.length c0_1, .int .i64 a0_2] 75 (0, 0))) := ⟨by (with_reducible repeat (first | refine blk_drewN ?_ _ | refine blk_drew ?_ | refine blk_alloc ?_ _)); refine blk_far ?_ NB107_125.out _; (with_reducible repeat (first | refine blk_drewN ?_ _ | refine blk_drew ?_ | refine blk_alloc ?_ _)); refine blk_far ?_ NB107_125.out _; (with_reducible repeat (first | refine blk_drewN ?_ _ | refine blk_drew ?_ | refine blk_alloc ?_ _)); refine blk_far ?_ NB107_125.out _; (with_reducible repeat (first | refine blk_drewN ?_ _ | refine blk_drew ?_ | refine blk_alloc ?_ _)); exact BK107.out⟩
                  have n2_ : Aside0 ((((w73.setCell ⟨gb125, 0, none⟩ (.int .i64 ((rd_T122 l0_1 x8_3).f0))).setCell ⟨gb125, 1, none⟩ (.int .i64 ((rd_T122 l0_1 x8_3).f1))).setCell ⟨gb125, 2, none⟩ (.int .i64 ((rd_T122 l0_1 x8_3).f2))).heap[gb125]? = some (.cells #[.int .i64 ((rd_T122 l0_1 x8_3).f0), .int .i64 ((rd_T122 l0_1 x8_3).f1), .int .i64 ((rd_T122 l0_1 x8_3).f2)] 122 (0, 0))) := ⟨by (with_reducible repeat (first | refine blk_drewN ?_ _ | refine blk_drew ?_ | refine blk_alloc ?_ _)); refine blk_put (cs := #[.int .i64 ((rd_T122 l0_1 x8_3).f0), .int .i64 ((rd_T122 l0_1 x8_3).f1), .int .i64 0]) ?_ 2 _ rfl; (with_reducible repeat (first | refine blk_drewN ?_ _ | refine blk_drew ?_ | refine blk_alloc ?_ _)); refine blk_put (cs := #[.int .i64 ((rd_T122 l0_1 x8_3).f0), .int .i64 0, .int .i64 0]) ?_ 1 _ rfl; (with_reducible repeat (first | refine blk_drewN ?_ _ | refine blk_drew ?_ | refine blk_alloc ?_ _)); refine blk_put (cs := #[.int .i64 0, .int .i64 0, .int .i64 0]) ?_ 0 _ rfl; (with_reducible repeat (first | refine blk_drewN ?_ _ | refine blk_drew ?_ | refine blk_alloc ?_ _)); exact BK125.out⟩
                  have n3_ : Aside0 (Below w.heap.size w (((w73.setCell ⟨gb125, 0, none⟩ (.int .i64 ((rd_T122 l0_1 x8_3).f0))).setCell ⟨gb125, 1, none⟩ (.int .i64 ((rd_T122 l0_1 x8_3).f1))).setCell ⟨gb125, 2, none⟩ (.int .i64 ((rd_T122 l0_1 x8_3).f2)))) := ⟨by repeat (first | (with_reducible first | exact HB.out | apply below_alloc | apply pw_below_drewN | apply below_drew1 | refine below_set ?_ GE107.out | refine below_set ?_ GE125.out) | exact HB.out)⟩
                  (try clear HO_3)
                  (try clear BK107)
                  (try clear BK125)
                  (try clear HB)
                  generalize (((w73.setCell ⟨gb125, 0, none⟩ (.int .i64 ((rd_T122 l0_1 x8_3).f0))).setCell ⟨gb125, 1, none⟩ (.int .i64 ((rd_T122 l0_1 x8_3).f1))).setCell ⟨gb125, 2, none⟩ (.int .i64 ((rd_T122 l0_1 x8_3).f2))) = w83 at n0_ n1_ n2_ n3_ ⊢
                  try replace n0_ := Aside0.mk (by first | exact Kd.R_drewN n0_.out nd | exact blk_drewN n0_.out nd | exact pw_below_drewN n0_.out nd)
                  try replace n1_ := Aside0.mk (by first | exact Kd.R_drewN n1_.out nd | exact blk_drewN n1_.out nd | exact pw_below_drewN n1_.out nd)
                  try replace n2_ := Aside0.mk (by first | exact Kd.R_drewN n2_.out nd | exact blk_drewN n2_.out nd | exact pw_below_drewN n2_.out nd)
                  try replace n3_ := Aside0.mk (by first | exact Kd.R_drewN n3_.out nd | exact blk_drewN n3_.out nd | exact pw_below_drewN n3_.out nd)
                  try generalize w83.drewN nd = w83 at n0_ n1_ n2_ n3_ ⊢
                  have HO_3 := n0_
                  have BK107 := n1_
                  have BK125 := n2_
                  have HB := n3_
                  clear n0_ n1_ n2_ n3_
                  have n0_ := Aside0.mk (Kd.R_drew HO_3.out)
                  have n1_ := Aside0.mk (blk_drew BK107.out)
                  have n2_ := Aside0.mk (blk_drew BK125.out)
                  have n3_ := Aside0.mk (below_drew1 HB.out)
                  clear HO_3
                  clear BK107
                  clear BK125
                  clear HB
                  have HO_3 := n0_
                  have BK107 := n1_
                  have BK125 := n2_
                  have HB := n3_
                  clear n0_ n1_ n2_ n3_
                  obtain ⟨Az129, cz129, ez129⟩ := Kd.R_slice HO_3.out
                  (first | subst ez129 | (injection ez129 with f1_ f2_ f3_; have f4_ := f1_.symm; have f5_ := f3_.symm; clear f1_ f2_ f3_; subst f4_; subst f5_))
                  have p129 : 0 ≤ (x8_3 : Int) := of_decide_eq_true (by first | (with_reducible assumption) | assumption)
                  have q129 : x8_3 < (x3_2.length : Int) := of_decide_eq_true (by first | (with_reducible assumption) | assumption)
                  obtain ⟨ad129, e129, hx129_0⟩ := Kd.at_int (Kd.R_reads' HO_3.out).2.2 x8_3 p129 q129
                  cases e129
                  replace p129 := eq_true p129
                  replace q129 := eq_true q129
                  refine start_ (n := 27) (S := fun w' => w'.cell? ⟨gb125, 0, none⟩ = some (.int .i64 ((rd_T122 l0_1 x8_3).f0)) ∧ w'.cell? ⟨gb125, 1, none⟩ = some (.int .i64 ((rd_T122 l0_1 x8_3).f1)) ∧ w'.cell? ⟨gb125, 2, none⟩ = some (.int .i64 ((rd_T122 l0_1 x8_3).f2)) ∧ w'.cell? (ad129.add (x8_3).toNat) = some (.int .i64 (rd x3_2 x8_3))) (ds := []) spec_HouseOk.v61 (by kernel_rfl) rfl rfl ⟨(blk_cell BK125.out 0).trans rfl, (blk_cell BK125.out 1).trans rfl, (blk_cell BK125.out 2).trans rfl, hx129_0⟩ (fun hHeld => ?_); refine with_tabW spec_HouseOk.tab20 spec_HouseOk.bits20 (fun HT_ HW_ => ?_)
                  generalize w83.drew = w84 at HO_3 BK107 BK125 HB hx129_0 hHeld ⊢
                  refine Sk.pq 0 122 spec_HouseOk.v62 HT_.out (h := ?_)
                  refine Sk.tk4 1 123 spec_HouseOk.v63 HT_.out HW_.out hHeld (h := ?_)
                  refine one_ (i := 2) (N := some 124) spec_HouseOk.v64 rfl rfl (one_of HT_.out (by kernel_rfl)) (by decide) (fun K hK => ?_)
                  refine goes_ Try.func51 (by kernel_rfl) rfl #[.int .i64 ((rd_T122 l0_1 x8_3).f0), .int .i64 0, .int .i64 1000000000000000] (by rfl) rfl rfl (by (try simp only [List.map_toArray, List.map_cons, List.map_nil]); first | done | rfl | (simp only [List.length_drop, List.length_take]; rfl)) ?_
                  with_reducible refine (spec_l1In.calls ((rd_T122 l0_1 x8_3).f0) 0 1000000000000000 true _ A76.out).mono ?_
                  rintro e w' ⟨rfl, ⟨nd, rfl⟩⟩
                  refine ⟨_, rfl, ?_⟩
                  refine hK.out _ _ ⟨(blk_cell BK125.out 0).trans rfl, (blk_cell BK125.out 1).trans rfl, (blk_cell BK125.out 2).trans rfl, hHeld.2.2.2⟩ (fun hHeld => ?_)
                  clear hK K
                  refine Sk.nm 124 (h := ?_)
                  refine Sk.pq 3 125 spec_HouseOk.v65 HT_.out (h := ?_)
                  refine Sk.pq 4 126 spec_HouseOk.v66 HT_.out (h := ?_)
                  refine Sk.pq 5 127 spec_HouseOk.v67 HT_.out (h := ?_)
                  refine Sk.tk4 6 128 spec_HouseOk.v68 HT_.out HW_.out hHeld (h := ?_)
                  refine one_ (i := 7) (N := some 129) spec_HouseOk.v69 rfl rfl (one_of HT_.out (by kernel_rfl)) (by decide) (fun K hK => ?_)
                  refine goes_ Try.func51 (by kernel_rfl) rfl #[.int .i64 ((rd_T122 l0_1 x8_3).f1), .int .i64 0, .int .i64 1000000000000000] (by rfl) rfl rfl (by (try simp only [List.map_toArray, List.map_cons, List.map_nil]); first | done | rfl | (simp only [List.length_drop, List.length_take]; rfl)) ?_
                  with_reducible refine (spec_l1In.calls ((rd_T122 l0_1 x8_3).f1) 0 1000000000000000 true _ A78.out).mono ?_
                  rintro e w' ⟨rfl, ⟨nd, rfl⟩⟩
                  refine ⟨_, rfl, ?_⟩
                  refine hK.out _ _ ⟨(blk_cell BK125.out 0).trans rfl, (blk_cell BK125.out 1).trans rfl, (blk_cell BK125.out 2).trans rfl, hHeld.2.2.2⟩ (fun hHeld => ?_)
                  clear hK K
                  refine Sk.nm 129 (h := ?_)
                  refine Sk.pq 8 130 spec_HouseOk.v70 HT_.out (h := ?_)
                  refine Sk.pq 9 131 spec_HouseOk.v71 HT_.out (h := ?_)
                  refine Sk.pq 10 132 spec_HouseOk.v72 HT_.out (h := ?_)
                  refine Sk.pq 11 133 spec_HouseOk.v73 HT_.out (h := ?_)
                  refine Sk.pq 13 135 spec_HouseOk.v74 HT_.out (h := ?_)
                  refine Sk.tk4 12 134 spec_HouseOk.v75 HT_.out HW_.out hHeld (h := ?_)
                  refine Sk.tk4 14 136 spec_HouseOk.v76 HT_.out HW_.out hHeld (h := ?_)
                  refine one_ (i := 15) (N := some 137) spec_HouseOk.v77 rfl rfl (one_of HT_.out (by kernel_rfl)) (by decide) (fun K hK => ?_)
                  refine goes_ Try.func51 (by kernel_rfl) rfl #[.int .i64 ((rd_T122 l0_1 x8_3).f2), .int .i64 0, .int .i64 ((rd_T122 l0_1 x8_3).f1)] (by rfl) rfl rfl (by (try simp only [List.map_toArray, List.map_cons, List.map_nil]); first | done | rfl | (simp only [List.length_drop, List.length_take]; rfl)) ?_
                  with_reducible refine (spec_l1In.calls ((rd_T122 l0_1 x8_3).f2) 0 ((rd_T122 l0_1 x8_3).f1) true _ A80.out).mono ?_
                  rintro e w' ⟨rfl, ⟨nd, rfl⟩⟩
                  refine ⟨_, rfl, ?_⟩
                  obtain ⟨Ao85, co85, eo85⟩ := Kd.R_slice HO_3.out
                  (first | subst eo85 | (injection eo85 with f1_ f2_ f3_; have f4_ := f1_.symm; have f5_ := f3_.symm; clear f1_ f2_ f3_; subst f4_; subst f5_))
                  refine hK.out _ _ ⟨(blk_cell BK125.out 0).trans rfl, (blk_cell BK125.out 1).trans rfl, (blk_cell BK125.out 2).trans rfl, hHeld.2.2.2⟩ (fun hHeld => ?_)
                  clear hK K
                  refine Sk.nm 137 (h := ?_)
                  refine Sk.pq 16 138 spec_HouseOk.v78 HT_.out (h := ?_)
                  refine Sk.pq 17 139 spec_HouseOk.v79 HT_.out (h := ?_)
                  refine Sk.pq 18 140 spec_HouseOk.v80 HT_.out (h := ?_)
                  refine Sk.pq 19 141 spec_HouseOk.v81 HT_.out (h := ?_)
                  refine Sk.pq 21 143 spec_HouseOk.v82 HT_.out (h := ?_)
                  refine Sk.pq 22 144 spec_HouseOk.v83 HT_.out (h := ?_)
                  refine Sk.pq 23 145 spec_HouseOk.v84 HT_.out (h := ?_)
                  refine Sk.tk4 20 142 spec_HouseOk.v85 HT_.out HW_.out hHeld (h := ?_)
                  refine Sk.tk4 24 146 spec_HouseOk.v86 HT_.out HW_.out hHeld (h := ?_)
                  refine Sk.pq 25 147 spec_HouseOk.v87 HT_.out (h := ?_)
                  refine Sk.pq 26 148 spec_HouseOk.v88 HT_.out (h := ?_)
                  refine done_ (done_of HT_.out (by kernel_rfl)) ?_
                  try go_wp2
                  go_meet
                  case rel => exact ⟨_, ((((rd_T122 l0_1 x8_3).f2) != (rd x3_2 x8_3))), (by first | rfl | (simp; done) | (simp [*]; done)), H', ⟨by have := HJ1.out; have := HK2.out; have := HK3.out; first | omega | exact Nat.le_refl _⟩, ⟨by (with_reducible repeat (first | apply Kd.R_alloc | apply Kd.R_drewN | apply Kd.R_drew)); exact HO_3.out⟩, ⟨by (with_reducible repeat (first | refine blk_drewN ?_ _ | refine blk_drew ?_ | refine blk_alloc ?_ _)); exact BK107.out⟩, ⟨by (with_reducible repeat (first | refine blk_drewN ?_ _ | refine blk_drew ?_ | refine blk_alloc ?_ _)); exact BK125.out⟩, ⟨by repeat (first | (with_reducible first | exact HB.out | apply below_alloc | apply pw_below_drewN | apply below_drew1 | refine below_set ?_ GE107.out | refine below_set ?_ GE125.out) | exact HB.out)⟩⟩
                 ·rw [if_neg c82] at H
                  exact absurd H (by simp)
                ·replace c81 := Bool.eq_false_iff.mpr c81
                 subst c81
                 rw [if_neg (show ¬ (false = true) by decide)] at H
                 have H' := Aside0.mk H
                 clear H
                 try go_wp2
                 have n0_ : Aside0 (Kd.R (Kd.int .i64) 3 (((w73.setCell ⟨gb125, 0, none⟩ (.int .i64 ((rd_T122 l0_1 x8_3).f0))).setCell ⟨gb125, 1, none⟩ (.int .i64 ((rd_T122 l0_1 x8_3).f1))).setCell ⟨gb125, 2, none⟩ (.int .i64 ((rd_T122 l0_1 x8_3).f2))) w.heap.size (fun _ => True) v110 x3_2) := ⟨by (with_reducible repeat (first | apply Kd.R_alloc | apply Kd.R_drewN | apply Kd.R_drew)); exact Kd.R_mono (Kd.R_far (p := ⟨gb125, 2, none⟩) (Kd.R_far (p := ⟨gb125, 1, none⟩) (Kd.R_far (p := ⟨gb125, 0, none⟩) (Kd.R_types HO_3.out BK125.out (by decide)) (fun _ hk => hk.2) (.int .i64 ((rd_T122 l0_1 x8_3).f0))) (fun _ hk => hk.2) (.int .i64 ((rd_T122 l0_1 x8_3).f1))) (fun _ hk => hk.2) (.int .i64 ((rd_T122 l0_1 x8_3).f2))) (fun _ hk => trivial)⟩
                 have n1_ : Aside0 ((((w73.setCell ⟨gb125, 0, none⟩ (.int .i64 ((rd_T122 l0_1 x8_3).f0))).setCell ⟨gb125, 1, none⟩ (.int .i64 ((rd_T122 l0_1 x8_3).f1))).setCell ⟨gb125, 2, none⟩ (.int .i64 ((rd_T122 l0_1 x8_3).f2))).heap[gb107]? = some (.cells #[.slice A0_0 l0_0.length c0_0, .slice (some ad124) l0_1.length c0_1, .int .i64 a0_2] 75 (0, 0))) := ⟨by (with_reducible repeat (first | refine blk_drewN ?_ _ | refine blk_drew ?_ | refine blk_alloc ?_ _)); refine blk_far ?_ NB107_125.out _; (with_reducible repeat (first | refine blk_drewN ?_ _ | refine blk_drew ?_ | refine blk_alloc ?_ _)); refine blk_far ?_ NB107_125.out _; (with_reducible repeat (first | refine blk_drewN ?_ _ | refine blk_drew ?_ | refine blk_alloc ?_ _)); refine blk_far ?_ NB107_125.out _; (with_reducible repeat (first | refine blk_drewN ?_ _ | refine blk_drew ?_ | refine blk_alloc ?_ _)); exact BK107.out⟩
                 have n2_ : Aside0 ((((w73.setCell ⟨gb125, 0, none⟩ (.int .i64 ((rd_T122 l0_1 x8_3).f0))).setCell ⟨gb125, 1, none⟩ (.int .i64 ((rd_T122 l0_1 x8_3).f1))).setCell ⟨gb125, 2, none⟩ (.int .i64 ((rd_T122 l0_1 x8_3).f2))).heap[gb125]? = some (.cells #[.int .i64 ((rd_T122 l0_1 x8_3).f0), .int .i64 ((rd_T122 l0_1 x8_3).f1), .int .i64 ((rd_T122 l0_1 x8_3).f2)] 122 (0, 0))) := ⟨by (with_reducible repeat (first | refine blk_drewN ?_ _ | refine blk_drew ?_ | refine blk_alloc ?_ _)); refine blk_put (cs := #[.int .i64 ((rd_T122 l0_1 x8_3).f0), .int .i64 ((rd_T122 l0_1 x8_3).f1), .int .i64 0]) ?_ 2 _ rfl; (with_reducible repeat (first | refine blk_drewN ?_ _ | refine blk_drew ?_ | refine blk_alloc ?_ _)); refine blk_put (cs := #[.int .i64 ((rd_T122 l0_1 x8_3).f0), .int .i64 0, .int .i64 0]) ?_ 1 _ rfl; (with_reducible repeat (first | refine blk_drewN ?_ _ | refine blk_drew ?_ | refine blk_alloc ?_ _)); refine blk_put (cs := #[.int .i64 0, .int .i64 0, .int .i64 0]) ?_ 0 _ rfl; (with_reducible repeat (first | refine blk_drewN ?_ _ | refine blk_drew ?_ | refine blk_alloc ?_ _)); exact BK125.out⟩
                 have n3_ : Aside0 (Below w.heap.size w (((w73.setCell ⟨gb125, 0, none⟩ (.int .i64 ((rd_T122 l0_1 x8_3).f0))).setCell ⟨gb125, 1, none⟩ (.int .i64 ((rd_T122 l0_1 x8_3).f1))).setCell ⟨gb125, 2, none⟩ (.int .i64 ((rd_T122 l0_1 x8_3).f2)))) := ⟨by repeat (first | (with_reducible first | exact HB.out | apply below_alloc | apply pw_below_drewN | apply below_drew1 | refine below_set ?_ GE107.out | refine below_set ?_ GE125.out) | exact HB.out)⟩
                 (try clear HO_3)
                 (try clear BK107)
                 (try clear BK125)
                 (try clear HB)
                 generalize (((w73.setCell ⟨gb125, 0, none⟩ (.int .i64 ((rd_T122 l0_1 x8_3).f0))).setCell ⟨gb125, 1, none⟩ (.int .i64 ((rd_T122 l0_1 x8_3).f1))).setCell ⟨gb125, 2, none⟩ (.int .i64 ((rd_T122 l0_1 x8_3).f2))) = w86 at n0_ n1_ n2_ n3_ ⊢
                 try replace n0_ := Aside0.mk (by first | exact Kd.R_drewN n0_.out nd | exact blk_drewN n0_.out nd | exact pw_below_drewN n0_.out nd)
                 try replace n1_ := Aside0.mk (by first | exact Kd.R_drewN n1_.out nd | exact blk_drewN n1_.out nd | exact pw_below_drewN n1_.out nd)
                 try replace n2_ := Aside0.mk (by first | exact Kd.R_drewN n2_.out nd | exact blk_drewN n2_.out nd | exact pw_below_drewN n2_.out nd)
                 try replace n3_ := Aside0.mk (by first | exact Kd.R_drewN n3_.out nd | exact blk_drewN n3_.out nd | exact pw_below_drewN n3_.out nd)
                 try generalize w86.drewN nd = w86 at n0_ n1_ n2_ n3_ ⊢
                 have HO_3 := n0_
                 have BK107 := n1_
                 have BK125 := n2_
                 have HB := n3_
                 clear n0_ n1_ n2_ n3_
                 have n0_ := Aside0.mk (Kd.R_drew HO_3.out)
                 have n1_ := Aside0.mk (blk_drew BK107.out)
                 have n2_ := Aside0.mk (blk_drew BK125.out)
                 have n3_ := Aside0.mk (below_drew1 HB.out)
                 clear HO_3
                 clear BK107
                 clear BK125
                 clear HB
                 have HO_3 := n0_
                 have BK107 := n1_
                 have BK125 := n2_
                 have HB := n3_
                 clear n0_ n1_ n2_ n3_
                 refine start_ (n := 27) (S := fun w' => w'.cell? ⟨gb125, 0, none⟩ = some (.int .i64 ((rd_T122 l0_1 x8_3).f0)) ∧ w'.cell? ⟨gb125, 1, none⟩ = some (.int .i64 ((rd_T122 l0_1 x8_3).f1)) ∧ w'.cell? ⟨gb125, 2, none⟩ = some (.int .i64 ((rd_T122 l0_1 x8_3).f2))) (ds := []) spec_HouseOk.v61 (by kernel_rfl) rfl rfl ⟨(blk_cell BK125.out 0).trans rfl, (blk_cell BK125.out 1).trans rfl, (blk_cell BK125.out 2).trans rfl⟩ (fun hHeld => ?_); refine with_tabW spec_HouseOk.tab20 spec_HouseOk.bits20 (fun HT_ HW_ => ?_)
                 generalize w86.drew = w87 at HO_3 BK107 BK125 HB hHeld ⊢
                 refine Sk.pq 0 122 spec_HouseOk.v62 HT_.out (h := ?_)
                 refine Sk.tk3 1 123 spec_HouseOk.v63 HT_.out HW_.out hHeld (h := ?_)
                 refine one_ (i := 2) (N := some 124) spec_HouseOk.v64 rfl rfl (one_of HT_.out (by kernel_rfl)) (by decide) (fun K hK => ?_)
                 refine goes_ Try.func51 (by kernel_rfl) rfl #[.int .i64 ((rd_T122 l0_1 x8_3).f0), .int .i64 0, .int .i64 1000000000000000] (by rfl) rfl rfl (by (try simp only [List.map_toArray, List.map_cons, List.map_nil]); first | done | rfl | (simp only [List.length_drop, List.length_take]; rfl)) ?_
                 with_reducible refine (spec_l1In.calls ((rd_T122 l0_1 x8_3).f0) 0 1000000000000000 true _ A76.out).mono ?_
                 rintro e w' ⟨rfl, ⟨nd, rfl⟩⟩
                 refine ⟨_, rfl, ?_⟩
                 refine hK.out _ _ ⟨(blk_cell BK125.out 0).trans rfl, (blk_cell BK125.out 1).trans rfl, (blk_cell BK125.out 2).trans rfl⟩ (fun hHeld => ?_)
                 clear hK K
                 refine Sk.nm 124 (h := ?_)
                 refine Sk.pq 3 125 spec_HouseOk.v65 HT_.out (h := ?_)
                 refine Sk.pq 4 126 spec_HouseOk.v66 HT_.out (h := ?_)
                 refine Sk.pq 5 127 spec_HouseOk.v67 HT_.out (h := ?_)
                 refine Sk.tk3 6 128 spec_HouseOk.v68 HT_.out HW_.out hHeld (h := ?_)
                 refine one_ (i := 7) (N := some 129) spec_HouseOk.v69 rfl rfl (one_of HT_.out (by kernel_rfl)) (by decide) (fun K hK => ?_)
                 refine goes_ Try.func51 (by kernel_rfl) rfl #[.int .i64 ((rd_T122 l0_1 x8_3).f1), .int .i64 0, .int .i64 1000000000000000] (by rfl) rfl rfl (by (try simp only [List.map_toArray, List.map_cons, List.map_nil]); first | done | rfl | (simp only [List.length_drop, List.length_take]; rfl)) ?_
                 with_reducible refine (spec_l1In.calls ((rd_T122 l0_1 x8_3).f1) 0 1000000000000000 true _ A78.out).mono ?_
                 rintro e w' ⟨rfl, ⟨nd, rfl⟩⟩
                 refine ⟨_, rfl, ?_⟩
                 refine hK.out _ _ ⟨(blk_cell BK125.out 0).trans rfl, (blk_cell BK125.out 1).trans rfl, (blk_cell BK125.out 2).trans rfl⟩ (fun hHeld => ?_)
                 clear hK K
                 refine Sk.nm 129 (h := ?_)
                 refine Sk.pq 8 130 spec_HouseOk.v70 HT_.out (h := ?_)
                 refine Sk.pq 9 131 spec_HouseOk.v71 HT_.out (h := ?_)
                 refine Sk.pq 10 132 spec_HouseOk.v72 HT_.out (h := ?_)
                 refine Sk.pq 11 133 spec_HouseOk.v73 HT_.out (h := ?_)
                 refine Sk.pq 13 135 spec_HouseOk.v74 HT_.out (h := ?_)
                 refine Sk.tk3 12 134 spec_HouseOk.v75 HT_.out HW_.out hHeld (h := ?_)
                 refine Sk.tk3 14 136 spec_HouseOk.v76 HT_.out HW_.out hHeld (h := ?_)
                 refine one_ (i := 15) (N := some 137) spec_HouseOk.v77 rfl rfl (one_of HT_.out (by kernel_rfl)) (by decide) (fun K hK => ?_)
                 refine goes_ Try.func51 (by kernel_rfl) rfl #[.int .i64 ((rd_T122 l0_1 x8_3).f2), .int .i64 0, .int .i64 ((rd_T122 l0_1 x8_3).f1)] (by rfl) rfl rfl (by (try simp only [List.map_toArray, List.map_cons, List.map_nil]); first | done | rfl | (simp only [List.length_drop, List.length_take]; rfl)) ?_
                 with_reducible refine (spec_l1In.calls ((rd_T122 l0_1 x8_3).f2) 0 ((rd_T122 l0_1 x8_3).f1) false _ A80.out).mono ?_
                 rintro e w' ⟨rfl, ⟨nd, rfl⟩⟩
                 refine ⟨_, rfl, ?_⟩
                 refine hK.out _ _ ⟨(blk_cell BK125.out 0).trans rfl, (blk_cell BK125.out 1).trans rfl, (blk_cell BK125.out 2).trans rfl⟩ (fun hHeld => ?_)
                 clear hK K
                 refine Sk.nm 137 (h := ?_)
                 refine Sk.pq 16 138 spec_HouseOk.v78 HT_.out (h := ?_)
                 refine Sk.pq 17 139 spec_HouseOk.v79 HT_.out (h := ?_)
                 refine Sk.pq 18 140 spec_HouseOk.v80 HT_.out (h := ?_)
                 refine Sk.pu 19 141 spec_HouseOk.v81 HT_.out (h := ?_)
                 refine Sk.pu 20 142 spec_HouseOk.v89 HT_.out (h := ?_)
                 refine Sk.pu 21 143 spec_HouseOk.v90 HT_.out (h := ?_)
                 refine Sk.pu 22 144 spec_HouseOk.v91 HT_.out (h := ?_)
                 refine Sk.pu 23 145 spec_HouseOk.v85 HT_.out (h := ?_)
                 refine Sk.pu 24 146 spec_HouseOk.v86 HT_.out (h := ?_)
                 refine Sk.pu 25 147 spec_HouseOk.v87 HT_.out (h := ?_)
                 refine Sk.pq 26 148 spec_HouseOk.v88 HT_.out (h := ?_)
                 refine done_ (done_of HT_.out (by kernel_rfl)) ?_
                 try go_wp2
                 go_meet
                 case rel => exact ⟨_, (true), (by first | rfl | (simp; done) | (simp [*]; done)), H', ⟨by have := HJ1.out; have := HK2.out; have := HK3.out; first | omega | exact Nat.le_refl _⟩, ⟨by (with_reducible repeat (first | apply Kd.R_alloc | apply Kd.R_drewN | apply Kd.R_drew)); exact HO_3.out⟩, ⟨by (with_reducible repeat (first | refine blk_drewN ?_ _ | refine blk_drew ?_ | refine blk_alloc ?_ _)); exact BK107.out⟩, ⟨by (with_reducible repeat (first | refine blk_drewN ?_ _ | refine blk_drew ?_ | refine blk_alloc ?_ _)); exact BK125.out⟩, ⟨by repeat (first | (with_reducible first | exact HB.out | apply below_alloc | apply pw_below_drewN | apply below_drew1 | refine below_set ?_ GE107.out | refine below_set ?_ GE125.out) | exact HB.out)⟩⟩
               ·replace c79 := Bool.eq_false_iff.mpr c79
                subst c79
                rw [if_neg (show ¬ (false = true) by decide)] at H
                have H' := Aside0.mk H
                clear H
                try go_wp2
                have n0_ : Aside0 (Kd.R (Kd.int .i64) 3 (((w73.setCell ⟨gb125, 0, none⟩ (.int .i64 ((rd_T122 l0_1 x8_3).f0))).setCell ⟨gb125, 1, none⟩ (.int .i64 ((rd_T122 l0_1 x8_3).f1))).setCell ⟨gb125, 2, none⟩ (.int .i64 ((rd_T122 l0_1 x8_3).f2))) w.heap.size (fun _ => True) v110 x3_2) := ⟨by (with_reducible repeat (first | apply Kd.R_alloc | apply Kd.R_drewN | apply Kd.R_drew)); exact Kd.R_mono (Kd.R_far (p := ⟨gb125, 2, none⟩) (Kd.R_far (p := ⟨gb125, 1, none⟩) (Kd.R_far (p := ⟨gb125, 0, none⟩) (Kd.R_types HO_3.out BK125.out (by decide)) (fun _ hk => hk.2) (.int .i64 ((rd_T122 l0_1 x8_3).f0))) (fun _ hk => hk.2) (.int .i64 ((rd_T122 l0_1 x8_3).f1))) (fun _ hk => hk.2) (.int .i64 ((rd_T122 l0_1 x8_3).f2))) (fun _ hk => trivial)⟩
                have n1_ : Aside0 ((((w73.setCell ⟨gb125, 0, none⟩ (.int .i64 ((rd_T122 l0_1 x8_3).f0))).setCell ⟨gb125, 1, none⟩ (.int .i64 ((rd_T122 l0_1 x8_3).f1))).setCell ⟨gb125, 2, none⟩ (.int .i64 ((rd_T122 l0_1 x8_3).f2))).heap[gb107]? = some (.cells #[.slice A0_0 l0_0.length c0_0, .slice (some ad124) l0_1.length c0_1, .int .i64 a0_2] 75 (0, 0))) := ⟨by (with_reducible repeat (first | refine blk_drewN ?_ _ | refine blk_drew ?_ | refine blk_alloc ?_ _)); refine blk_far ?_ NB107_125.out _; (with_reducible repeat (first | refine blk_drewN ?_ _ | refine blk_drew ?_ | refine blk_alloc ?_ _)); refine blk_far ?_ NB107_125.out _; (with_reducible repeat (first | refine blk_drewN ?_ _ | refine blk_drew ?_ | refine blk_alloc ?_ _)); refine blk_far ?_ NB107_125.out _; (with_reducible repeat (first | refine blk_drewN ?_ _ | refine blk_drew ?_ | refine blk_alloc ?_ _)); exact BK107.out⟩
                have n2_ : Aside0 ((((w73.setCell ⟨gb125, 0, none⟩ (.int .i64 ((rd_T122 l0_1 x8_3).f0))).setCell ⟨gb125, 1, none⟩ (.int .i64 ((rd_T122 l0_1 x8_3).f1))).setCell ⟨gb125, 2, none⟩ (.int .i64 ((rd_T122 l0_1 x8_3).f2))).heap[gb125]? = some (.cells #[.int .i64 ((rd_T122 l0_1 x8_3).f0), .int .i64 ((rd_T122 l0_1 x8_3).f1), .int .i64 ((rd_T122 l0_1 x8_3).f2)] 122 (0, 0))) := ⟨by (with_reducible repeat (first | refine blk_drewN ?_ _ | refine blk_drew ?_ | refine blk_alloc ?_ _)); refine blk_put (cs := #[.int .i64 ((rd_T122 l0_1 x8_3).f0), .int .i64 ((rd_T122 l0_1 x8_3).f1), .int .i64 0]) ?_ 2 _ rfl; (with_reducible repeat (first | refine blk_drewN ?_ _ | refine blk_drew ?_ | refine blk_alloc ?_ _)); refine blk_put (cs := #[.int .i64 ((rd_T122 l0_1 x8_3).f0), .int .i64 0, .int .i64 0]) ?_ 1 _ rfl; (with_reducible repeat (first | refine blk_drewN ?_ _ | refine blk_drew ?_ | refine blk_alloc ?_ _)); refine blk_put (cs := #[.int .i64 0, .int .i64 0, .int .i64 0]) ?_ 0 _ rfl; (with_reducible repeat (first | refine blk_drewN ?_ _ | refine blk_drew ?_ | refine blk_alloc ?_ _)); exact BK125.out⟩
                have n3_ : Aside0 (Below w.heap.size w (((w73.setCell ⟨gb125, 0, none⟩ (.int .i64 ((rd_T122 l0_1 x8_3).f0))).setCell ⟨gb125, 1, none⟩ (.int .i64 ((rd_T122 l0_1 x8_3).f1))).setCell ⟨gb125, 2, none⟩ (.int .i64 ((rd_T122 l0_1 x8_3).f2)))) := ⟨by repeat (first | (with_reducible first | exact HB.out | apply below_alloc | apply pw_below_drewN | apply below_drew1 | refine below_set ?_ GE107.out | refine below_set ?_ GE125.out) | exact HB.out)⟩
                (try clear HO_3)
                (try clear BK107)
                (try clear BK125)
                (try clear HB)
                generalize (((w73.setCell ⟨gb125, 0, none⟩ (.int .i64 ((rd_T122 l0_1 x8_3).f0))).setCell ⟨gb125, 1, none⟩ (.int .i64 ((rd_T122 l0_1 x8_3).f1))).setCell ⟨gb125, 2, none⟩ (.int .i64 ((rd_T122 l0_1 x8_3).f2))) = w88 at n0_ n1_ n2_ n3_ ⊢
                try replace n0_ := Aside0.mk (by first | exact Kd.R_drewN n0_.out nd | exact blk_drewN n0_.out nd | exact pw_below_drewN n0_.out nd)
                try replace n1_ := Aside0.mk (by first | exact Kd.R_drewN n1_.out nd | exact blk_drewN n1_.out nd | exact pw_below_drewN n1_.out nd)
                try replace n2_ := Aside0.mk (by first | exact Kd.R_drewN n2_.out nd | exact blk_drewN n2_.out nd | exact pw_below_drewN n2_.out nd)
                try replace n3_ := Aside0.mk (by first | exact Kd.R_drewN n3_.out nd | exact blk_drewN n3_.out nd | exact pw_below_drewN n3_.out nd)
                try generalize w88.drewN nd = w88 at n0_ n1_ n2_ n3_ ⊢
                have HO_3 := n0_
                have BK107 := n1_
                have BK125 := n2_
                have HB := n3_
                clear n0_ n1_ n2_ n3_
                have n0_ := Aside0.mk (Kd.R_drew HO_3.out)
                have n1_ := Aside0.mk (blk_drew BK107.out)
                have n2_ := Aside0.mk (blk_drew BK125.out)
                have n3_ := Aside0.mk (below_drew1 HB.out)
                clear HO_3
                clear BK107
                clear BK125
                clear HB
                have HO_3 := n0_
                have BK107 := n1_
                have BK125 := n2_
                have HB := n3_
                clear n0_ n1_ n2_ n3_
                refine start_ (n := 27) (S := fun w' => w'.cell? ⟨gb125, 0, none⟩ = some (.int .i64 ((rd_T122 l0_1 x8_3).f0)) ∧ w'.cell? ⟨gb125, 1, none⟩ = some (.int .i64 ((rd_T122 l0_1 x8_3).f1)) ∧ w'.cell? ⟨gb125, 2, none⟩ = some (.int .i64 ((rd_T122 l0_1 x8_3).f2))) (ds := []) spec_HouseOk.v61 (by kernel_rfl) rfl rfl ⟨(blk_cell BK125.out 0).trans rfl, (blk_cell BK125.out 1).trans rfl, (blk_cell BK125.out 2).trans rfl⟩ (fun hHeld => ?_); refine with_tabW spec_HouseOk.tab20 spec_HouseOk.bits20 (fun HT_ HW_ => ?_)
                generalize w88.drew = w89 at HO_3 BK107 BK125 HB hHeld ⊢
                refine Sk.pq 0 122 spec_HouseOk.v62 HT_.out (h := ?_)
                refine Sk.tk3 1 123 spec_HouseOk.v63 HT_.out HW_.out hHeld (h := ?_)
                refine one_ (i := 2) (N := some 124) spec_HouseOk.v64 rfl rfl (one_of HT_.out (by kernel_rfl)) (by decide) (fun K hK => ?_)
                refine goes_ Try.func51 (by kernel_rfl) rfl #[.int .i64 ((rd_T122 l0_1 x8_3).f0), .int .i64 0, .int .i64 1000000000000000] (by rfl) rfl rfl (by (try simp only [List.map_toArray, List.map_cons, List.map_nil]); first | done | rfl | (simp only [List.length_drop, List.length_take]; rfl)) ?_
                with_reducible refine (spec_l1In.calls ((rd_T122 l0_1 x8_3).f0) 0 1000000000000000 true _ A76.out).mono ?_
                rintro e w' ⟨rfl, ⟨nd, rfl⟩⟩
                refine ⟨_, rfl, ?_⟩
                refine hK.out _ _ ⟨(blk_cell BK125.out 0).trans rfl, (blk_cell BK125.out 1).trans rfl, (blk_cell BK125.out 2).trans rfl⟩ (fun hHeld => ?_)
                clear hK K
                refine Sk.nm 124 (h := ?_)
                refine Sk.pq 3 125 spec_HouseOk.v65 HT_.out (h := ?_)
                refine Sk.pq 4 126 spec_HouseOk.v66 HT_.out (h := ?_)
                refine Sk.pq 5 127 spec_HouseOk.v67 HT_.out (h := ?_)
                refine Sk.tk3 6 128 spec_HouseOk.v68 HT_.out HW_.out hHeld (h := ?_)
                refine one_ (i := 7) (N := some 129) spec_HouseOk.v69 rfl rfl (one_of HT_.out (by kernel_rfl)) (by decide) (fun K hK => ?_)
                refine goes_ Try.func51 (by kernel_rfl) rfl #[.int .i64 ((rd_T122 l0_1 x8_3).f1), .int .i64 0, .int .i64 1000000000000000] (by rfl) rfl rfl (by (try simp only [List.map_toArray, List.map_cons, List.map_nil]); first | done | rfl | (simp only [List.length_drop, List.length_take]; rfl)) ?_
                with_reducible refine (spec_l1In.calls ((rd_T122 l0_1 x8_3).f1) 0 1000000000000000 false _ A78.out).mono ?_
                rintro e w' ⟨rfl, ⟨nd, rfl⟩⟩
                refine ⟨_, rfl, ?_⟩
                refine hK.out _ _ ⟨(blk_cell BK125.out 0).trans rfl, (blk_cell BK125.out 1).trans rfl, (blk_cell BK125.out 2).trans rfl⟩ (fun hHeld => ?_)
                clear hK K
                refine Sk.nm 129 (h := ?_)
                refine Sk.pq 8 130 spec_HouseOk.v70 HT_.out (h := ?_)
                refine Sk.pq 9 131 spec_HouseOk.v71 HT_.out (h := ?_)
                refine Sk.pq 10 132 spec_HouseOk.v72 HT_.out (h := ?_)
                refine Sk.pu 11 133 spec_HouseOk.v73 HT_.out (h := ?_)
                refine Sk.pu 12 134 spec_HouseOk.v92 HT_.out (h := ?_)
                refine Sk.pu 13 135 spec_HouseOk.v75 HT_.out (h := ?_)
                refine Sk.pu 14 136 spec_HouseOk.v76 HT_.out (h := ?_)
                refine Sk.pu 15 137 spec_HouseOk.v77 HT_.out (h := ?_)
                refine Sk.pu 16 138 spec_HouseOk.v78 HT_.out (h := ?_)
                refine Sk.pq 17 139 spec_HouseOk.v79 HT_.out (h := ?_)
                refine Sk.pq 18 140 spec_HouseOk.v80 HT_.out (h := ?_)
                refine Sk.pu 19 141 spec_HouseOk.v81 HT_.out (h := ?_)
                refine Sk.pu 20 142 spec_HouseOk.v89 HT_.out (h := ?_)
                refine Sk.pu 21 143 spec_HouseOk.v90 HT_.out (h := ?_)
                refine Sk.pu 22 144 spec_HouseOk.v91 HT_.out (h := ?_)
                refine Sk.pu 23 145 spec_HouseOk.v85 HT_.out (h := ?_)
                refine Sk.pu 24 146 spec_HouseOk.v86 HT_.out (h := ?_)
                refine Sk.pu 25 147 spec_HouseOk.v87 HT_.out (h := ?_)
                refine Sk.pq 26 148 spec_HouseOk.v88 HT_.out (h := ?_)
                refine done_ (done_of HT_.out (by kernel_rfl)) ?_
                try go_wp2
                go_meet
                case rel => exact ⟨_, (true), (by first | rfl | (simp; done) | (simp [*]; done)), H', ⟨by have := HJ1.out; have := HK2.out; have := HK3.out; first | omega | exact Nat.le_refl _⟩, ⟨by (with_reducible repeat (first | apply Kd.R_alloc | apply Kd.R_drewN | apply Kd.R_drew)); exact HO_3.out⟩, ⟨by (with_reducible repeat (first | refine blk_drewN ?_ _ | refine blk_drew ?_ | refine blk_alloc ?_ _)); exact BK107.out⟩, ⟨by (with_reducible repeat (first | refine blk_drewN ?_ _ | refine blk_drew ?_ | refine blk_alloc ?_ _)); exact BK125.out⟩, ⟨by repeat (first | (with_reducible first | exact HB.out | apply below_alloc | apply pw_below_drewN | apply below_drew1 | refine below_set ?_ GE107.out | refine below_set ?_ GE125.out) | exact HB.out)⟩⟩
              ·replace c77 := Bool.eq_false_iff.mpr c77
               subst c77
               rw [if_neg (show ¬ (false = true) by decide)] at H
               have H' := Aside0.mk H
               clear H
               try go_wp2
               have n0_ : Aside0 (Kd.R (Kd.int .i64) 3 (((w73.setCell ⟨gb125, 0, none⟩ (.int .i64 ((rd_T122 l0_1 x8_3).f0))).setCell ⟨gb125, 1, none⟩ (.int .i64 ((rd_T122 l0_1 x8_3).f1))).setCell ⟨gb125, 2, none⟩ (.int .i64 ((rd_T122 l0_1 x8_3).f2))) w.heap.size (fun _ => True) v110 x3_2) := ⟨by (with_reducible repeat (first | apply Kd.R_alloc | apply Kd.R_drewN | apply Kd.R_drew)); exact Kd.R_mono (Kd.R_far (p := ⟨gb125, 2, none⟩) (Kd.R_far (p := ⟨gb125, 1, none⟩) (Kd.R_far (p := ⟨gb125, 0, none⟩) (Kd.R_types HO_3.out BK125.out (by decide)) (fun _ hk => hk.2) (.int .i64 ((rd_T122 l0_1 x8_3).f0))) (fun _ hk => hk.2) (.int .i64 ((rd_T122 l0_1 x8_3).f1))) (fun _ hk => hk.2) (.int .i64 ((rd_T122 l0_1 x8_3).f2))) (fun _ hk => trivial)⟩
               have n1_ : Aside0 ((((w73.setCell ⟨gb125, 0, none⟩ (.int .i64 ((rd_T122 l0_1 x8_3).f0))).setCell ⟨gb125, 1, none⟩ (.int .i64 ((rd_T122 l0_1 x8_3).f1))).setCell ⟨gb125, 2, none⟩ (.int .i64 ((rd_T122 l0_1 x8_3).f2))).heap[gb107]? = some (.cells #[.slice A0_0 l0_0.length c0_0, .slice (some ad124) l0_1.length c0_1, .int .i64 a0_2] 75 (0, 0))) := ⟨by (with_reducible repeat (first | refine blk_drewN ?_ _ | refine blk_drew ?_ | refine blk_alloc ?_ _)); refine blk_far ?_ NB107_125.out _; (with_reducible repeat (first | refine blk_drewN ?_ _ | refine blk_drew ?_ | refine blk_alloc ?_ _)); refine blk_far ?_ NB107_125.out _; (with_reducible repeat (first | refine blk_drewN ?_ _ | refine blk_drew ?_ | refine blk_alloc ?_ _)); refine blk_far ?_ NB107_125.out _; (with_reducible repeat (first | refine blk_drewN ?_ _ | refine blk_drew ?_ | refine blk_alloc ?_ _)); exact BK107.out⟩
               have n2_ : Aside0 ((((w73.setCell ⟨gb125, 0, none⟩ (.int .i64 ((rd_T122 l0_1 x8_3).f0))).setCell ⟨gb125, 1, none⟩ (.int .i64 ((rd_T122 l0_1 x8_3).f1))).setCell ⟨gb125, 2, none⟩ (.int .i64 ((rd_T122 l0_1 x8_3).f2))).heap[gb125]? = some (.cells #[.int .i64 ((rd_T122 l0_1 x8_3).f0), .int .i64 ((rd_T122 l0_1 x8_3).f1), .int .i64 ((rd_T122 l0_1 x8_3).f2)] 122 (0, 0))) := ⟨by (with_reducible repeat (first | refine blk_drewN ?_ _ | refine blk_drew ?_ | refine blk_alloc ?_ _)); refine blk_put (cs := #[.int .i64 ((rd_T122 l0_1 x8_3).f0), .int .i64 ((rd_T122 l0_1 x8_3).f1), .int .i64 0]) ?_ 2 _ rfl; (with_reducible repeat (first | refine blk_drewN ?_ _ | refine blk_drew ?_ | refine blk_alloc ?_ _)); refine blk_put (cs := #[.int .i64 ((rd_T122 l0_1 x8_3).f0), .int .i64 0, .int .i64 0]) ?_ 1 _ rfl; (with_reducible repeat (first | refine blk_drewN ?_ _ | refine blk_drew ?_ | refine blk_alloc ?_ _)); refine blk_put (cs := #[.int .i64 0, .int .i64 0, .int .i64 0]) ?_ 0 _ rfl; (with_reducible repeat (first | refine blk_drewN ?_ _ | refine blk_drew ?_ | refine blk_alloc ?_ _)); exact BK125.out⟩
               have n3_ : Aside0 (Below w.heap.size w (((w73.setCell ⟨gb125, 0, none⟩ (.int .i64 ((rd_T122 l0_1 x8_3).f0))).setCell ⟨gb125, 1, none⟩ (.int .i64 ((rd_T122 l0_1 x8_3).f1))).setCell ⟨gb125, 2, none⟩ (.int .i64 ((rd_T122 l0_1 x8_3).f2)))) := ⟨by repeat (first | (with_reducible first | exact HB.out | apply below_alloc | apply pw_below_drewN | apply below_drew1 | refine below_set ?_ GE107.out | refine below_set ?_ GE125.out) | exact HB.out)⟩
               (try clear HO_3)
               (try clear BK107)
               (try clear BK125)
               (try clear HB)
               generalize (((w73.setCell ⟨gb125, 0, none⟩ (.int .i64 ((rd_T122 l0_1 x8_3).f0))).setCell ⟨gb125, 1, none⟩ (.int .i64 ((rd_T122 l0_1 x8_3).f1))).setCell ⟨gb125, 2, none⟩ (.int .i64 ((rd_T122 l0_1 x8_3).f2))) = w90 at n0_ n1_ n2_ n3_ ⊢
               try replace n0_ := Aside0.mk (by first | exact Kd.R_drewN n0_.out nd | exact blk_drewN n0_.out nd | exact pw_below_drewN n0_.out nd)
               try replace n1_ := Aside0.mk (by first | exact Kd.R_drewN n1_.out nd | exact blk_drewN n1_.out nd | exact pw_below_drewN n1_.out nd)
               try replace n2_ := Aside0.mk (by first | exact Kd.R_drewN n2_.out nd | exact blk_drewN n2_.out nd | exact pw_below_drewN n2_.out nd)
               try replace n3_ := Aside0.mk (by first | exact Kd.R_drewN n3_.out nd | exact blk_drewN n3_.out nd | exact pw_below_drewN n3_.out nd)
               try generalize w90.drewN nd = w90 at n0_ n1_ n2_ n3_ ⊢
               have HO_3 := n0_
               have BK107 := n1_
               have BK125 := n2_
               have HB := n3_
               clear n0_ n1_ n2_ n3_
               have n0_ := Aside0.mk (Kd.R_drew HO_3.out)
               have n1_ := Aside0.mk (blk_drew BK107.out)
               have n2_ := Aside0.mk (blk_drew BK125.out)
               have n3_ := Aside0.mk (below_drew1 HB.out)
               clear HO_3
               clear BK107
               clear BK125
               clear HB
               have HO_3 := n0_
               have BK107 := n1_
               have BK125 := n2_
               have HB := n3_
               clear n0_ n1_ n2_ n3_
               refine start_ (n := 27) (S := fun w' => w'.cell? ⟨gb125, 0, none⟩ = some (.int .i64 ((rd_T122 l0_1 x8_3).f0)) ∧ w'.cell? ⟨gb125, 1, none⟩ = some (.int .i64 ((rd_T122 l0_1 x8_3).f1)) ∧ w'.cell? ⟨gb125, 2, none⟩ = some (.int .i64 ((rd_T122 l0_1 x8_3).f2))) (ds := []) spec_HouseOk.v61 (by kernel_rfl) rfl rfl ⟨(blk_cell BK125.out 0).trans rfl, (blk_cell BK125.out 1).trans rfl, (blk_cell BK125.out 2).trans rfl⟩ (fun hHeld => ?_); refine with_tabW spec_HouseOk.tab20 spec_HouseOk.bits20 (fun HT_ HW_ => ?_)
               generalize w90.drew = w91 at HO_3 BK107 BK125 HB hHeld ⊢
               refine Sk.pq 0 122 spec_HouseOk.v62 HT_.out (h := ?_)
               refine Sk.tk3 1 123 spec_HouseOk.v63 HT_.out HW_.out hHeld (h := ?_)
               refine one_ (i := 2) (N := some 124) spec_HouseOk.v64 rfl rfl (one_of HT_.out (by kernel_rfl)) (by decide) (fun K hK => ?_)
               refine goes_ Try.func51 (by kernel_rfl) rfl #[.int .i64 ((rd_T122 l0_1 x8_3).f0), .int .i64 0, .int .i64 1000000000000000] (by rfl) rfl rfl (by (try simp only [List.map_toArray, List.map_cons, List.map_nil]); first | done | rfl | (simp only [List.length_drop, List.length_take]; rfl)) ?_
               with_reducible refine (spec_l1In.calls ((rd_T122 l0_1 x8_3).f0) 0 1000000000000000 false _ A76.out).mono ?_
               rintro e w' ⟨rfl, ⟨nd, rfl⟩⟩
               refine ⟨_, rfl, ?_⟩
               refine hK.out _ _ ⟨(blk_cell BK125.out 0).trans rfl, (blk_cell BK125.out 1).trans rfl, (blk_cell BK125.out 2).trans rfl⟩ (fun hHeld => ?_)
               clear hK K
               refine Sk.nm 124 (h := ?_)
               refine Sk.pq 3 125 spec_HouseOk.v65 HT_.out (h := ?_)
               refine Sk.pq 4 126 spec_HouseOk.v66 HT_.out (h := ?_)
               refine Sk.pu 5 127 spec_HouseOk.v67 HT_.out (h := ?_)
               refine Sk.pu 6 128 spec_HouseOk.v68 HT_.out (h := ?_)
               refine Sk.pu 7 129 spec_HouseOk.v69 HT_.out (h := ?_)
               refine Sk.pu 8 130 spec_HouseOk.v70 HT_.out (h := ?_)
               refine Sk.pq 9 131 spec_HouseOk.v71 HT_.out (h := ?_)
               refine Sk.pq 10 132 spec_HouseOk.v72 HT_.out (h := ?_)
               refine Sk.pu 11 133 spec_HouseOk.v73 HT_.out (h := ?_)
               refine Sk.pu 12 134 spec_HouseOk.v92 HT_.out (h := ?_)
               refine Sk.pu 13 135 spec_HouseOk.v75 HT_.out (h := ?_)
               refine Sk.pu 14 136 spec_HouseOk.v76 HT_.out (h := ?_)
               refine Sk.pu 15 137 spec_HouseOk.v77 HT_.out (h := ?_)
               refine Sk.pu 16 138 spec_HouseOk.v78 HT_.out (h := ?_)
               refine Sk.pq 17 139 spec_HouseOk.v79 HT_.out (h := ?_)
               refine Sk.pq 18 140 spec_HouseOk.v80 HT_.out (h := ?_)
               refine Sk.pu 19 141 spec_HouseOk.v81 HT_.out (h := ?_)
               refine Sk.pu 20 142 spec_HouseOk.v89 HT_.out (h := ?_)
               refine Sk.pu 21 143 spec_HouseOk.v90 HT_.out (h := ?_)
               refine Sk.pu 22 144 spec_HouseOk.v91 HT_.out (h := ?_)
               refine Sk.pu 23 145 spec_HouseOk.v85 HT_.out (h := ?_)
               refine Sk.pu 24 146 spec_HouseOk.v86 HT_.out (h := ?_)
               refine Sk.pu 25 147 spec_HouseOk.v87 HT_.out (h := ?_)
               refine Sk.pq 26 148 spec_HouseOk.v88 HT_.out (h := ?_)
               refine done_ (done_of HT_.out (by kernel_rfl)) ?_
               try go_wp2
               go_meet
               case rel => exact ⟨_, (true), (by first | rfl | (simp; done) | (simp [*]; done)), H', ⟨by have := HJ1.out; have := HK2.out; have := HK3.out; first | omega | exact Nat.le_refl _⟩, ⟨by (with_reducible repeat (first | apply Kd.R_alloc | apply Kd.R_drewN | apply Kd.R_drew)); exact HO_3.out⟩, ⟨by (with_reducible repeat (first | refine blk_drewN ?_ _ | refine blk_drew ?_ | refine blk_alloc ?_ _)); exact BK107.out⟩, ⟨by (with_reducible repeat (first | refine blk_drewN ?_ _ | refine blk_drew ?_ | refine blk_alloc ?_ _)); exact BK125.out⟩, ⟨by repeat (first | (with_reducible first | exact HB.out | apply below_alloc | apply pw_below_drewN | apply below_drew1 | refine below_set ?_ GE107.out | refine below_set ?_ GE125.out) | exact HB.out)⟩⟩
             case rest =>
              clear HC71
              obtain ⟨kq, x148_70, rfl, HA, HJ70, HO_3, BK107, BK125, HB⟩ := hcut
              cases kq with
              | zero => exact absurd HA.out (by simp [spec_HouseOk.j5])
              | succ kj70 =>
               have H := HA.out
               clear HA
               simp only [spec_HouseOk.j5] at H
               by_cases c92 : x148_70 = true
               ·subst c92
                rw [if_pos rfl] at H
                obtain rfl := Option.some.inj H
                go_wp2
                go_ret
                exact ⟨by first | rfl | (simp [errW_none, errW_some] <;> rfl) | (simp [*, errW_none, errW_some] <;> rfl), by repeat (first | (with_reducible first | exact HB.out | apply below_alloc | apply pw_below_drewN | apply below_drew1 | refine below_set ?_ GE107.out | refine below_set ?_ GE125.out) | exact HB.out)⟩
               ·replace c92 := Bool.eq_false_iff.mpr c92
                subst c92
                rw [if_neg (show ¬ (false = true) by decide)] at H
                have H' := Aside0.mk H
                clear H
                go_wp2
                go_roundg kj70
                case measure => have := HJ1.out; have := HK2.out; have := HK3.out; have := HJ70.out; omega
                case rel => exact ⟨(wrap64 (x8_3 + 1)), (by first | rfl | (simp; done) | (simp [*]; done)), H', ⟨by have := HJ1.out; have := HK2.out; have := HK3.out; have := HJ70.out; omega⟩, ⟨by (with_reducible repeat (first | apply Kd.R_alloc | apply Kd.R_drewN | apply Kd.R_drew)); exact HO_3.out⟩, ⟨by (with_reducible repeat (first | refine blk_drewN ?_ _ | refine blk_drew ?_ | refine blk_alloc ?_ _)); exact BK107.out⟩, ⟨by repeat (first | (with_reducible first | exact HB.out | apply below_alloc | apply pw_below_drewN | apply below_drew1 | refine below_set ?_ GE107.out | refine below_set ?_ GE125.out) | exact HB.out)⟩⟩
            ·rw [if_neg c70] at H
             exact absurd H (by simp)
           ·rw [if_neg c69] at H
            have c69b0 : decide (x8_3 < (l0_1.length : Int)) = false := decide_eq_false c69
            clear c69
            obtain rfl := Option.some.inj H
            obtain ⟨hcz93_0, hcz93_1, hcz93_2⟩ := spec_HouseOk.cl3 BK107.out
            obtain ⟨hfz93_0, hfz93_1, hfz93_2⟩ := spec_HouseOk.fz3 BK107.out
            go_wp2
            go_ret
            exact ⟨by first | rfl | (simp [errW_none, errW_some] <;> rfl) | (simp [*, errW_none, errW_some] <;> rfl), by repeat (first | (with_reducible first | exact HB.out | apply below_alloc | apply pw_below_drewN | apply below_drew1 | refine below_set ?_ GE107.out) | exact HB.out)⟩
     ·rw [if_neg c12] at H
      exact absurd H (by simp)
    ·rw [if_neg c11] at H
     exact absurd H (by simp)

end Go.Proofs.Ytfeaabdighopbaa.PD
