/- What Go's functions that the laws reach come to: laid by a program of this session over the print's words. -/
import Derived.Test.YtfeaabdighopbaaPDx0
import Derived.Test.YtfeaabdighopbaaPDx3
import Derived.Test.YtfeaabdighopbaaPDx4
import Derived.Test.YtfeaabdighopbaaSteps
namespace Go.Proofs.Ytfeaabdighopbaa.PD
open Go.RowKit Go.Proofs.YtfeaabdighopbaaW.PrintWords Go.Proofs.YtfeaabdighopbaaW.PrintLast Go.Proofs.YtfeaabdighopbaaW.PrintMore Go.Proofs.Ytfeaabdighopbaa
attribute [local go_sem] max2_int min2_int max_two min_two max_three min_three max_four min_four   -- for this text's walks alone
set_option linter.unusedVariables false
set_option linter.unusedSimpArgs false

/-! ### impl_HouseOk: function 42 -/
mutual
def impl_HouseOk.j0 : Nat → Bool → List (S119) → List (S122) → Int → Option (Bool)
  | 0, _, _, _, _ => none
  | k + 1, x24, x174000, x174001, x174002 => if x24 = true then (some false) else (if 0 ≤ (x174001.length : Int) then (if ((x174001.length : Int) : Int).toNat ≤ 35184372088832 then (impl_HouseOk.l0 k (List.replicate ((x174001.length : Int) : Int).toNat 0) x174000 (x174000.length : Int) 0 x174000 x174001 x174002) else (none)) else (none))
def impl_HouseOk.l0 : Nat → List Int → List (S119) → Int → Int → List (S119) → List (S122) → Int → Option (Bool)
  | 0, _, _, _, _, _, _, _ => none
  | k + 1, x3, x30, x31, x32, x174000, x174001, x174002 => if x32 < x31 then (if 0 ≤ x32 then (if x32 < (x30.length : Int) then ((impl_idRight.f ((rd_T119 x30 x32).f0)).bind fun t180 => (if t180 = true then (if x32 > 0 then (if 0 ≤ (wrap64 (x32 - 1)) then (if (wrap64 (x32 - 1)) < (x174000.length : Int) then (if ((rd_T119 x174000 (wrap64 (x32 - 1))).f0) ≥ ((rd_T119 x30 x32).f0) then (impl_HouseOk.j2 k x3 x30 x31 x32 true x174000 x174001 x174002 ((rd_T119 x30 x32).f0) ((rd_T119 x30 x32).f1) ((rd_T119 x30 x32).f2) ((rd_T119 x30 x32).f3) ((rd_T119 x30 x32).f4) ((rd_T119 x30 x32).f5) ((rd_T119 x30 x32).f6)) else ((impl_in.f ((rd_T119 x30 x32).f1) 0 (wrap64 ((x174001.length : Int) - 1))).bind fun t182 => (if t182 = true then ((impl_lotRight.f ((rd_T119 x30 x32).f2) ((rd_T119 x30 x32).f3) ((rd_T119 x30 x32).f4)).bind fun t183 => (if t183 = true then ((impl_in.f ((rd_T119 x30 x32).f5) 1 5).bind fun t184 => (impl_HouseOk.j2 k x3 x30 x31 x32 (!t184) x174000 x174001 x174002 ((rd_T119 x30 x32).f0) ((rd_T119 x30 x32).f1) ((rd_T119 x30 x32).f2) ((rd_T119 x30 x32).f3) ((rd_T119 x30 x32).f4) ((rd_T119 x30 x32).f5) ((rd_T119 x30 x32).f6))) else (impl_HouseOk.j2 k x3 x30 x31 x32 true x174000 x174001 x174002 ((rd_T119 x30 x32).f0) ((rd_T119 x30 x32).f1) ((rd_T119 x30 x32).f2) ((rd_T119 x30 x32).f3) ((rd_T119 x30 x32).f4) ((rd_T119 x30 x32).f5) ((rd_T119 x30 x32).f6)))) else (impl_HouseOk.j2 k x3 x30 x31 x32 true x174000 x174001 x174002 ((rd_T119 x30 x32).f0) ((rd_T119 x30 x32).f1) ((rd_T119 x30 x32).f2) ((rd_T119 x30 x32).f3) ((rd_T119 x30 x32).f4) ((rd_T119 x30 x32).f5) ((rd_T119 x30 x32).f6))))) else (none)) else (none)) else ((impl_in.f ((rd_T119 x30 x32).f1) 0 (wrap64 ((x174001.length : Int) - 1))).bind fun t185 => (if t185 = true then ((impl_lotRight.f ((rd_T119 x30 x32).f2) ((rd_T119 x30 x32).f3) ((rd_T119 x30 x32).f4)).bind fun t186 => (if t186 = true then ((impl_in.f ((rd_T119 x30 x32).f5) 1 5).bind fun t187 => (impl_HouseOk.j2 k x3 x30 x31 x32 (!t187) x174000 x174001 x174002 ((rd_T119 x30 x32).f0) ((rd_T119 x30 x32).f1) ((rd_T119 x30 x32).f2) ((rd_T119 x30 x32).f3) ((rd_T119 x30 x32).f4) ((rd_T119 x30 x32).f5) ((rd_T119 x30 x32).f6))) else (impl_HouseOk.j2 k x3 x30 x31 x32 true x174000 x174001 x174002 ((rd_T119 x30 x32).f0) ((rd_T119 x30 x32).f1) ((rd_T119 x30 x32).f2) ((rd_T119 x30 x32).f3) ((rd_T119 x30 x32).f4) ((rd_T119 x30 x32).f5) ((rd_T119 x30 x32).f6)))) else (impl_HouseOk.j2 k x3 x30 x31 x32 true x174000 x174001 x174002 ((rd_T119 x30 x32).f0) ((rd_T119 x30 x32).f1) ((rd_T119 x30 x32).f2) ((rd_T119 x30 x32).f3) ((rd_T119 x30 x32).f4) ((rd_T119 x30 x32).f5) ((rd_T119 x30 x32).f6))))) else (impl_HouseOk.j2 k x3 x30 x31 x32 true x174000 x174001 x174002 ((rd_T119 x30 x32).f0) ((rd_T119 x30 x32).f1) ((rd_T119 x30 x32).f2) ((rd_T119 x30 x32).f3) ((rd_T119 x30 x32).f4) ((rd_T119 x30 x32).f5) ((rd_T119 x30 x32).f6)))) else (none)) else (none)) else (impl_HouseOk.l1 k x3 x174001 (x174001.length : Int) 0)
def impl_HouseOk.j2 : Nat → List Int → List (S119) → Int → Int → Bool → List (S119) → List (S122) → Int → Int → Int → Int → Int → Int → Int → Int → Option (Bool)
  | 0, _, _, _, _, _, _, _, _, _, _, _, _, _, _, _ => none
  | k + 1, x3, x30, x31, x32, x82, x174000, x174001, x174002, x180000, x180001, x180002, x180003, x180004, x180005, x180006 => if x82 = true then (some false) else (if x180005 = 3 then ((impl_Lot_duty.f x180000 x180001 x180002 x180003 x180004 x180005 x180006).bind fun t188 => (impl_HouseOk.j3 k x3 t188 x30 x31 x32 x174000 x174001 x174002 x180000 x180001 x180002 x180003 x180004 x180005 x180006)) else (impl_HouseOk.j3 k x3 0 x30 x31 x32 x174000 x174001 x174002 x180000 x180001 x180002 x180003 x180004 x180005 x180006))
def impl_HouseOk.j3 : Nat → List Int → Int → List (S119) → Int → Int → List (S119) → List (S122) → Int → Int → Int → Int → Int → Int → Int → Int → Option (Bool)
  | 0, _, _, _, _, _, _, _, _, _, _, _, _, _, _, _ => none
  | k + 1, x3, x6, x30, x31, x32, x174000, x174001, x174002, x180000, x180001, x180002, x180003, x180004, x180005, x180006 => if x180006 = x6 then (if 0 ≤ x180001 then (if x180001 < (x3.length : Int) then (impl_HouseOk.l0 k (x3.set (x180001 : Int).toNat (wrap64 ((rd x3 x180001) + x180006))) x30 x31 (wrap64 (x32 + 1)) x174000 x174001 x174002) else (none)) else (none)) else (some false)
def impl_HouseOk.l1 : Nat → List Int → List (S122) → Int → Int → Option (Bool)
  | 0, _, _, _, _ => none
  | k + 1, x3, x103, x104, x105 => if x105 < x104 then (if 0 ≤ x105 then (if x105 < (x103.length : Int) then ((impl_in.f ((rd_T122 x103 x105).f0) 0 1000000000000000).bind fun t193 => (if t193 = true then ((impl_in.f ((rd_T122 x103 x105).f1) 0 1000000000000000).bind fun t194 => (if t194 = true then ((impl_in.f ((rd_T122 x103 x105).f2) 0 ((rd_T122 x103 x105).f1)).bind fun t195 => (if t195 = true then (if x105 < (x3.length : Int) then (impl_HouseOk.j5 k x3 x103 x104 x105 (((rd_T122 x103 x105).f2) != (rd x3 x105))) else (none)) else (impl_HouseOk.j5 k x3 x103 x104 x105 true))) else (impl_HouseOk.j5 k x3 x103 x104 x105 true))) else (impl_HouseOk.j5 k x3 x103 x104 x105 true))) else (none)) else (none)) else (some true)
def impl_HouseOk.j5 : Nat → List Int → List (S122) → Int → Int → Bool → Option (Bool)
  | 0, _, _, _, _, _ => none
  | k + 1, x3, x103, x104, x105, x136 => if x136 = true then (some false) else (impl_HouseOk.l1 k x3 x103 x104 (wrap64 (x105 + 1)))
end
def impl_HouseOk.f (k : Nat) (l0_0 : List (S119)) (l0_1 : List (S122)) (a0_2 : Int) : Option (Bool) := if (l0_0.length : Int) > 40 then (impl_HouseOk.j0 k true l0_0 l0_1 a0_2) else (if (l0_1.length : Int) > 10 then (impl_HouseOk.j0 k true l0_0 l0_1 a0_2) else ((impl_in.f a0_2 0 1000000000000000).bind fun t174 => (impl_HouseOk.j0 k (!t174) l0_0 l0_1 a0_2)))
theorem impl_HouseOk.mono_l : ∀ k, (∀ y0 y1 y2 y3, LeO (impl_HouseOk.j0 k y0 y1 y2 y3) (impl_HouseOk.j0 (k + 1) y0 y1 y2 y3)) ∧ (∀ y0 y1 y2 y3 y4 y5 y6, LeO (impl_HouseOk.l0 k y0 y1 y2 y3 y4 y5 y6) (impl_HouseOk.l0 (k + 1) y0 y1 y2 y3 y4 y5 y6)) ∧ (∀ y0 y1 y2 y3 y4 y5 y6 y7 y8 y9 y10 y11 y12 y13 y14, LeO (impl_HouseOk.j2 k y0 y1 y2 y3 y4 y5 y6 y7 y8 y9 y10 y11 y12 y13 y14) (impl_HouseOk.j2 (k + 1) y0 y1 y2 y3 y4 y5 y6 y7 y8 y9 y10 y11 y12 y13 y14)) ∧ (∀ y0 y1 y2 y3 y4 y5 y6 y7 y8 y9 y10 y11 y12 y13 y14, LeO (impl_HouseOk.j3 k y0 y1 y2 y3 y4 y5 y6 y7 y8 y9 y10 y11 y12 y13 y14) (impl_HouseOk.j3 (k + 1) y0 y1 y2 y3 y4 y5 y6 y7 y8 y9 y10 y11 y12 y13 y14)) ∧ (∀ y0 y1 y2 y3, LeO (impl_HouseOk.l1 k y0 y1 y2 y3) (impl_HouseOk.l1 (k + 1) y0 y1 y2 y3)) ∧ (∀ y0 y1 y2 y3 y4, LeO (impl_HouseOk.j5 k y0 y1 y2 y3 y4) (impl_HouseOk.j5 (k + 1) y0 y1 y2 y3 y4))
  | 0 => ⟨fun _ _ _ _ r h => by simp [impl_HouseOk.j0] at h, fun _ _ _ _ _ _ _ r h => by simp [impl_HouseOk.l0] at h, fun _ _ _ _ _ _ _ _ _ _ _ _ _ _ _ r h => by simp [impl_HouseOk.j2] at h, fun _ _ _ _ _ _ _ _ _ _ _ _ _ _ _ r h => by simp [impl_HouseOk.j3] at h, fun _ _ _ _ r h => by simp [impl_HouseOk.l1] at h, fun _ _ _ _ _ r h => by simp [impl_HouseOk.j5] at h⟩
  | k + 1 => by
    obtain ⟨ih0, ih1, ih2, ih3, ih4, ih5⟩ := impl_HouseOk.mono_l k
    refine ⟨?_, ?_, ?_, ?_, ?_, ?_⟩
    · intro y0 y1 y2 y3
      unfold impl_HouseOk.j0
      repeat' first
      | (with_reducible exact ih0 _ _ _ _)
      | (with_reducible exact ih1 _ _ _ _ _ _ _)
      | (with_reducible exact ih2 _ _ _ _ _ _ _ _ _ _ _ _ _ _ _)
      | (with_reducible exact ih3 _ _ _ _ _ _ _ _ _ _ _ _ _ _ _)
      | (with_reducible exact ih4 _ _ _ _)
      | (with_reducible exact ih5 _ _ _ _ _)
      | (with_reducible exact LeO.refl _)
      | (with_reducible exact LeO.none _)
      | (with_reducible refine LeO.ite ?_ ?_)
      | (with_reducible refine LeO.bind ?_ (fun _ => ?_))
      | exact ih0 _ _ _ _
      | exact ih1 _ _ _ _ _ _ _
      | exact ih2 _ _ _ _ _ _ _ _ _ _ _ _ _ _ _
      | exact ih3 _ _ _ _ _ _ _ _ _ _ _ _ _ _ _
      | exact ih4 _ _ _ _
      | exact ih5 _ _ _ _ _
      | exact LeO.none _
      | refine LeO.ite ?_ ?_
      | refine LeO.bind ?_ (fun _ => ?_)
    · intro y0 y1 y2 y3 y4 y5 y6
      unfold impl_HouseOk.l0
      repeat' first
      | (with_reducible exact ih0 _ _ _ _)
      | (with_reducible exact ih1 _ _ _ _ _ _ _)
      | (with_reducible exact ih2 _ _ _ _ _ _ _ _ _ _ _ _ _ _ _)
      | (with_reducible exact ih3 _ _ _ _ _ _ _ _ _ _ _ _ _ _ _)
      | (with_reducible exact ih4 _ _ _ _)
      | (with_reducible exact ih5 _ _ _ _ _)
      | (with_reducible exact LeO.refl _)
      | (with_reducible exact LeO.none _)
      | (with_reducible refine LeO.ite ?_ ?_)
      | (with_reducible refine LeO.bind ?_ (fun _ => ?_))
      | exact ih0 _ _ _ _
      | exact ih1 _ _ _ _ _ _ _
      | exact ih2 _ _ _ _ _ _ _ _ _ _ _ _ _ _ _
      | exact ih3 _ _ _ _ _ _ _ _ _ _ _ _ _ _ _
      | exact ih4 _ _ _ _
      | exact ih5 _ _ _ _ _
      | exact LeO.none _
      | refine LeO.ite ?_ ?_
      | refine LeO.bind ?_ (fun _ => ?_)
    · intro y0 y1 y2 y3 y4 y5 y6 y7 y8 y9 y10 y11 y12 y13 y14
      unfold impl_HouseOk.j2
      repeat' first
      | (with_reducible exact ih0 _ _ _ _)
      | (with_reducible exact ih1 _ _ _ _ _ _ _)
      | (with_reducible exact ih2 _ _ _ _ _ _ _ _ _ _ _ _ _ _ _)
      | (with_reducible exact ih3 _ _ _ _ _ _ _ _ _ _ _ _ _ _ _)
      | (with_reducible exact ih4 _ _ _ _)
      | (with_reducible exact ih5 _ _ _ _ _)
      | (with_reducible exact LeO.refl _)
      | (with_reducible exact LeO.none _)
      | (with_reducible refine LeO.ite ?_ ?_)
      | (with_reducible refine LeO.bind ?_ (fun _ => ?_))
      | exact ih0 _ _ _ _
      | exact ih1 _ _ _ _ _ _ _
      | exact ih2 _ _ _ _ _ _ _ _ _ _ _ _ _ _ _
      | exact ih3 _ _ _ _ _ _ _ _ _ _ _ _ _ _ _
      | exact ih4 _ _ _ _
      | exact ih5 _ _ _ _ _
      | exact LeO.none _
      | refine LeO.ite ?_ ?_
      | refine LeO.bind ?_ (fun _ => ?_)
    · intro y0 y1 y2 y3 y4 y5 y6 y7 y8 y9 y10 y11 y12 y13 y14
      unfold impl_HouseOk.j3
      repeat' first
      | (with_reducible exact ih0 _ _ _ _)
      | (with_reducible exact ih1 _ _ _ _ _ _ _)
      | (with_reducible exact ih2 _ _ _ _ _ _ _ _ _ _ _ _ _ _ _)
      | (with_reducible exact ih3 _ _ _ _ _ _ _ _ _ _ _ _ _ _ _)
      | (with_reducible exact ih4 _ _ _ _)
      | (with_reducible exact ih5 _ _ _ _ _)
      | (with_reducible exact LeO.refl _)
      | (with_reducible exact LeO.none _)
      | (with_reducible refine LeO.ite ?_ ?_)
      | (with_reducible refine LeO.bind ?_ (fun _ => ?_))
      | exact ih0 _ _ _ _
      | exact ih1 _ _ _ _ _ _ _
      | exact ih2 _ _ _ _ _ _ _ _ _ _ _ _ _ _ _
      | exact ih3 _ _ _ _ _ _ _ _ _ _ _ _ _ _ _
      | exact ih4 _ _ _ _
      | exact ih5 _ _ _ _ _
      | exact LeO.none _
      | refine LeO.ite ?_ ?_
      | refine LeO.bind ?_ (fun _ => ?_)
    · intro y0 y1 y2 y3
      unfold impl_HouseOk.l1
      repeat' first
      | (with_reducible exact ih0 _ _ _ _)
      | (with_reducible exact ih1 _ _ _ _ _ _ _)
      | (with_reducible exact ih2 _ _ _ _ _ _ _ _ _ _ _ _ _ _ _)
      | (with_reducible exact ih3 _ _ _ _ _ _ _ _ _ _ _ _ _ _ _)
      | (with_reducible exact ih4 _ _ _ _)
      | (with_reducible exact ih5 _ _ _ _ _)
      | (with_reducible exact LeO.refl _)
      | (with_reducible exact LeO.none _)
      | (with_reducible refine LeO.ite ?_ ?_)
      | (with_reducible refine LeO.bind ?_ (fun _ => ?_))
      | exact ih0 _ _ _ _
      | exact ih1 _ _ _ _ _ _ _
      | exact ih2 _ _ _ _ _ _ _ _ _ _ _ _ _ _ _
      | exact ih3 _ _ _ _ _ _ _ _ _ _ _ _ _ _ _
      | exact ih4 _ _ _ _
      | exact ih5 _ _ _ _ _
      | exact LeO.none _
      | refine LeO.ite ?_ ?_
      | refine LeO.bind ?_ (fun _ => ?_)
    · intro y0 y1 y2 y3 y4
      unfold impl_HouseOk.j5
      repeat' first
      | (with_reducible exact ih0 _ _ _ _)
      | (with_reducible exact ih1 _ _ _ _ _ _ _)
      | (with_reducible exact ih2 _ _ _ _ _ _ _ _ _ _ _ _ _ _ _)
      | (with_reducible exact ih3 _ _ _ _ _ _ _ _ _ _ _ _ _ _ _)
      | (with_reducible exact ih4 _ _ _ _)
      | (with_reducible exact ih5 _ _ _ _ _)
      | (with_reducible exact LeO.refl _)
      | (with_reducible exact LeO.none _)
      | (with_reducible refine LeO.ite ?_ ?_)
      | (with_reducible refine LeO.bind ?_ (fun _ => ?_))
      | exact ih0 _ _ _ _
      | exact ih1 _ _ _ _ _ _ _
      | exact ih2 _ _ _ _ _ _ _ _ _ _ _ _ _ _ _
      | exact ih3 _ _ _ _ _ _ _ _ _ _ _ _ _ _ _
      | exact ih4 _ _ _ _
      | exact ih5 _ _ _ _ _
      | exact LeO.none _
      | refine LeO.ite ?_ ?_
      | refine LeO.bind ?_ (fun _ => ?_)
theorem impl_HouseOk.mono : ∀ a0 a1 a2 k, LeO (impl_HouseOk.f k a0 a1 a2) (impl_HouseOk.f (k + 1) a0 a1 a2) := by
  intro a0 a1 a2 k
  obtain ⟨ih0, ih1, ih2, ih3, ih4, ih5⟩ := impl_HouseOk.mono_l k
  unfold impl_HouseOk.f
  repeat' first
      | (with_reducible exact ih0 _ _ _ _)
      | (with_reducible exact ih1 _ _ _ _ _ _ _)
      | (with_reducible exact ih2 _ _ _ _ _ _ _ _ _ _ _ _ _ _ _)
      | (with_reducible exact ih3 _ _ _ _ _ _ _ _ _ _ _ _ _ _ _)
      | (with_reducible exact ih4 _ _ _ _)
      | (with_reducible exact ih5 _ _ _ _ _)
      | (with_reducible exact LeO.refl _)
      | (with_reducible exact LeO.none _)
      | (with_reducible refine LeO.ite ?_ ?_)
      | (with_reducible refine LeO.bind ?_ (fun _ => ?_))
      | exact ih0 _ _ _ _
      | exact ih1 _ _ _ _ _ _ _
      | exact ih2 _ _ _ _ _ _ _ _ _ _ _ _ _ _ _
      | exact ih3 _ _ _ _ _ _ _ _ _ _ _ _ _ _ _
      | exact ih4 _ _ _ _
      | exact ih5 _ _ _ _ _
      | exact LeO.none _
      | refine LeO.ite ?_ ?_
      | refine LeO.bind ?_ (fun _ => ?_)
def impl_HouseOk.T7 : Bool × List (List Nat × List Nat) := (true, [([], []), ([0], [0]), ([1], [1]), ([2], [2]), ([3, 2], [3]), ([4], [4]), ([5, 4], [4, 5]), ([6, 4, 4], [4, 6]), ([7], [7]), ([8, 7], [7, 8]), ([7], [7]), ([10, 7], [7, 10]), ([9, 11, 7], [7, 9, 11]), ([12, 7], [7, 12]), ([13, 7], [7, 13]), ([7], [7]), ([15, 7], [7, 15]), ([14, 16, 7], [7, 14, 16]), ([7, 17, 4], [4, 7, 17]), ([4, 18], [4, 18]), ([19, 7], [19]), ([20], [20]), ([21, 20], [20, 21]), ([20], [20]), ([23, 20], [20, 23]), ([24, 20], [20, 24]), ([25, 20], [20, 25]), ([22, 26, 20, 20], [20, 22, 26]), ([27, 20], [20, 27]), ([20, 28], [20, 28]), ([29, 27], [29]), ([30], [30]), ([31, 30], [30, 31]), ([30], [30]), ([33, 30], [30, 33]), ([30], [30]), ([35, 30], [30, 35]), ([32, 34, 36, 30, 30], [30, 32, 34, 36]), ([37, 30], [30, 37]), ([30, 38], [30, 38]), ([39, 37], [39]), ([40], [40]), ([41, 40], [40, 41]), ([42, 40, 40], [40, 42]), ([43, 40], [40, 43]), ([40, 44], [40, 44])])
def impl_HouseOk.B7 : List Nat := [0, 1, 3, 7, 15, 31, 63, 127, 255, 511, 255, 1279, 4095, 8191, 16383, 255, 33023, 131071, 262143, 524287, 1048575, 2097151, 4194303, 2097151, 10485759, 27262975, 60817407, 134217727, 268435455, 536870911, 1073741823, 2147483647, 4294967295, 2147483647, 10737418239, 2147483647, 36507222015, 137438953471, 274877906943, 549755813887, 1099511627775, 2199023255551, 4398046511103, 8796093022207, 17592186044415, 35184372088831]
theorem impl_HouseOk.tab7 : rtab .any (opsOf Try.f42 7) = impl_HouseOk.T7 := by kernel_rfl
theorem impl_HouseOk.bits7 : waitsOk impl_HouseOk.T7.2 impl_HouseOk.B7 = true := by kernel_rfl
def impl_HouseOk.T14 : Bool × List (List Nat × List Nat) := (true, [([], []), ([], []), ([1], [1]), ([0, 2], [0, 2]), ([3], [3]), ([], []), ([5], [5]), ([4, 6], [4, 6]), ([0, 2, 0, 1, 2, 3, 4, 5, 6, 7], [0, 2]), ([8, 7, 0, 1, 2, 3, 4, 5, 6, 7], [7, 8])])
def impl_HouseOk.B14 : List Nat := [0, 0, 2, 7, 15, 0, 32, 127, 255, 511]
theorem impl_HouseOk.tab14 : rtab .any (opsOf Try.f42 14) = impl_HouseOk.T14 := by kernel_rfl
theorem impl_HouseOk.bits14 : waitsOk impl_HouseOk.T14.2 impl_HouseOk.B14 = true := by kernel_rfl
def impl_HouseOk.T19 : Bool × List (List Nat × List Nat) := (true, [([], []), ([0], [0]), ([1], [1]), ([2], [2]), ([3, 2], [3]), ([4], [4]), ([5, 4], [4, 5]), ([6, 4, 4], [4, 6]), ([7, 4], [4, 7]), ([4, 8], [4, 8]), ([9, 7], [9]), ([10], [10]), ([11, 10], [10, 11]), ([10], [10]), ([13, 10], [10, 13]), ([12, 14, 10, 10], [10, 12, 14]), ([15, 10], [10, 15]), ([10, 16], [10, 16]), ([17, 15], [17]), ([18], [18]), ([19, 18], [18, 19]), ([18], [18]), ([18], [18]), ([21, 22, 18], [18, 21, 22]), ([23, 18], [18, 23]), ([20, 24, 18], [18, 20, 24]), ([18, 25], [18, 25])])
def impl_HouseOk.B19 : List Nat := [0, 1, 3, 7, 15, 31, 63, 127, 255, 511, 1023, 2047, 4095, 2047, 10239, 32767, 65535, 131071, 262143, 524287, 1048575, 524287, 524287, 6815743, 15204351, 33554431, 67108863]
theorem impl_HouseOk.tab19 : rtab .any (opsOf Try.f42 19) = impl_HouseOk.T19 := by kernel_rfl
theorem impl_HouseOk.bits19 : waitsOk impl_HouseOk.T19.2 impl_HouseOk.B19 = true := by kernel_rfl
abbrev impl_HouseOk.v0 : Array Bool := #[false, false, false, false, false, false, false, false, false, false, false, false, false, false, false, false, false, false, false, false, false, false, false, false, false, false, false, false, false, false, false, false, false, false, false, false, false, false, false, false, false, false, false, false, false, false]
abbrev impl_HouseOk.v1 : Array Bool := #[true, false, false, false, false, false, false, false, false, false, false, false, false, false, false, false, false, false, false, false, false, false, false, false, false, false, false, false, false, false, false, false, false, false, false, false, false, false, false, false, false, false, false, false, false, false]
abbrev impl_HouseOk.v2 : Array Bool := #[true, true, false, false, false, false, false, false, false, false, false, false, false, false, false, false, false, false, false, false, false, false, false, false, false, false, false, false, false, false, false, false, false, false, false, false, false, false, false, false, false, false, false, false, false, false]
abbrev impl_HouseOk.v3 : Array Bool := #[true, true, true, false, false, false, false, false, false, false, false, false, false, false, false, false, false, false, false, false, false, false, false, false, false, false, false, false, false, false, false, false, false, false, false, false, false, false, false, false, false, false, false, false, false, false]
abbrev impl_HouseOk.v4 : Array Bool := #[true, true, true, true, false, false, false, false, false, false, false, false, false, false, false, false, false, false, false, false, false, false, false, false, false, false, false, false, false, false, false, false, false, false, false, false, false, false, false, false, false, false, false, false, false, false]
abbrev impl_HouseOk.v5 : Array Bool := #[true, true, true, true, true, false, false, false, false, false, false, false, false, false, false, false, false, false, false, false, false, false, false, false, false, false, false, false, false, false, false, false, false, false, false, false, false, false, false, false, false, false, false, false, false, false]
abbrev impl_HouseOk.v6 : Array Bool := #[true, true, true, true, true, true, false, false, false, false, false, false, false, false, false, false, false, false, false, false, false, false, false, false, false, false, false, false, false, false, false, false, false, false, false, false, false, false, false, false, false, false, false, false, false, false]
abbrev impl_HouseOk.v7 : Array Bool := #[true, true, true, true, true, true, true, false, false, false, false, false, false, false, false, false, false, false, false, false, false, false, false, false, false, false, false, false, false, false, false, false, false, false, false, false, false, false, false, false, false, false, false, false, false, false]
abbrev impl_HouseOk.v8 : Array Bool := #[true, true, true, true, true, true, true, true, false, false, false, false, false, false, false, false, false, false, false, false, false, false, false, false, false, false, false, false, false, false, false, false, false, false, false, false, false, false, false, false, false, false, false, false, false, false]
abbrev impl_HouseOk.v9 : Array Bool := #[true, true, true, true, true, true, true, true, true, false, false, false, false, false, false, false, false, false, false, false, false, false, false, false, false, false, false, false, false, false, false, false, false, false, false, false, false, false, false, false, false, false, false, false, false, false]
abbrev impl_HouseOk.v10 : Array Bool := #[true, true, true, true, true, true, true, true, true, false, true, false, false, false, false, false, false, false, false, false, false, false, false, false, false, false, false, false, false, false, false, false, false, false, false, false, false, false, false, false, false, false, false, false, false, false]
abbrev impl_HouseOk.v11 : Array Bool := #[true, true, true, true, true, true, true, true, true, false, true, true, false, false, false, false, false, false, false, false, false, false, false, false, false, false, false, false, false, false, false, false, false, false, false, false, false, false, false, false, false, false, false, false, false, false]
abbrev impl_HouseOk.v12 : Array Bool := #[true, true, true, true, true, true, true, true, true, false, true, true, false, false, false, true, false, false, false, false, false, false, false, false, false, false, false, false, false, false, false, false, false, false, false, false, false, false, false, false, false, false, false, false, false, false]
abbrev impl_HouseOk.v13 : Array Bool := #[true, true, true, true, true, true, true, true, true, true, true, true, false, false, false, true, false, false, false, false, false, false, false, false, false, false, false, false, false, false, false, false, false, false, false, false, false, false, false, false, false, false, false, false, false, false]
abbrev impl_HouseOk.v14 : Array Bool := #[true, true, true, true, true, true, true, true, true, true, true, true, true, false, false, true, false, false, false, false, false, false, false, false, false, false, false, false, false, false, false, false, false, false, false, false, false, false, false, false, false, false, false, false, false, false]
abbrev impl_HouseOk.v15 : Array Bool := #[true, true, true, true, true, true, true, true, true, true, true, true, true, true, false, true, false, false, false, false, false, false, false, false, false, false, false, false, false, false, false, false, false, false, false, false, false, false, false, false, false, false, false, false, false, false]
abbrev impl_HouseOk.v16 : Array Bool := #[true, true, true, true, true, true, true, true, true, true, true, true, true, true, true, true, false, false, false, false, false, false, false, false, false, false, false, false, false, false, false, false, false, false, false, false, false, false, false, false, false, false, false, false, false, false]
abbrev impl_HouseOk.v17 : Array Bool := #[true, true, true, true, true, true, true, true, true, true, true, true, true, true, true, true, true, false, false, false, false, false, false, false, false, false, false, false, false, false, false, false, false, false, false, false, false, false, false, false, false, false, false, false, false, false]
abbrev impl_HouseOk.v18 : Array Bool := #[true, true, true, true, true, true, true, true, true, true, true, true, true, true, true, true, true, true, false, false, false, false, false, false, false, false, false, false, false, false, false, false, false, false, false, false, false, false, false, false, false, false, false, false, false, false]
abbrev impl_HouseOk.v19 : Array Bool := #[true, true, true, true, true, true, true, true, true, true, true, true, true, true, true, true, true, true, true, false, false, false, false, false, false, false, false, false, false, false, false, false, false, false, false, false, false, false, false, false, false, false, false, false, false, false]
abbrev impl_HouseOk.v20 : Array Bool := #[true, true, true, true, true, true, true, true, true, true, true, true, true, true, true, true, true, true, true, true, false, false, false, false, false, false, false, false, false, false, false, false, false, false, false, false, false, false, false, false, false, false, false, false, false, false]
abbrev impl_HouseOk.v21 : Array Bool := #[true, true, true, true, true, true, true, true, true, true, true, true, true, true, true, true, true, true, true, true, true, false, false, false, false, false, false, false, false, false, false, false, false, false, false, false, false, false, false, false, false, false, false, false, false, false]
abbrev impl_HouseOk.v22 : Array Bool := #[true, true, true, true, true, true, true, true, true, true, true, true, true, true, true, true, true, true, true, true, true, true, false, false, false, false, false, false, false, false, false, false, false, false, false, false, false, false, false, false, false, false, false, false, false, false]
abbrev impl_HouseOk.v23 : Array Bool := #[true, true, true, true, true, true, true, true, true, true, true, true, true, true, true, true, true, true, true, true, true, true, true, false, false, false, false, false, false, false, false, false, false, false, false, false, false, false, false, false, false, false, false, false, false, false]
abbrev impl_HouseOk.v24 : Array Bool := #[true, true, true, true, true, true, true, true, true, true, true, true, true, true, true, true, true, true, true, true, true, true, true, true, false, false, false, false, false, false, false, false, false, false, false, false, false, false, false, false, false, false, false, false, false, false]
abbrev impl_HouseOk.v25 : Array Bool := #[true, true, true, true, true, true, true, true, true, true, true, true, true, true, true, true, true, true, true, true, true, true, true, true, true, false, false, false, false, false, false, false, false, false, false, false, false, false, false, false, false, false, false, false, false, false]
abbrev impl_HouseOk.v26 : Array Bool := #[true, true, true, true, true, true, true, true, true, true, true, true, true, true, true, true, true, true, true, true, true, true, true, true, true, true, false, false, false, false, false, false, false, false, false, false, false, false, false, false, false, false, false, false, false, false]
abbrev impl_HouseOk.v27 : Array Bool := #[true, true, true, true, true, true, true, true, true, true, true, true, true, true, true, true, true, true, true, true, true, true, true, true, true, true, true, false, false, false, false, false, false, false, false, false, false, false, false, false, false, false, false, false, false, false]
abbrev impl_HouseOk.v28 : Array Bool := #[true, true, true, true, true, true, true, true, true, true, true, true, true, true, true, true, true, true, true, true, true, true, true, true, true, true, true, true, false, false, false, false, false, false, false, false, false, false, false, false, false, false, false, false, false, false]
abbrev impl_HouseOk.v29 : Array Bool := #[true, true, true, true, true, true, true, true, true, true, true, true, true, true, true, true, true, true, true, true, true, true, true, true, true, true, true, true, true, false, false, false, false, false, false, false, false, false, false, false, false, false, false, false, false, false]
abbrev impl_HouseOk.v30 : Array Bool := #[true, true, true, true, true, true, true, true, true, true, true, true, true, true, true, true, true, true, true, true, true, true, true, true, true, true, true, true, true, true, false, false, false, false, false, false, false, false, false, false, false, false, false, false, false, false]
abbrev impl_HouseOk.v31 : Array Bool := #[true, true, true, true, true, true, true, true, true, true, true, true, true, true, true, true, true, true, true, true, true, true, true, true, true, true, true, true, true, true, true, false, false, false, false, false, false, false, false, false, false, false, false, false, false, false]
abbrev impl_HouseOk.v32 : Array Bool := #[true, true, true, true, true, true, true, true, true, true, true, true, true, true, true, true, true, true, true, true, true, true, true, true, true, true, true, true, true, true, true, true, false, false, false, false, false, false, false, false, false, false, false, false, false, false]
abbrev impl_HouseOk.v33 : Array Bool := #[true, true, true, true, true, true, true, true, true, true, true, true, true, true, true, true, true, true, true, true, true, true, true, true, true, true, true, true, true, true, true, true, true, false, false, false, false, false, false, false, false, false, false, false, false, false]
abbrev impl_HouseOk.v34 : Array Bool := #[true, true, true, true, true, true, true, true, true, true, true, true, true, true, true, true, true, true, true, true, true, true, true, true, true, true, true, true, true, true, true, true, true, true, false, false, false, false, false, false, false, false, false, false, false, false]
abbrev impl_HouseOk.v35 : Array Bool := #[true, true, true, true, true, true, true, true, true, true, true, true, true, true, true, true, true, true, true, true, true, true, true, true, true, true, true, true, true, true, true, true, true, true, true, false, false, false, false, false, false, false, false, false, false, false]
abbrev impl_HouseOk.v36 : Array Bool := #[true, true, true, true, true, true, true, true, true, true, true, true, true, true, true, true, true, true, true, true, true, true, true, true, true, true, true, true, true, true, true, true, true, true, true, true, false, false, false, false, false, false, false, false, false, false]
abbrev impl_HouseOk.v37 : Array Bool := #[true, true, true, true, true, true, true, true, true, true, true, true, true, true, true, true, true, true, true, true, true, true, true, true, true, true, true, true, true, true, true, true, true, true, true, true, true, false, false, false, false, false, false, false, false, false]
abbrev impl_HouseOk.v38 : Array Bool := #[true, true, true, true, true, true, true, true, true, true, true, true, true, true, true, true, true, true, true, true, true, true, true, true, true, true, true, true, true, true, true, true, true, true, true, true, true, true, false, false, false, false, false, false, false, false]
abbrev impl_HouseOk.v39 : Array Bool := #[true, true, true, true, true, true, true, true, true, true, true, true, true, true, true, true, true, true, true, true, true, true, true, true, true, true, true, true, true, true, true, true, true, true, true, true, true, true, true, false, false, false, false, false, false, false]
abbrev impl_HouseOk.v40 : Array Bool := #[true, true, true, true, true, true, true, true, true, true, true, true, true, true, true, true, true, true, true, true, true, true, true, true, true, true, true, true, true, true, true, true, true, true, true, true, true, true, true, true, false, false, false, false, false, false]
abbrev impl_HouseOk.v41 : Array Bool := #[true, true, true, true, true, true, true, true, true, true, true, true, true, true, true, true, true, true, true, true, true, true, true, true, true, true, true, true, true, true, true, true, true, true, true, true, true, true, true, true, true, false, false, false, false, false]
abbrev impl_HouseOk.v42 : Array Bool := #[true, true, true, true, true, true, true, true, true, true, true, true, true, true, true, true, true, true, true, true, true, true, true, true, true, true, true, true, true, true, true, true, true, true, true, true, true, true, true, true, true, true, false, false, false, false]
abbrev impl_HouseOk.v43 : Array Bool := #[true, true, true, true, true, true, true, true, true, true, true, true, true, true, true, true, true, true, true, true, true, true, true, true, true, true, true, true, true, true, true, true, true, true, true, true, true, true, true, true, true, true, true, false, false, false]
abbrev impl_HouseOk.v44 : Array Bool := #[true, true, true, true, true, true, true, true, true, true, true, true, true, true, true, true, true, true, true, true, true, true, true, true, true, true, true, true, true, true, true, true, true, true, true, true, true, true, true, true, true, true, true, true, false, false]
abbrev impl_HouseOk.v45 : Array Bool := #[true, true, true, true, true, true, true, true, true, true, true, true, true, true, true, true, true, true, true, true, true, true, true, true, true, true, true, true, true, true, true, true, true, true, true, true, true, true, true, true, true, true, true, true, true, false]
abbrev impl_HouseOk.v46 : Array Bool := #[true, true, true, true, true, true, true, true, true, true, true, true, true, true, true, true, true, true, true, true, true, true, true, true, true, true, true, true, true, true, true, true, true, true, true, true, true, true, true, true, true, true, true, true, true, true]
abbrev impl_HouseOk.v47 : Array Bool := #[true, true, true, true, true, true, true, true, true, true, true, true, true, true, true, true, true, true, true, true, true, true, false, true, false, false, false, false, false, false, false, false, false, false, false, false, false, false, false, false, false, false, false, false, false, false]
abbrev impl_HouseOk.v48 : Array Bool := #[true, true, true, true, true, true, true, true, true, true, true, true, true, true, true, true, true, true, true, true, true, true, true, true, true, true, true, true, true, true, true, true, false, true, false, false, false, false, false, false, false, false, false, false, false, false]
abbrev impl_HouseOk.v49 : Array Bool := #[true, true, true, true, true, true, true, true, true, true, true, true, true, true, true, true, true, true, true, true, true, true, true, true, true, true, true, true, true, true, true, true, false, true, false, true, false, false, false, false, false, false, false, false, false, false]
abbrev impl_HouseOk.v50 : Array Bool := #[true, true, true, true, true, true, true, true, true, true, true, true, true, true, true, true, true, true, true, true, true, true, true, true, true, true, true, true, true, true, true, true, true, true, false, true, false, false, false, false, false, false, false, false, false, false]
abbrev impl_HouseOk.v51 : Array Bool := #[true, true, true, true, true, true, true, true, true, true, false, false, false, false, false, false, false, false, false, false, false, false, false, false, false, false, false, false, false, false, false, false, false, false, false, false, false, false, false, false, false, false, false, false, false, false]
abbrev impl_HouseOk.v52 : Array Bool := #[true, true, true, true, true, true, true, true, true, true, true, false, false, false, false, false, false, false, false, false, false, false, false, false, false, false, false, false, false, false, false, false, false, false, false, false, false, false, false, false, false, false, false, false, false, false]
abbrev impl_HouseOk.v53 : Array Bool := #[true, true, true, true, true, true, true, true, true, true, true, true, false, false, false, false, false, false, false, false, false, false, false, false, false, false, false, false, false, false, false, false, false, false, false, false, false, false, false, false, false, false, false, false, false, false]
abbrev impl_HouseOk.v54 : Array Bool := #[true, true, true, true, true, true, true, true, true, true, true, true, true, false, false, false, false, false, false, false, false, false, false, false, false, false, false, false, false, false, false, false, false, false, false, false, false, false, false, false, false, false, false, false, false, false]
abbrev impl_HouseOk.v55 : Array Bool := #[true, true, true, true, true, true, true, true, true, true, true, true, true, true, false, false, false, false, false, false, false, false, false, false, false, false, false, false, false, false, false, false, false, false, false, false, false, false, false, false, false, false, false, false, false, false]
abbrev impl_HouseOk.v56 : Array Bool := #[true, true, true, true, true, true, true, true, true, true, true, true, true, true, true, false, false, false, false, false, false, false, false, false, false, false, false, false, false, false, false, false, false, false, false, false, false, false, false, false, false, false, false, false, false, false]
abbrev impl_HouseOk.v57 : Array Bool := #[false, false, false, false, false, false, false, false, false, false, false, false, false, false, false, false, false, false, false, false, false, false, false, false, false, false, false]
abbrev impl_HouseOk.v58 : Array Bool := #[true, false, false, false, false, false, false, false, false, false, false, false, false, false, false, false, false, false, false, false, false, false, false, false, false, false, false]
abbrev impl_HouseOk.v59 : Array Bool := #[true, true, false, false, false, false, false, false, false, false, false, false, false, false, false, false, false, false, false, false, false, false, false, false, false, false, false]
abbrev impl_HouseOk.v60 : Array Bool := #[true, true, true, false, false, false, false, false, false, false, false, false, false, false, false, false, false, false, false, false, false, false, false, false, false, false, false]
abbrev impl_HouseOk.v61 : Array Bool := #[true, true, true, true, false, false, false, false, false, false, false, false, false, false, false, false, false, false, false, false, false, false, false, false, false, false, false]
abbrev impl_HouseOk.v62 : Array Bool := #[true, true, true, true, true, false, false, false, false, false, false, false, false, false, false, false, false, false, false, false, false, false, false, false, false, false, false]
abbrev impl_HouseOk.v63 : Array Bool := #[true, true, true, true, true, true, false, false, false, false, false, false, false, false, false, false, false, false, false, false, false, false, false, false, false, false, false]
abbrev impl_HouseOk.v64 : Array Bool := #[true, true, true, true, true, true, true, false, false, false, false, false, false, false, false, false, false, false, false, false, false, false, false, false, false, false, false]
abbrev impl_HouseOk.v65 : Array Bool := #[true, true, true, true, true, true, true, true, false, false, false, false, false, false, false, false, false, false, false, false, false, false, false, false, false, false, false]
abbrev impl_HouseOk.v66 : Array Bool := #[true, true, true, true, true, true, true, true, true, false, false, false, false, false, false, false, false, false, false, false, false, false, false, false, false, false, false]
abbrev impl_HouseOk.v67 : Array Bool := #[true, true, true, true, true, true, true, true, true, true, false, false, false, false, false, false, false, false, false, false, false, false, false, false, false, false, false]
abbrev impl_HouseOk.v68 : Array Bool := #[true, true, true, true, true, true, true, true, true, true, true, false, false, false, false, false, false, false, false, false, false, false, false, false, false, false, false]
abbrev impl_HouseOk.v69 : Array Bool := #[true, true, true, true, true, true, true, true, true, true, true, true, false, false, false, false, false, false, false, false, false, false, false, false, false, false, false]
abbrev impl_HouseOk.v70 : Array Bool := #[true, true, true, true, true, true, true, true, true, true, true, true, false, true, false, false, false, false, false, false, false, false, false, false, false, false, false]
abbrev impl_HouseOk.v71 : Array Bool := #[true, true, true, true, true, true, true, true, true, true, true, true, true, true, false, false, false, false, false, false, false, false, false, false, false, false, false]
abbrev impl_HouseOk.v72 : Array Bool := #[true, true, true, true, true, true, true, true, true, true, true, true, true, true, true, false, false, false, false, false, false, false, false, false, false, false, false]
abbrev impl_HouseOk.v73 : Array Bool := #[true, true, true, true, true, true, true, true, true, true, true, true, true, true, true, true, false, false, false, false, false, false, false, false, false, false, false]
abbrev impl_HouseOk.v74 : Array Bool := #[true, true, true, true, true, true, true, true, true, true, true, true, true, true, true, true, true, false, false, false, false, false, false, false, false, false, false]
abbrev impl_HouseOk.v75 : Array Bool := #[true, true, true, true, true, true, true, true, true, true, true, true, true, true, true, true, true, true, false, false, false, false, false, false, false, false, false]
abbrev impl_HouseOk.v76 : Array Bool := #[true, true, true, true, true, true, true, true, true, true, true, true, true, true, true, true, true, true, true, false, false, false, false, false, false, false, false]
abbrev impl_HouseOk.v77 : Array Bool := #[true, true, true, true, true, true, true, true, true, true, true, true, true, true, true, true, true, true, true, true, false, false, false, false, false, false, false]
abbrev impl_HouseOk.v78 : Array Bool := #[true, true, true, true, true, true, true, true, true, true, true, true, true, true, true, true, true, true, true, true, false, true, false, false, false, false, false]
abbrev impl_HouseOk.v79 : Array Bool := #[true, true, true, true, true, true, true, true, true, true, true, true, true, true, true, true, true, true, true, true, false, true, true, false, false, false, false]
abbrev impl_HouseOk.v80 : Array Bool := #[true, true, true, true, true, true, true, true, true, true, true, true, true, true, true, true, true, true, true, true, false, true, true, true, false, false, false]
abbrev impl_HouseOk.v81 : Array Bool := #[true, true, true, true, true, true, true, true, true, true, true, true, true, true, true, true, true, true, true, true, true, true, true, true, false, false, false]
abbrev impl_HouseOk.v82 : Array Bool := #[true, true, true, true, true, true, true, true, true, true, true, true, true, true, true, true, true, true, true, true, true, true, true, true, true, false, false]
abbrev impl_HouseOk.v83 : Array Bool := #[true, true, true, true, true, true, true, true, true, true, true, true, true, true, true, true, true, true, true, true, true, true, true, true, true, true, false]
abbrev impl_HouseOk.v84 : Array Bool := #[true, true, true, true, true, true, true, true, true, true, true, true, true, true, true, true, true, true, true, true, true, true, true, true, true, true, true]
abbrev impl_HouseOk.v85 : Array Bool := #[true, true, true, true, true, true, true, true, true, true, true, true, true, true, true, true, true, true, true, true, true, false, false, false, false, false, false]
abbrev impl_HouseOk.v86 : Array Bool := #[true, true, true, true, true, true, true, true, true, true, true, true, true, true, true, true, true, true, true, true, true, true, false, false, false, false, false]
abbrev impl_HouseOk.v87 : Array Bool := #[true, true, true, true, true, true, true, true, true, true, true, true, true, true, true, true, true, true, true, true, true, true, true, false, false, false, false]
abbrev impl_HouseOk.v88 : Array Bool := #[true, true, true, true, true, true, true, true, true, true, true, true, true, false, false, false, false, false, false, false, false, false, false, false, false, false, false]
theorem impl_HouseOk.cl3 {w : World} {g : Nat} {t : TypeId} {c0 c1 c2 : Value} (h : w.heap[g]? = some (.cells #[c0, c1, c2] t (0, 0))) : w.cell? ⟨g, 0, none⟩ = some c0 ∧ w.cell? ⟨g, 1, none⟩ = some c1 ∧ w.cell? ⟨g, 2, none⟩ = some c2 := ⟨(blk_cell h 0).trans rfl, (blk_cell h 1).trans rfl, (blk_cell h 2).trans rfl⟩
theorem impl_HouseOk.fz3 {w : World} {g : Nat} {t : TypeId} {c0 c1 c2 : Value} (h : w.heap[g]? = some (.cells #[c0, c1, c2] t (0, 0))) : w.frozen? ⟨g, 0, none⟩ = false ∧ w.frozen? ⟨g, 1, none⟩ = false ∧ w.frozen? ⟨g, 2, none⟩ = false := ⟨blk_frozen h 0, blk_frozen h 1, blk_frozen h 2⟩
theorem impl_HouseOk.cl7 {w : World} {g : Nat} {t : TypeId} {c0 c1 c2 c3 c4 c5 c6 : Value} (h : w.heap[g]? = some (.cells #[c0, c1, c2, c3, c4, c5, c6] t (0, 0))) : w.cell? ⟨g, 0, none⟩ = some c0 ∧ w.cell? ⟨g, 1, none⟩ = some c1 ∧ w.cell? ⟨g, 2, none⟩ = some c2 ∧ w.cell? ⟨g, 3, none⟩ = some c3 ∧ w.cell? ⟨g, 4, none⟩ = some c4 ∧ w.cell? ⟨g, 5, none⟩ = some c5 ∧ w.cell? ⟨g, 6, none⟩ = some c6 := ⟨(blk_cell h 0).trans rfl, (blk_cell h 1).trans rfl, (blk_cell h 2).trans rfl, (blk_cell h 3).trans rfl, (blk_cell h 4).trans rfl, (blk_cell h 5).trans rfl, (blk_cell h 6).trans rfl⟩
theorem impl_HouseOk.fz7 {w : World} {g : Nat} {t : TypeId} {c0 c1 c2 c3 c4 c5 c6 : Value} (h : w.heap[g]? = some (.cells #[c0, c1, c2, c3, c4, c5, c6] t (0, 0))) : w.frozen? ⟨g, 0, none⟩ = false ∧ w.frozen? ⟨g, 1, none⟩ = false ∧ w.frozen? ⟨g, 2, none⟩ = false ∧ w.frozen? ⟨g, 3, none⟩ = false ∧ w.frozen? ⟨g, 4, none⟩ = false ∧ w.frozen? ⟨g, 5, none⟩ = false ∧ w.frozen? ⟨g, 6, none⟩ = false := ⟨blk_frozen h 0, blk_frozen h 1, blk_frozen h 2, blk_frozen h 3, blk_frozen h 4, blk_frozen h 5, blk_frozen h 6⟩
set_option maxHeartbeats 8000000 in
set_option maxRecDepth 100000 in
theorem impl_HouseOk.calls (k : Nat) (A0_0 : Option Addr) (c0_0 : Nat) (l0_0 : List (S119)) (A0_1 : Option Addr) (c0_1 : Nat) (l0_1 : List (S122)) (a0_2 : Int) (r : Bool) (w : World) (hr0_0 : Kd.C k119 w A0_0 l0_0.length l0_0) (hc0_0 : l0_0.length ≤ c0_0) (hr0_1 : Kd.C k122 w A0_1 l0_1.length l0_1) (hc0_1 : l0_1.length ≤ c0_1) (h : impl_HouseOk.f k l0_0 l0_1 a0_2 = some r) :
 Calls Try.prog 42 #[.agg #[.slice A0_0 l0_0.length c0_0, .slice A0_1 l0_1.length c0_1, .int .i64 a0_2]] w fun e w' => e = .returned (.bool r) ∧ Below w.heap.size w w' := by
 have hu75 := Try.underlying75
 have hu119 := Try.underlying119
 have hu122 := Try.underlying122
 have HR0_0 := Aside0.mk hr0_0
 have HC0_0 := Aside0.mk hc0_0
 clear hr0_0 hc0_0
 have HR0_1 := Aside0.mk hr0_1
 have HC0_1 := Aside0.mk hc0_1
 clear hr0_1 hc0_1
 have HB := Aside0.mk (Below.refl w.heap.size w)
 have H : (if (l0_0.length : Int) > 40 then (impl_HouseOk.j0 k true l0_0 l0_1 a0_2) else (if (l0_1.length : Int) > 10 then (impl_HouseOk.j0 k true l0_0 l0_1 a0_2) else ((impl_in.f a0_2 0 1000000000000000).bind fun t174 => (impl_HouseOk.j0 k (!t174) l0_0 l0_1 a0_2)))) = some r := h
 clear h
 have HC2 := Aside0.mk H
 clear H
 go_enter Try.func42, Try.ntmps42
 go_upto_region 1 with (first | ((with_reducible refine gate_dst (N := 1) rfl ?_); (try (refine gate_guard (by rfl) ?_; dsimp only)); refine box_event ?hg (N := 1) ?hd (cs := #[.slice A0_0 l0_0.length c0_0, .slice A0_1 l0_1.length c0_1, .int .i64 a0_2]) (t := 75) ?hr ?_; (case hd => rfl); (case hg => rfl); (case hr => first | (go_simp; done) | (go_simp; rfl)); intro gb173 hg w3 hbox hb; have n0_ := Aside0.mk (below_step (by repeat (first | (with_reducible first | exact HB.out | apply below_alloc | apply pw_below_drewN | apply below_drew1) | exact HB.out)) hb); have n1_ := Aside0.mk (hbox); have n2_ := Aside0.mk ((by rw [hg]; exact (below_size (by repeat (first | (with_reducible first | exact HB.out | apply below_alloc | apply pw_below_drewN | apply below_drew1) | exact HB.out))) : w.heap.size ≤ gb173)); have n3_ := Aside0.mk ((by rw [hg]; exact (below_size (by repeat (first | (with_reducible first | exact HB.out | apply below_alloc | apply pw_below_drewN | apply below_drew1) | exact HB.out))) : w.heap.size ≤ gb173)); clear HB; have HB := n0_; have BK173 := n1_; have GW173 := n2_; have GE173 := n3_; clear n0_ n1_ n2_ n3_; clear hb hbox hg))
 (try simp only [Act.put, List.setIfInBounds_toArray, List.set_cons_zero, List.set_cons_succ])
 go_cut [24] (fun v24 wc => ∃ (kq : Nat) (x24_1 : Bool), v24 = .bool x24_1 ∧ Aside0 (impl_HouseOk.j0 kq x24_1 l0_0 l0_1 a0_2 = some r) ∧ Aside0 (kq ≤ k) ∧ Aside0 (wc.heap[gb173]? = some (.cells #[(.slice A0_0 l0_0.length c0_0), (.slice A0_1 l0_1.length c0_1), .int .i64 a0_2] 75 (0, 0))) ∧ Aside0 (Below w.heap.size w wc))
 case first =>
  have H := HC2.out
  clear HC2
  by_cases c4 : (l0_0.length : Int) > 40
  ·rw [if_pos c4] at H
   have c4b0 : decide (40 < (l0_0.length : Int)) = true := decide_eq_true c4
   have c4b1 : decide (40 < l0_0.length) = true := decide_eq_true (by omega)
   clear c4
   (first | rw [c4b0] | (simp only [i64_w, i32_w]; rw [c4b0]) | skip)
   have H' := Aside0.mk H
   clear H
   obtain ⟨hcz5_0, hcz5_1, hcz5_2⟩ := impl_HouseOk.cl3 BK173.out
   obtain ⟨hfz5_0, hfz5_1, hfz5_2⟩ := impl_HouseOk.fz3 BK173.out
   go_wp2
   go_meet
   case rel => exact ⟨_, (true), (by first | rfl | (simp; done) | (simp [*]; done)), H', ⟨by first | omega | exact Nat.le_refl _⟩, ⟨by (with_reducible repeat (first | refine blk_drewN ?_ _ | refine blk_drew ?_ | refine blk_alloc ?_ _)); exact BK173.out⟩, ⟨by repeat (first | (with_reducible first | exact HB.out | apply below_alloc | apply pw_below_drewN | apply below_drew1 | refine below_set ?_ GE173.out) | exact HB.out)⟩⟩
  ·rw [if_neg c4] at H
   have c4b0 : decide (40 < (l0_0.length : Int)) = false := decide_eq_false c4
   have c4b1 : decide (40 < l0_0.length) = false := decide_eq_false (by omega)
   clear c4
   (first | rw [c4b0] | (simp only [i64_w, i32_w]; rw [c4b0]) | skip)
   by_cases c6 : (l0_1.length : Int) > 10
   ·rw [if_pos c6] at H
    have c6b0 : decide (10 < (l0_1.length : Int)) = true := decide_eq_true c6
    have c6b1 : decide (10 < l0_1.length) = true := decide_eq_true (by omega)
    clear c6
    have H' := Aside0.mk H
    clear H
    obtain ⟨hcz7_0, hcz7_1, hcz7_2⟩ := impl_HouseOk.cl3 BK173.out
    obtain ⟨hfz7_0, hfz7_1, hfz7_2⟩ := impl_HouseOk.fz3 BK173.out
    go_wp2
    go_meet
    case rel => exact ⟨_, (true), (by first | rfl | (simp; done) | (simp [*]; done)), H', ⟨by first | omega | exact Nat.le_refl _⟩, ⟨by (with_reducible repeat (first | refine blk_drewN ?_ _ | refine blk_drew ?_ | refine blk_alloc ?_ _)); exact BK173.out⟩, ⟨by repeat (first | (with_reducible first | exact HB.out | apply below_alloc | apply pw_below_drewN | apply below_drew1 | refine below_set ?_ GE173.out) | exact HB.out)⟩⟩
   ·rw [if_neg c6] at H
    have c6b0 : decide (10 < (l0_1.length : Int)) = false := decide_eq_false c6
    have c6b1 : decide (10 < l0_1.length) = false := decide_eq_false (by omega)
    clear c6
    replace H := Option.bind_eq_some_iff.mp H
    obtain ⟨t174, A80, H⟩ := H
    (try dsimp only at H)
    have A8 := Aside0.mk A80
    clear A80
    have H' := Aside0.mk H
    clear H
    obtain ⟨hcz9_0, hcz9_1, hcz9_2⟩ := impl_HouseOk.cl3 BK173.out
    obtain ⟨hfz9_0, hfz9_1, hfz9_2⟩ := impl_HouseOk.fz3 BK173.out
    go_wp2_with (first | (go_at_call 54; (with_reducible refine (impl_in.calls a0_2 0 1000000000000000 t174 _ A8.out).mono ?_); rintro e w' ⟨rfl, ⟨nd, rfl⟩⟩))
    go_meet
    case rel => exact ⟨_, (!t174), (by first | rfl | (simp; done) | (simp [*]; done)), H', ⟨by first | omega | exact Nat.le_refl _⟩, ⟨by (with_reducible repeat (first | refine blk_drewN ?_ _ | refine blk_drew ?_ | refine blk_alloc ?_ _)); exact BK173.out⟩, ⟨by repeat (first | (with_reducible first | exact HB.out | apply below_alloc | apply pw_below_drewN | apply below_drew1 | refine below_set ?_ GE173.out) | exact HB.out)⟩⟩
 case rest =>
  clear HC2
  obtain ⟨kq, x24_1, rfl, HA, HJ1, BK173, HB⟩ := hcut
  cases kq with
  | zero => exact absurd HA.out (by simp [impl_HouseOk.j0])
  | succ kj1 =>
   have H := HA.out
   clear HA
   simp only [impl_HouseOk.j0] at H
   by_cases c10 : x24_1 = true
   ·subst c10
    rw [if_pos rfl] at H
    obtain rfl := Option.some.inj H
    go_wp2
    go_ret
    exact ⟨by first | rfl | (simp [errW_none, errW_some] <;> rfl) | (simp [*, errW_none, errW_some] <;> rfl), by repeat (first | (with_reducible first | exact HB.out | apply below_alloc | apply pw_below_drewN | apply below_drew1 | refine below_set ?_ GE173.out) | exact HB.out)⟩
   ·replace c10 := Bool.eq_false_iff.mpr c10
    subst c10
    rw [if_neg (show ¬ (false = true) by decide)] at H
    by_cases c11 : 0 ≤ (l0_1.length : Int)
    ·rw [if_pos c11] at H
     have c11b0 := eq_true c11
     have c11b1 : decide (0 ≤ (l0_1.length : Int)) = true := decide_eq_true c11
     clear c11
     by_cases c12 : ((l0_1.length : Int) : Int).toNat ≤ 35184372088832
     ·rw [if_pos c12] at H
      have c12b0 := eq_true c12
      have c12b1 : decide (((l0_1.length : Int) : Int).toNat ≤ 35184372088832) = true := decide_eq_true c12
      clear c12
      obtain ⟨y175, hy175⟩ : ∃ y_ : List Int, y_ = (List.replicate ((l0_1.length : Int) : Int).toNat 0) := ⟨_, rfl⟩
      replace H : (impl_HouseOk.l0 kj1 y175 l0_0 (l0_0.length : Int) 0 l0_0 l0_1 a0_2) = some r := by first | (rw [hy175]; with_reducible exact H) | (have H2_ := (Option.bind_some _ _).symm.trans H; rw [hy175]; with_reducible exact H2_) | (have H2_ := (Option.bind_some _ _).symm.trans H; with_reducible exact H2_) | with_reducible exact H | (rw [hy175]; exact H) | exact H
      have Ny175 := Aside0.mk hy175
      clear hy175
      have H' := Aside0.mk H
      clear H
      obtain ⟨hcz13_0, hcz13_1, hcz13_2⟩ := impl_HouseOk.cl3 BK173.out
      obtain ⟨hfz13_0, hfz13_1, hfz13_2⟩ := impl_HouseOk.fz3 BK173.out
      go_wp2_with (first | ((with_reducible refine gate_dst (N := 28) rfl ?_); (try (refine gate_guard (by rfl) ?_; dsimp only)); refine Kd.R_make (Kd.int .i64) _ 3 rfl (N := 28) rfl 53 _ _ rfl (l0_1.length : Int) rfl rfl Try.underlying53 (.int .i64 0) 8 info3 rfl (by decide) (by omega) 0 (ok := fun _ => True) (okp := fun _ => True) rfl (fun _ hk => hk) trivial (of_decide_eq_true (by first | (with_reducible assumption) | assumption)) (Nat.le_trans (Nat.mul_le_mul_right _ (of_decide_eq_true (by first | (with_reducible assumption) | assumption) : (l0_1.length : Int).toNat ≤ 35184372088832)) (by omega)) (Below.refl _ _) (Nat.le_refl _) ?_; intro v176 w14 ho15 hb hg_ hnew_; clear hg_ hnew_; (first | rw [← Ny175.out] at ho15 | (simp only [Int.reduceToNat] at ho15; rw [← Ny175.out] at ho15)); have n0_ := Aside0.mk (Kd.R_lower ho15 (below_size (by repeat (first | (with_reducible first | exact HB.out | apply below_alloc | apply pw_below_drewN | apply below_drew1 | refine below_set ?_ GE173.out) | exact HB.out)))); have n1_ := Aside0.mk (blk_below (g := gb173) (by (with_reducible repeat (first | refine blk_drewN ?_ _ | refine blk_drew ?_ | refine blk_alloc ?_ _)); exact BK173.out) hb); have n2_ := Aside0.mk (below_step (by repeat (first | (with_reducible first | exact HB.out | apply below_alloc | apply pw_below_drewN | apply below_drew1 | refine below_set ?_ GE173.out) | exact HB.out)) hb); clear BK173; clear HB; have HO177 := n0_; have BK173 := n1_; have HB := n2_; clear n0_ n1_ n2_; clear hb ho15; obtain ⟨hcz16_0, hcz16_1, hcz16_2⟩ := impl_HouseOk.cl3 BK173.out; obtain ⟨hfz16_0, hfz16_1, hfz16_2⟩ := impl_HouseOk.fz3 BK173.out))
      go_loopg [32] kj1 (fun kq v32 w' => ∃ (x3_2 : List Int) (x32_2 : Int), v32 = .int .i64 x32_2 ∧ Aside0 (impl_HouseOk.l0 kq x3_2 l0_0 (l0_0.length : Int) x32_2 l0_0 l0_1 a0_2 = some r) ∧ Aside0 (kq ≤ kj1) ∧ Aside0 (Kd.R (Kd.int .i64) 3 w' w.heap.size (fun _ => True) v176 x3_2) ∧ Aside0 (w'.heap[gb173]? = some (.cells #[(.slice A0_0 l0_0.length c0_0), (.slice A0_1 l0_1.length c0_1), .int .i64 a0_2] 75 (0, 0))) ∧ Aside0 (Below w.heap.size w w'))
      case atStart => exact ⟨(y175), (0), (by first | rfl | (simp; done) | (simp [*]; done)), H', ⟨Nat.le_refl _⟩, ⟨by (with_reducible repeat (first | apply Kd.R_alloc | apply Kd.R_drewN | apply Kd.R_drew)); exact HO177.out⟩, ⟨by (with_reducible repeat (first | refine blk_drewN ?_ _ | refine blk_drew ?_ | refine blk_alloc ?_ _)); exact BK173.out⟩, ⟨by repeat (first | (with_reducible first | exact HB.out | apply below_alloc | apply pw_below_drewN | apply below_drew1 | refine below_set ?_ GE173.out) | exact HB.out)⟩⟩
      case round =>
       clear H'
       (try clear c10); (try clear c11); (try clear c11b0); (try clear c11b1); (try clear c12); (try clear c12b0); (try clear c12b1); (try clear hcz13_0); (try clear hcz13_1); (try clear hcz13_2); (try clear hcz16_0); (try clear hcz16_1); (try clear hcz16_2); (try clear hfz13_0); (try clear hfz13_1); (try clear hfz13_2); (try clear hfz16_0); (try clear hfz16_1); (try clear hfz16_2)
       obtain ⟨x3_2, x32_2, rfl, HA, HK2, HO_3, BK173, HB⟩ := hrel
       cases gk with
       | zero => exact absurd HA.out (by simp [impl_HouseOk.l0])
       | succ k2 =>
        have H := HA.out
        clear HA
        simp only [impl_HouseOk.l0] at H
        by_cases c17 : x32_2 < (l0_0.length : Int)
        ·rw [if_pos c17] at H
         have c17b0 : decide (x32_2 < (l0_0.length : Int)) = true := decide_eq_true c17
         clear c17
         by_cases c18 : 0 ≤ x32_2
         ·rw [if_pos c18] at H
          have c18b0 : decide (0 ≤ x32_2) = true := decide_eq_true c18
          clear c18
          by_cases c19 : x32_2 < (l0_0.length : Int)
          ·rw [if_pos c19] at H
           have c19b0 : decide (x32_2 < (l0_0.length : Int)) = true := decide_eq_true c19
           clear c19
           have HC20 := Aside0.mk H
           clear H
           have p178 : 0 ≤ (x32_2 : Int) := of_decide_eq_true (by first | (with_reducible assumption) | assumption)
           have q178 : x32_2 < (l0_0.length : Int) := of_decide_eq_true (by first | (with_reducible assumption) | assumption)
           obtain ⟨ad178, e178, hx178_0, hx178_1, hx178_2, hx178_3, hx178_4, hx178_5, hx178_6⟩ := at_T119 HR0_0.out x32_2 p178 q178
           cases e178
           replace hx178_0 := (HB.out.cell (World.block_lt_of_cell? w _ hx178_0)).trans hx178_0
           replace hx178_1 := (HB.out.cell (World.block_lt_of_cell? w _ hx178_1)).trans hx178_1
           replace hx178_2 := (HB.out.cell (World.block_lt_of_cell? w _ hx178_2)).trans hx178_2
           replace hx178_3 := (HB.out.cell (World.block_lt_of_cell? w _ hx178_3)).trans hx178_3
           replace hx178_4 := (HB.out.cell (World.block_lt_of_cell? w _ hx178_4)).trans hx178_4
           replace hx178_5 := (HB.out.cell (World.block_lt_of_cell? w _ hx178_5)).trans hx178_5
           replace hx178_6 := (HB.out.cell (World.block_lt_of_cell? w _ hx178_6)).trans hx178_6
           replace p178 := eq_true p178
           replace q178 := eq_true q178
           go_upto_region 7 with (first | ((with_reducible refine gate_dst (N := 5) rfl ?_); (try (refine gate_guard (by rfl) ?_; dsimp only)); refine box_event ?hg (N := 5) ?hd (cs := #[.int .i64 0, .int .i64 0, .int .i64 0, .int .i64 0, .int .i64 0, .int .i64 0, .int .i64 0]) (t := 119) ?hr ?_; (case hd => rfl); (case hg => rfl); (case hr => first | (go_simp; done) | (go_simp; rfl)); intro gb179 hg w21 hbox hb; have n0_ := Aside0.mk (Kd.R_below (by (with_reducible repeat (first | apply Kd.R_alloc | apply Kd.R_drewN | apply Kd.R_drew)); exact HO_3.out) hb); have n1_ := Aside0.mk (blk_below (g := gb173) (by (with_reducible repeat (first | refine blk_drewN ?_ _ | refine blk_drew ?_ | refine blk_alloc ?_ _)); exact BK173.out) hb); have n2_ := Aside0.mk (below_step (by repeat (first | (with_reducible first | exact HB.out | apply below_alloc | apply pw_below_drewN | apply below_drew1 | refine below_set ?_ GE173.out) | exact HB.out)) hb); have n3_ := Aside0.mk (hbox); have n4_ := Aside0.mk ((by rw [hg]; exact (below_size (by repeat (first | (with_reducible first | exact HB.out | apply below_alloc | apply pw_below_drewN | apply below_drew1 | refine below_set ?_ GE173.out) | exact HB.out))) : w.heap.size ≤ gb179)); have n5_ := Aside0.mk ((by rw [hg]; exact (below_size (by repeat (first | (with_reducible first | exact HB.out | apply below_alloc | apply pw_below_drewN | apply below_drew1 | refine below_set ?_ GE173.out) | exact HB.out))) : w.heap.size ≤ gb179)); have n6_ := Aside0.mk ((by rw [hg]; exact Nat.ne_of_lt (blk_lt (g := gb173) (by (with_reducible repeat (first | refine blk_drewN ?_ _ | refine blk_drew ?_ | refine blk_alloc ?_ _)); exact BK173.out)) : gb173 ≠ gb179)); have n7_ := Aside0.mk ((by rw [hg]; exact Nat.ne_of_gt (blk_lt (g := gb173) (by (with_reducible repeat (first | refine blk_drewN ?_ _ | refine blk_drew ?_ | refine blk_alloc ?_ _)); exact BK173.out)) : gb179 ≠ gb173)); clear HO_3; clear BK173; clear HB; have HO_3 := n0_; have BK173 := n1_; have HB := n2_; have BK179 := n3_; have GW179 := n4_; have GE179 := n5_; have NB173_179 := n6_; have NB179_173 := n7_; clear n0_ n1_ n2_ n3_ n4_ n5_ n6_ n7_; clear hb hbox hg; have hnb22 := NB179_173.out; have hnc22 := NB173_179.out; obtain ⟨hcz23_0, hcz23_1, hcz23_2, hcz23_3, hcz23_4, hcz23_5, hcz23_6⟩ := impl_HouseOk.cl7 BK179.out; obtain ⟨hfz23_0, hfz23_1, hfz23_2, hfz23_3, hfz23_4, hfz23_5, hfz23_6⟩ := impl_HouseOk.fz7 BK179.out))
           (try simp only [Act.put, List.setIfInBounds_toArray, List.set_cons_zero, List.set_cons_succ])
           go_cut [82] (fun v82 wc => ∃ (kq : Nat) (x82_19 : Bool), v82 = .bool x82_19 ∧ Aside0 (impl_HouseOk.j2 kq x3_2 l0_0 (l0_0.length : Int) x32_2 x82_19 l0_0 l0_1 a0_2 ((rd_T119 l0_0 x32_2).f0) ((rd_T119 l0_0 x32_2).f1) ((rd_T119 l0_0 x32_2).f2) ((rd_T119 l0_0 x32_2).f3) ((rd_T119 l0_0 x32_2).f4) ((rd_T119 l0_0 x32_2).f5) ((rd_T119 l0_0 x32_2).f6) = some r) ∧ Aside0 (kq ≤ k2) ∧ Aside0 (Kd.R (Kd.int .i64) 3 wc w.heap.size (fun _ => True) v176 x3_2) ∧ Aside0 (wc.heap[gb173]? = some (.cells #[(.slice (some ad178) l0_0.length c0_0), (.slice A0_1 l0_1.length c0_1), .int .i64 a0_2] 75 (0, 0))) ∧ Aside0 (wc.heap[gb179]? = some (.cells #[.int .i64 ((rd_T119 l0_0 x32_2).f0), .int .i64 ((rd_T119 l0_0 x32_2).f1), .int .i64 ((rd_T119 l0_0 x32_2).f2), .int .i64 ((rd_T119 l0_0 x32_2).f3), .int .i64 ((rd_T119 l0_0 x32_2).f4), .int .i64 ((rd_T119 l0_0 x32_2).f5), .int .i64 ((rd_T119 l0_0 x32_2).f6)] 119 (0, 0))) ∧ Aside0 (Below w.heap.size w wc))
           case first =>
            have H := HC20.out
            clear HC20
            replace H := Option.bind_eq_some_iff.mp H
            obtain ⟨t180, A240, H⟩ := H
            (try dsimp only at H)
            have A24 := Aside0.mk A240
            clear A240
            by_cases c25 : t180 = true
            ·subst c25
             rw [if_pos rfl] at H
             by_cases c26 : x32_2 > 0
             ·rw [if_pos c26] at H
              have c26b0 : decide (0 < x32_2) = true := decide_eq_true c26
              clear c26
              (first | rw [c26b0] | (simp only [i64_w, i32_w]; rw [c26b0]) | skip)
              obtain ⟨ji27, hji27⟩ : ∃ j_ : Int, (wrap64 (x32_2 - 1)) = j_ := ⟨_, rfl⟩
              replace H : (if 0 ≤ (ji27) then (if (ji27) < (l0_0.length : Int) then (if ((rd_T119 l0_0 (ji27)).f0) ≥ ((rd_T119 l0_0 x32_2).f0) then (impl_HouseOk.j2 k2 x3_2 l0_0 (l0_0.length : Int) x32_2 true l0_0 l0_1 a0_2 ((rd_T119 l0_0 x32_2).f0) ((rd_T119 l0_0 x32_2).f1) ((rd_T119 l0_0 x32_2).f2) ((rd_T119 l0_0 x32_2).f3) ((rd_T119 l0_0 x32_2).f4) ((rd_T119 l0_0 x32_2).f5) ((rd_T119 l0_0 x32_2).f6)) else ((impl_in.f ((rd_T119 l0_0 x32_2).f1) 0 (wrap64 ((l0_1.length : Int) - 1))).bind fun t182 => (if t182 = true then ((impl_lotRight.f ((rd_T119 l0_0 x32_2).f2) ((rd_T119 l0_0 x32_2).f3) ((rd_T119 l0_0 x32_2).f4)).bind fun t183 => (if t183 = true then ((impl_in.f ((rd_T119 l0_0 x32_2).f5) 1 5).bind fun t184 => (impl_HouseOk.j2 k2 x3_2 l0_0 (l0_0.length : Int) x32_2 (!t184) l0_0 l0_1 a0_2 ((rd_T119 l0_0 x32_2).f0) ((rd_T119 l0_0 x32_2).f1) ((rd_T119 l0_0 x32_2).f2) ((rd_T119 l0_0 x32_2).f3) ((rd_T119 l0_0 x32_2).f4) ((rd_T119 l0_0 x32_2).f5) ((rd_T119 l0_0 x32_2).f6))) else (impl_HouseOk.j2 k2 x3_2 l0_0 (l0_0.length : Int) x32_2 true l0_0 l0_1 a0_2 ((rd_T119 l0_0 x32_2).f0) ((rd_T119 l0_0 x32_2).f1) ((rd_T119 l0_0 x32_2).f2) ((rd_T119 l0_0 x32_2).f3) ((rd_T119 l0_0 x32_2).f4) ((rd_T119 l0_0 x32_2).f5) ((rd_T119 l0_0 x32_2).f6)))) else (impl_HouseOk.j2 k2 x3_2 l0_0 (l0_0.length : Int) x32_2 true l0_0 l0_1 a0_2 ((rd_T119 l0_0 x32_2).f0) ((rd_T119 l0_0 x32_2).f1) ((rd_T119 l0_0 x32_2).f2) ((rd_T119 l0_0 x32_2).f3) ((rd_T119 l0_0 x32_2).f4) ((rd_T119 l0_0 x32_2).f5) ((rd_T119 l0_0 x32_2).f6))))) else (none)) else (none)) = some r := by first | (rw [hji27] at H; exact H) | (simp only [hji27] at H ⊢; exact H)
              (try rw [hji27] at A24)
              have hji27w : (IntKind.i64.wrap (x32_2 - 1)) = ji27 := (i64_w _).trans hji27
              by_cases c28 : 0 ≤ (ji27)
              ·rw [if_pos c28] at H
               have c28b0 : decide (0 ≤ (ji27)) = true := decide_eq_true c28
               clear c28
               by_cases c29 : (ji27) < (l0_0.length : Int)
               ·rw [if_pos c29] at H
                have c29b0 : decide ((ji27) < (l0_0.length : Int)) = true := decide_eq_true c29
                clear c29
                by_cases c30 : ((rd_T119 l0_0 (ji27)).f0) ≥ ((rd_T119 l0_0 x32_2).f0)
                ·rw [if_pos c30] at H
                 have c30b0 : decide (((rd_T119 l0_0 x32_2).f0) ≤ ((rd_T119 l0_0 (ji27)).f0)) = true := decide_eq_true c30
                 clear c30
                 have H' := Aside0.mk H
                 clear H
                 try go_wp2
                 have n0_ : Aside0 (Kd.R (Kd.int .i64) 3 (((((((w21.setCell ⟨gb179, 0, none⟩ (.int .i64 ((rd_T119 l0_0 x32_2).f0))).setCell ⟨gb179, 1, none⟩ (.int .i64 ((rd_T119 l0_0 x32_2).f1))).setCell ⟨gb179, 2, none⟩ (.int .i64 ((rd_T119 l0_0 x32_2).f2))).setCell ⟨gb179, 3, none⟩ (.int .i64 ((rd_T119 l0_0 x32_2).f3))).setCell ⟨gb179, 4, none⟩ (.int .i64 ((rd_T119 l0_0 x32_2).f4))).setCell ⟨gb179, 5, none⟩ (.int .i64 ((rd_T119 l0_0 x32_2).f5))).setCell ⟨gb179, 6, none⟩ (.int .i64 ((rd_T119 l0_0 x32_2).f6))) w.heap.size (fun _ => True) v176 x3_2) := ⟨by (with_reducible repeat (first | apply Kd.R_alloc | apply Kd.R_drewN | apply Kd.R_drew)); exact Kd.R_mono (Kd.R_far (p := ⟨gb179, 6, none⟩) (Kd.R_far (p := ⟨gb179, 5, none⟩) (Kd.R_far (p := ⟨gb179, 4, none⟩) (Kd.R_far (p := ⟨gb179, 3, none⟩) (Kd.R_far (p := ⟨gb179, 2, none⟩) (Kd.R_far (p := ⟨gb179, 1, none⟩) (Kd.R_far (p := ⟨gb179, 0, none⟩) (Kd.R_types HO_3.out BK179.out (by decide)) (fun _ hk => hk.2) (.int .i64 ((rd_T119 l0_0 x32_2).f0))) (fun _ hk => hk.2) (.int .i64 ((rd_T119 l0_0 x32_2).f1))) (fun _ hk => hk.2) (.int .i64 ((rd_T119 l0_0 x32_2).f2))) (fun _ hk => hk.2) (.int .i64 ((rd_T119 l0_0 x32_2).f3))) (fun _ hk => hk.2) (.int .i64 ((rd_T119 l0_0 x32_2).f4))) (fun _ hk => hk.2) (.int .i64 ((rd_T119 l0_0 x32_2).f5))) (fun _ hk => hk.2) (.int .i64 ((rd_T119 l0_0 x32_2).f6))) (fun _ hk => trivial)⟩
                 have n1_ : Aside0 ((((((((w21.setCell ⟨gb179, 0, none⟩ (.int .i64 ((rd_T119 l0_0 x32_2).f0))).setCell ⟨gb179, 1, none⟩ (.int .i64 ((rd_T119 l0_0 x32_2).f1))).setCell ⟨gb179, 2, none⟩ (.int .i64 ((rd_T119 l0_0 x32_2).f2))).setCell ⟨gb179, 3, none⟩ (.int .i64 ((rd_T119 l0_0 x32_2).f3))).setCell ⟨gb179, 4, none⟩ (.int .i64 ((rd_T119 l0_0 x32_2).f4))).setCell ⟨gb179, 5, none⟩ (.int .i64 ((rd_T119 l0_0 x32_2).f5))).setCell ⟨gb179, 6, none⟩ (.int .i64 ((rd_T119 l0_0 x32_2).f6))).heap[gb173]? = some (.cells #[.slice (some ad178) l0_0.length c0_0, .slice A0_1 l0_1.length c0_1, .int .i64 a0_2] 75 (0, 0))) := ⟨by (with_reducible repeat (first | refine blk_drewN ?_ _ | refine blk_drew ?_ | refine blk_alloc ?_ _)); refine blk_far ?_ NB173_179.out _; (with_reducible repeat (first | refine blk_drewN ?_ _ | refine blk_drew ?_ | refine blk_alloc ?_ _)); refine blk_far ?_ NB173_179.out _; (with_reducible repeat (first | refine blk_drewN ?_ _ | refine blk_drew ?_ | refine blk_alloc ?_ _)); refine blk_far ?_ NB173_179.out _; (with_reducible repeat (first | refine blk_drewN ?_ _ | refine blk_drew ?_ | refine blk_alloc ?_ _)); refine blk_far ?_ NB173_179.out _; (with_reducible repeat (first | refine blk_drewN ?_ _ | refine blk_drew ?_ | refine blk_alloc ?_ _)); refine blk_far ?_ NB173_179.out _; (with_reducible repeat (first | refine blk_drewN ?_ _ | refine blk_drew ?_ | refine blk_alloc ?_ _)); refine blk_far ?_ NB173_179.out _; (with_reducible repeat (first | refine blk_drewN ?_ _ | refine blk_drew ?_ | refine blk_alloc ?_ _)); refine blk_far ?_ NB173_179.out _; (with_reducible repeat (first | refine blk_drewN ?_ _ | refine blk_drew ?_ | refine blk_alloc ?_ _)); exact BK173.out⟩
                 have n2_ : Aside0 ((((((((w21.setCell ⟨gb179, 0, none⟩ (.int .i64 ((rd_T119 l0_0 x32_2).f0))).setCell ⟨gb179, 1, none⟩ (.int .i64 ((rd_T119 l0_0 x32_2).f1))).setCell ⟨gb179, 2, none⟩ (.int .i64 ((rd_T119 l0_0 x32_2).f2))).setCell ⟨gb179, 3, none⟩ (.int .i64 ((rd_T119 l0_0 x32_2).f3))).setCell ⟨gb179, 4, none⟩ (.int .i64 ((rd_T119 l0_0 x32_2).f4))).setCell ⟨gb179, 5, none⟩ (.int .i64 ((rd_T119 l0_0 x32_2).f5))).setCell ⟨gb179, 6, none⟩ (.int .i64 ((rd_T119 l0_0 x32_2).f6))).heap[gb179]? = some (.cells #[.int .i64 ((rd_T119 l0_0 x32_2).f0), .int .i64 ((rd_T119 l0_0 x32_2).f1), .int .i64 ((rd_T119 l0_0 x32_2).f2), .int .i64 ((rd_T119 l0_0 x32_2).f3), .int .i64 ((rd_T119 l0_0 x32_2).f4), .int .i64 ((rd_T119 l0_0 x32_2).f5), .int .i64 ((rd_T119 l0_0 x32_2).f6)] 119 (0, 0))) := ⟨by (with_reducible repeat (first | refine blk_drewN ?_ _ | refine blk_drew ?_ | refine blk_alloc ?_ _)); refine blk_put (cs := #[.int .i64 ((rd_T119 l0_0 x32_2).f0), .int .i64 ((rd_T119 l0_0 x32_2).f1), .int .i64 ((rd_T119 l0_0 x32_2).f2), .int .i64 ((rd_T119 l0_0 x32_2).f3), .int .i64 ((rd_T119 l0_0 x32_2).f4), .int .i64 ((rd_T119 l0_0 x32_2).f5), .int .i64 0]) ?_ 6 _ rfl; (with_reducible repeat (first | refine blk_drewN ?_ _ | refine blk_drew ?_ | refine blk_alloc ?_ _)); refine blk_put (cs := #[.int .i64 ((rd_T119 l0_0 x32_2).f0), .int .i64 ((rd_T119 l0_0 x32_2).f1), .int .i64 ((rd_T119 l0_0 x32_2).f2), .int .i64 ((rd_T119 l0_0 x32_2).f3), .int .i64 ((rd_T119 l0_0 x32_2).f4), .int .i64 0, .int .i64 0]) ?_ 5 _ rfl; (with_reducible repeat (first | refine blk_drewN ?_ _ | refine blk_drew ?_ | refine blk_alloc ?_ _)); refine blk_put (cs := #[.int .i64 ((rd_T119 l0_0 x32_2).f0), .int .i64 ((rd_T119 l0_0 x32_2).f1), .int .i64 ((rd_T119 l0_0 x32_2).f2), .int .i64 ((rd_T119 l0_0 x32_2).f3), .int .i64 0, .int .i64 0, .int .i64 0]) ?_ 4 _ rfl; (with_reducible repeat (first | refine blk_drewN ?_ _ | refine blk_drew ?_ | refine blk_alloc ?_ _)); refine blk_put (cs := #[.int .i64 ((rd_T119 l0_0 x32_2).f0), .int .i64 ((rd_T119 l0_0 x32_2).f1), .int .i64 ((rd_T119 l0_0 x32_2).f2), .int .i64 0, .int .i64 0, .int .i64 0, .int .i64 0]) ?_ 3 _ rfl; (with_reducible repeat (first | refine blk_drewN ?_ _ | refine blk_drew ?_ | refine blk_alloc ?_ _)); refine blk_put (cs := #[.int .i64 ((rd_T119 l0_0 x32_2).f0), .int .i64 ((rd_T119 l0_0 x32_2).f1), .int .i64 0, .int .i64 0, .int .i64 0, .int .i64 0, .int .i64 0]) ?_ 2 _ rfl; (with_reducible repeat (first | refine blk_drewN ?_ _ | refine blk_drew ?_ | refine blk_alloc ?_ _)); refine blk_put (cs := #[.int .i64 ((rd_T119 l0_0 x32_2).f0), .int .i64 0, .int .i64 0, .int .i64 0, .int .i64 0, .int .i64 0, .int .i64 0]) ?_ 1 _ rfl; (with_reducible repeat (first | refine blk_drewN ?_ _ | refine blk_drew ?_ | refine blk_alloc ?_ _)); refine blk_put (cs := #[.int .i64 0, .int .i64 0, .int .i64 0, .int .i64 0, .int .i64 0, .int .i64 0, .int .i64 0]) ?_ 0 _ rfl; (with_reducible repeat (first | refine blk_drewN ?_ _ | refine blk_drew ?_ | refine blk_alloc ?_ _)); exact BK179.out⟩
                 have n3_ : Aside0 (Below w.heap.size w (((((((w21.setCell ⟨gb179, 0, none⟩ (.int .i64 ((rd_T119 l0_0 x32_2).f0))).setCell ⟨gb179, 1, none⟩ (.int .i64 ((rd_T119 l0_0 x32_2).f1))).setCell ⟨gb179, 2, none⟩ (.int .i64 ((rd_T119 l0_0 x32_2).f2))).setCell ⟨gb179, 3, none⟩ (.int .i64 ((rd_T119 l0_0 x32_2).f3))).setCell ⟨gb179, 4, none⟩ (.int .i64 ((rd_T119 l0_0 x32_2).f4))).setCell ⟨gb179, 5, none⟩ (.int .i64 ((rd_T119 l0_0 x32_2).f5))).setCell ⟨gb179, 6, none⟩ (.int .i64 ((rd_T119 l0_0 x32_2).f6)))) := ⟨by repeat (first | (with_reducible first | exact HB.out | apply below_alloc | apply pw_below_drewN | apply below_drew1 | refine below_set ?_ GE173.out | refine below_set ?_ GE179.out) | exact HB.out)⟩
                 (try clear HO_3)
                 (try clear BK173)
                 (try clear BK179)
                 (try clear HB)
                 generalize (((((((w21.setCell ⟨gb179, 0, none⟩ (.int .i64 ((rd_T119 l0_0 x32_2).f0))).setCell ⟨gb179, 1, none⟩ (.int .i64 ((rd_T119 l0_0 x32_2).f1))).setCell ⟨gb179, 2, none⟩ (.int .i64 ((rd_T119 l0_0 x32_2).f2))).setCell ⟨gb179, 3, none⟩ (.int .i64 ((rd_T119 l0_0 x32_2).f3))).setCell ⟨gb179, 4, none⟩ (.int .i64 ((rd_T119 l0_0 x32_2).f4))).setCell ⟨gb179, 5, none⟩ (.int .i64 ((rd_T119 l0_0 x32_2).f5))).setCell ⟨gb179, 6, none⟩ (.int .i64 ((rd_T119 l0_0 x32_2).f6))) = w31 at n0_ n1_ n2_ n3_ ⊢
                 try replace n0_ := Aside0.mk (by first | exact Kd.R_drewN n0_.out nd | exact blk_drewN n0_.out nd | exact pw_below_drewN n0_.out nd)
                 try replace n1_ := Aside0.mk (by first | exact Kd.R_drewN n1_.out nd | exact blk_drewN n1_.out nd | exact pw_below_drewN n1_.out nd)
                 try replace n2_ := Aside0.mk (by first | exact Kd.R_drewN n2_.out nd | exact blk_drewN n2_.out nd | exact pw_below_drewN n2_.out nd)
                 try replace n3_ := Aside0.mk (by first | exact Kd.R_drewN n3_.out nd | exact blk_drewN n3_.out nd | exact pw_below_drewN n3_.out nd)
                 try generalize w31.drewN nd = w31 at n0_ n1_ n2_ n3_ ⊢
                 have HO_3 := n0_
                 have BK173 := n1_
                 have BK179 := n2_
                 have HB := n3_
                 clear n0_ n1_ n2_ n3_
                 have n0_ := Aside0.mk (Kd.R_drew HO_3.out)
                 have n1_ := Aside0.mk (blk_drew BK173.out)
                 have n2_ := Aside0.mk (blk_drew BK179.out)
                 have n3_ := Aside0.mk (below_drew1 HB.out)
                 clear HO_3
                 clear BK173
                 clear BK179
                 clear HB
                 have HO_3 := n0_
                 have BK173 := n1_
                 have BK179 := n2_
                 have HB := n3_
                 clear n0_ n1_ n2_ n3_
                 have p181 : 0 ≤ ((ji27) : Int) := of_decide_eq_true (by first | (with_reducible assumption) | assumption)
                 have q181 : (ji27) < (l0_0.length : Int) := of_decide_eq_true (by first | (with_reducible assumption) | assumption)
                 obtain ⟨ad181, e181, hx181_0, hx181_1, hx181_2, hx181_3, hx181_4, hx181_5, hx181_6⟩ := at_T119 HR0_0.out (ji27) p181 q181
                 have hw181_6 := hx181_6
                 have hw181_5 := hx181_5
                 have hw181_4 := hx181_4
                 have hw181_3 := hx181_3
                 have hw181_2 := hx181_2
                 have hw181_1 := hx181_1
                 have hw181_0 := hx181_0
                 obtain rfl : ad178 = ad181 := (by injection e181)
                 replace hx181_0 := (HB.out.cell (World.block_lt_of_cell? w _ hx181_0)).trans hx181_0
                 replace hx181_1 := (HB.out.cell (World.block_lt_of_cell? w _ hx181_1)).trans hx181_1
                 replace hx181_2 := (HB.out.cell (World.block_lt_of_cell? w _ hx181_2)).trans hx181_2
                 replace hx181_3 := (HB.out.cell (World.block_lt_of_cell? w _ hx181_3)).trans hx181_3
                 replace hx181_4 := (HB.out.cell (World.block_lt_of_cell? w _ hx181_4)).trans hx181_4
                 replace hx181_5 := (HB.out.cell (World.block_lt_of_cell? w _ hx181_5)).trans hx181_5
                 replace hx181_6 := (HB.out.cell (World.block_lt_of_cell? w _ hx181_6)).trans hx181_6
                 replace p181 := eq_true p181
                 replace q181 := eq_true q181
                 refine start_ (n := 46) (S := fun w' => w'.cell? ⟨gb179, 0, none⟩ = some (.int .i64 ((rd_T119 l0_0 x32_2).f0)) ∧ w'.cell? ⟨gb179, 1, none⟩ = some (.int .i64 ((rd_T119 l0_0 x32_2).f1)) ∧ w'.cell? ⟨gb179, 2, none⟩ = some (.int .i64 ((rd_T119 l0_0 x32_2).f2)) ∧ w'.cell? ⟨gb179, 3, none⟩ = some (.int .i64 ((rd_T119 l0_0 x32_2).f3)) ∧ w'.cell? ⟨gb179, 4, none⟩ = some (.int .i64 ((rd_T119 l0_0 x32_2).f4)) ∧ w'.cell? ⟨gb179, 5, none⟩ = some (.int .i64 ((rd_T119 l0_0 x32_2).f5)) ∧ w'.cell? ⟨gb179, 6, none⟩ = some (.int .i64 ((rd_T119 l0_0 x32_2).f6)) ∧ w'.cell? ⟨gb173, 0, none⟩ = some (.slice (some ad178) l0_0.length c0_0) ∧ w'.cell? ⟨gb173, 1, none⟩ = some (.slice A0_1 l0_1.length c0_1) ∧ w'.cell? ⟨gb173, 2, none⟩ = some (.int .i64 a0_2) ∧ w'.cell? (ad178.add (((ji27)).toNat * 7)) = some (.int .i64 ((rd_T119 l0_0 (ji27)).f0)) ∧ w'.cell? ⟨(ad178.add (((ji27)).toNat * 7)).block, (ad178.add (((ji27)).toNat * 7)).off + 1, none⟩ = some (.int .i64 ((rd_T119 l0_0 (ji27)).f1)) ∧ w'.cell? ⟨(ad178.add (((ji27)).toNat * 7)).block, (ad178.add (((ji27)).toNat * 7)).off + 2, none⟩ = some (.int .i64 ((rd_T119 l0_0 (ji27)).f2)) ∧ w'.cell? ⟨(ad178.add (((ji27)).toNat * 7)).block, (ad178.add (((ji27)).toNat * 7)).off + 3, none⟩ = some (.int .i64 ((rd_T119 l0_0 (ji27)).f3)) ∧ w'.cell? ⟨(ad178.add (((ji27)).toNat * 7)).block, (ad178.add (((ji27)).toNat * 7)).off + 4, none⟩ = some (.int .i64 ((rd_T119 l0_0 (ji27)).f4)) ∧ w'.cell? ⟨(ad178.add (((ji27)).toNat * 7)).block, (ad178.add (((ji27)).toNat * 7)).off + 5, none⟩ = some (.int .i64 ((rd_T119 l0_0 (ji27)).f5)) ∧ w'.cell? ⟨(ad178.add (((ji27)).toNat * 7)).block, (ad178.add (((ji27)).toNat * 7)).off + 6, none⟩ = some (.int .i64 ((rd_T119 l0_0 (ji27)).f6))) (ds := []) impl_HouseOk.v0 (by kernel_rfl) rfl rfl ⟨(blk_cell BK179.out 0).trans rfl, (blk_cell BK179.out 1).trans rfl, (blk_cell BK179.out 2).trans rfl, (blk_cell BK179.out 3).trans rfl, (blk_cell BK179.out 4).trans rfl, (blk_cell BK179.out 5).trans rfl, (blk_cell BK179.out 6).trans rfl, (blk_cell BK173.out 0).trans rfl, (blk_cell BK173.out 1).trans rfl, (blk_cell BK173.out 2).trans rfl, ((HB.out.cell (World.block_lt_of_cell? w _ hw181_0)).trans hw181_0), ((HB.out.cell (World.block_lt_of_cell? w _ hw181_1)).trans hw181_1), ((HB.out.cell (World.block_lt_of_cell? w _ hw181_2)).trans hw181_2), ((HB.out.cell (World.block_lt_of_cell? w _ hw181_3)).trans hw181_3), ((HB.out.cell (World.block_lt_of_cell? w _ hw181_4)).trans hw181_4), ((HB.out.cell (World.block_lt_of_cell? w _ hw181_5)).trans hw181_5), ((HB.out.cell (World.block_lt_of_cell? w _ hw181_6)).trans hw181_6)⟩ (fun hHeld => ?_); refine with_tabW impl_HouseOk.tab7 impl_HouseOk.bits7 (fun HT_ HW_ => ?_)
                 generalize w31.drew = w32 at HO_3 BK173 BK179 HB hx181_0 hx181_1 hx181_2 hx181_3 hx181_4 hx181_5 hx181_6 hHeld ⊢
                 refine Sk.pq 0 37 impl_HouseOk.v1 HT_.out (h := ?_)
                 refine Sk.tk17 1 38 impl_HouseOk.v2 HT_.out HW_.out hHeld (h := ?_)
                 refine one_ (i := 2) (N := some 39) impl_HouseOk.v3 rfl rfl (one_of HT_.out (by kernel_rfl)) (by decide) (fun K hK => ?_)
                 refine goes_ Try.func87 (by kernel_rfl) rfl #[.int .i64 ((rd_T119 l0_0 x32_2).f0)] (by rfl) rfl rfl (by (try simp only [List.map_toArray, List.map_cons, List.map_nil]); first | done | rfl | (simp only [List.length_drop, List.length_take]; rfl)) ?_
                 with_reducible refine (impl_idRight.calls ((rd_T119 l0_0 x32_2).f0) true _ A24.out).mono ?_
                 rintro e w' ⟨rfl, ⟨nd, rfl⟩⟩
                 refine ⟨_, rfl, ?_⟩
                 refine hK.out _ _ ⟨(blk_cell BK179.out 0).trans rfl, (blk_cell BK179.out 1).trans rfl, (blk_cell BK179.out 2).trans rfl, (blk_cell BK179.out 3).trans rfl, (blk_cell BK179.out 4).trans rfl, (blk_cell BK179.out 5).trans rfl, (blk_cell BK179.out 6).trans rfl, (blk_cell BK173.out 0).trans rfl, (blk_cell BK173.out 1).trans rfl, (blk_cell BK173.out 2).trans rfl, ((HB.out.cell (World.block_lt_of_cell? w _ hw181_0)).trans hw181_0), ((HB.out.cell (World.block_lt_of_cell? w _ hw181_1)).trans hw181_1), ((HB.out.cell (World.block_lt_of_cell? w _ hw181_2)).trans hw181_2), ((HB.out.cell (World.block_lt_of_cell? w _ hw181_3)).trans hw181_3), ((HB.out.cell (World.block_lt_of_cell? w _ hw181_4)).trans hw181_4), ((HB.out.cell (World.block_lt_of_cell? w _ hw181_5)).trans hw181_5), ((HB.out.cell (World.block_lt_of_cell? w _ hw181_6)).trans hw181_6)⟩ (fun hHeld => ?_)
                 clear hK K
                 refine Sk.nm 39 (h := ?_)
                 refine Sk.pq 3 40 impl_HouseOk.v4 HT_.out (h := ?_)
                 refine Sk.pq 4 41 impl_HouseOk.v5 HT_.out (h := ?_)
                 refine Sk.pq 5 42 impl_HouseOk.v6 HT_.out (h := ?_)
                 refine Sk.pq 6 43 impl_HouseOk.v7 HT_.out (h := ?_)
                 refine Sk.pq 7 44 impl_HouseOk.v8 HT_.out (h := ?_)
                 refine Sk.pq 8 45 impl_HouseOk.v9 HT_.out (h := ?_)
                 refine Sk.pq 10 47 impl_HouseOk.v10 HT_.out (h := ?_)
                 refine Sk.pq 11 48 impl_HouseOk.v11 HT_.out (h := ?_)
                 refine Sk.pq 15 52 impl_HouseOk.v12 HT_.out (h := ?_)
                 refine Sk.tk17 9 46 impl_HouseOk.v13 HT_.out HW_.out hHeld (h := ?_)
                 refine Sk.pq 12 49 impl_HouseOk.v14 HT_.out (h := ?_)
                 refine Sk.pq 13 50 impl_HouseOk.v15 HT_.out (h := ?_)
                 refine Sk.tk17 14 51 impl_HouseOk.v16 HT_.out HW_.out hHeld (h := ?_)
                 refine Sk.tk17 16 53 impl_HouseOk.v17 HT_.out HW_.out hHeld (h := ?_)
                 refine Sk.pq 17 54 impl_HouseOk.v18 HT_.out (h := ?_)
                 refine Sk.pq 18 55 impl_HouseOk.v19 HT_.out (h := ?_)
                 refine Sk.pq 19 56 impl_HouseOk.v20 HT_.out (h := ?_)
                 refine Sk.pq 20 57 impl_HouseOk.v21 HT_.out (h := ?_)
                 refine Sk.pu 21 58 impl_HouseOk.v22 HT_.out (h := ?_)
                 refine Sk.pu 22 59 impl_HouseOk.v23 HT_.out (h := ?_)
                 refine Sk.pu 23 60 impl_HouseOk.v24 HT_.out (h := ?_)
                 refine Sk.pu 24 61 impl_HouseOk.v25 HT_.out (h := ?_)
                 refine Sk.pu 25 62 impl_HouseOk.v26 HT_.out (h := ?_)
                 refine Sk.pu 26 63 impl_HouseOk.v27 HT_.out (h := ?_)
                 refine Sk.pu 27 64 impl_HouseOk.v28 HT_.out (h := ?_)
                 refine Sk.pu 28 65 impl_HouseOk.v29 HT_.out (h := ?_)
                 refine Sk.pq 29 66 impl_HouseOk.v30 HT_.out (h := ?_)
                 refine Sk.pq 30 67 impl_HouseOk.v31 HT_.out (h := ?_)
                 refine Sk.pu 31 68 impl_HouseOk.v32 HT_.out (h := ?_)
                 refine Sk.pu 32 69 impl_HouseOk.v33 HT_.out (h := ?_)
                 refine Sk.pu 33 70 impl_HouseOk.v34 HT_.out (h := ?_)
                 refine Sk.pu 34 71 impl_HouseOk.v35 HT_.out (h := ?_)
                 refine Sk.pu 35 72 impl_HouseOk.v36 HT_.out (h := ?_)
                 refine Sk.pu 36 73 impl_HouseOk.v37 HT_.out (h := ?_)
                 refine Sk.pu 37 74 impl_HouseOk.v38 HT_.out (h := ?_)
                 refine Sk.pu 38 75 impl_HouseOk.v39 HT_.out (h := ?_)
                 refine Sk.pq 39 76 impl_HouseOk.v40 HT_.out (h := ?_)
                 refine Sk.pq 40 77 impl_HouseOk.v41 HT_.out (h := ?_)
                 refine Sk.pu 41 78 impl_HouseOk.v42 HT_.out (h := ?_)
                 refine Sk.pu 42 79 impl_HouseOk.v43 HT_.out (h := ?_)
                 refine Sk.pu 43 80 impl_HouseOk.v44 HT_.out (h := ?_)
                 refine Sk.pu 44 81 impl_HouseOk.v45 HT_.out (h := ?_)
                 refine Sk.pq 45 82 impl_HouseOk.v46 HT_.out (h := ?_)
                 refine done_ (done_of HT_.out (by kernel_rfl)) ?_
                 try go_wp2
                 go_meet
                 case rel => exact ⟨_, (true), (by first | rfl | (simp; done) | (simp [*]; done)), H', ⟨by have := HJ1.out; have := HK2.out; first | omega | exact Nat.le_refl _⟩, ⟨by (with_reducible repeat (first | apply Kd.R_alloc | apply Kd.R_drewN | apply Kd.R_drew)); exact HO_3.out⟩, ⟨by (with_reducible repeat (first | refine blk_drewN ?_ _ | refine blk_drew ?_ | refine blk_alloc ?_ _)); exact BK173.out⟩, ⟨by (with_reducible repeat (first | refine blk_drewN ?_ _ | refine blk_drew ?_ | refine blk_alloc ?_ _)); exact BK179.out⟩, ⟨by repeat (first | (with_reducible first | exact HB.out | apply below_alloc | apply pw_below_drewN | apply below_drew1 | refine below_set ?_ GE173.out | refine below_set ?_ GE179.out) | exact HB.out)⟩⟩
                ·rw [if_neg c30] at H
                 have c30b0 : decide (((rd_T119 l0_0 x32_2).f0) ≤ ((rd_T119 l0_0 (ji27)).f0)) = false := decide_eq_false c30
                 clear c30
                 replace H := Option.bind_eq_some_iff.mp H
                 obtain ⟨t182, A330, H⟩ := H
                 (try dsimp only at H)
                 have A33 := Aside0.mk A330
                 clear A330
                 by_cases c34 : t182 = true
                 ·subst c34
                  rw [if_pos rfl] at H
                  replace H := Option.bind_eq_some_iff.mp H
                  obtain ⟨t183, A350, H⟩ := H
                  (try dsimp only at H)
                  have A35 := Aside0.mk A350
                  clear A350
                  by_cases c36 : t183 = true
                  ·subst c36
                   rw [if_pos rfl] at H
                   replace H := Option.bind_eq_some_iff.mp H
                   obtain ⟨t184, A370, H⟩ := H
                   (try dsimp only at H)
                   have A37 := Aside0.mk A370
                   clear A370
                   have H' := Aside0.mk H
                   clear H
                   try go_wp2
                   have n0_ : Aside0 (Kd.R (Kd.int .i64) 3 (((((((w21.setCell ⟨gb179, 0, none⟩ (.int .i64 ((rd_T119 l0_0 x32_2).f0))).setCell ⟨gb179, 1, none⟩ (.int .i64 ((rd_T119 l0_0 x32_2).f1))).setCell ⟨gb179, 2, none⟩ (.int .i64 ((rd_T119 l0_0 x32_2).f2))).setCell ⟨gb179, 3, none⟩ (.int .i64 ((rd_T119 l0_0 x32_2).f3))).setCell ⟨gb179, 4, none⟩ (.int .i64 ((rd_T119 l0_0 x32_2).f4))).setCell ⟨gb179, 5, none⟩ (.int .i64 ((rd_T119 l0_0 x32_2).f5))).setCell ⟨gb179, 6, none⟩ (.int .i64 ((rd_T119 l0_0 x32_2).f6))) w.heap.size (fun _ => True) v176 x3_2) := ⟨by (with_reducible repeat (first | apply Kd.R_alloc | apply Kd.R_drewN | apply Kd.R_drew)); exact Kd.R_mono (Kd.R_far (p := ⟨gb179, 6, none⟩) (Kd.R_far (p := ⟨gb179, 5, none⟩) (Kd.R_far (p := ⟨gb179, 4, none⟩) (Kd.R_far (p := ⟨gb179, 3, none⟩) (Kd.R_far (p := ⟨gb179, 2, none⟩) (Kd.R_far (p := ⟨gb179, 1, none⟩) (Kd.R_far (p := ⟨gb179, 0, none⟩) (Kd.R_types HO_3.out BK179.out (by decide)) (fun _ hk => hk.2) (.int .i64 ((rd_T119 l0_0 x32_2).f0))) (fun _ hk => hk.2) (.int .i64 ((rd_T119 l0_0 x32_2).f1))) (fun _ hk => hk.2) (.int .i64 ((rd_T119 l0_0 x32_2).f2))) (fun _ hk => hk.2) (.int .i64 ((rd_T119 l0_0 x32_2).f3))) (fun _ hk => hk.2) (.int .i64 ((rd_T119 l0_0 x32_2).f4))) (fun _ hk => hk.2) (.int .i64 ((rd_T119 l0_0 x32_2).f5))) (fun _ hk => hk.2) (.int .i64 ((rd_T119 l0_0 x32_2).f6))) (fun _ hk => trivial)⟩
                   have n1_ : Aside0 ((((((((w21.setCell ⟨gb179, 0, none⟩ (.int .i64 ((rd_T119 l0_0 x32_2).f0))).setCell ⟨gb179, 1, none⟩ (.int .i64 ((rd_T119 l0_0 x32_2).f1))).setCell ⟨gb179, 2, none⟩ (.int .i64 ((rd_T119 l0_0 x32_2).f2))).setCell ⟨gb179, 3, none⟩ (.int .i64 ((rd_T119 l0_0 x32_2).f3))).setCell ⟨gb179, 4, none⟩ (.int .i64 ((rd_T119 l0_0 x32_2).f4))).setCell ⟨gb179, 5, none⟩ (.int .i64 ((rd_T119 l0_0 x32_2).f5))).setCell ⟨gb179, 6, none⟩ (.int .i64 ((rd_T119 l0_0 x32_2).f6))).heap[gb173]? = some (.cells #[.slice (some ad178) l0_0.length c0_0, .slice A0_1 l0_1.length c0_1, .int .i64 a0_2] 75 (0, 0))) := ⟨by (with_reducible repeat (first | refine blk_drewN ?_ _ | refine blk_drew ?_ | refine blk_alloc ?_ _)); refine blk_far ?_ NB173_179.out _; (with_reducible repeat (first | refine blk_drewN ?_ _ | refine blk_drew ?_ | refine blk_alloc ?_ _)); refine blk_far ?_ NB173_179.out _; (with_reducible repeat (first | refine blk_drewN ?_ _ | refine blk_drew ?_ | refine blk_alloc ?_ _)); refine blk_far ?_ NB173_179.out _; (with_reducible repeat (first | refine blk_drewN ?_ _ | refine blk_drew ?_ | refine blk_alloc ?_ _)); refine blk_far ?_ NB173_179.out _; (with_reducible repeat (first | refine blk_drewN ?_ _ | refine blk_drew ?_ | refine blk_alloc ?_ _)); refine blk_far ?_ NB173_179.out _; (with_reducible repeat (first | refine blk_drewN ?_ _ | refine blk_drew ?_ | refine blk_alloc ?_ _)); refine blk_far ?_ NB173_179.out _; (with_reducible repeat (first | refine blk_drewN ?_ _ | refine blk_drew ?_ | refine blk_alloc ?_ _)); refine blk_far ?_ NB173_179.out _; (with_reducible repeat (first | refine blk_drewN ?_ _ | refine blk_drew ?_ | refine blk_alloc ?_ _)); exact BK173.out⟩
                   have n2_ : Aside0 ((((((((w21.setCell ⟨gb179, 0, none⟩ (.int .i64 ((rd_T119 l0_0 x32_2).f0))).setCell ⟨gb179, 1, none⟩ (.int .i64 ((rd_T119 l0_0 x32_2).f1))).setCell ⟨gb179, 2, none⟩ (.int .i64 ((rd_T119 l0_0 x32_2).f2))).setCell ⟨gb179, 3, none⟩ (.int .i64 ((rd_T119 l0_0 x32_2).f3))).setCell ⟨gb179, 4, none⟩ (.int .i64 ((rd_T119 l0_0 x32_2).f4))).setCell ⟨gb179, 5, none⟩ (.int .i64 ((rd_T119 l0_0 x32_2).f5))).setCell ⟨gb179, 6, none⟩ (.int .i64 ((rd_T119 l0_0 x32_2).f6))).heap[gb179]? = some (.cells #[.int .i64 ((rd_T119 l0_0 x32_2).f0), .int .i64 ((rd_T119 l0_0 x32_2).f1), .int .i64 ((rd_T119 l0_0 x32_2).f2), .int .i64 ((rd_T119 l0_0 x32_2).f3), .int .i64 ((rd_T119 l0_0 x32_2).f4), .int .i64 ((rd_T119 l0_0 x32_2).f5), .int .i64 ((rd_T119 l0_0 x32_2).f6)] 119 (0, 0))) := ⟨by (with_reducible repeat (first | refine blk_drewN ?_ _ | refine blk_drew ?_ | refine blk_alloc ?_ _)); refine blk_put (cs := #[.int .i64 ((rd_T119 l0_0 x32_2).f0), .int .i64 ((rd_T119 l0_0 x32_2).f1), .int .i64 ((rd_T119 l0_0 x32_2).f2), .int .i64 ((rd_T119 l0_0 x32_2).f3), .int .i64 ((rd_T119 l0_0 x32_2).f4), .int .i64 ((rd_T119 l0_0 x32_2).f5), .int .i64 0]) ?_ 6 _ rfl; (with_reducible repeat (first | refine blk_drewN ?_ _ | refine blk_drew ?_ | refine blk_alloc ?_ _)); refine blk_put (cs := #[.int .i64 ((rd_T119 l0_0 x32_2).f0), .int .i64 ((rd_T119 l0_0 x32_2).f1), .int .i64 ((rd_T119 l0_0 x32_2).f2), .int .i64 ((rd_T119 l0_0 x32_2).f3), .int .i64 ((rd_T119 l0_0 x32_2).f4), .int .i64 0, .int .i64 0]) ?_ 5 _ rfl; (with_reducible repeat (first | refine blk_drewN ?_ _ | refine blk_drew ?_ | refine blk_alloc ?_ _)); refine blk_put (cs := #[.int .i64 ((rd_T119 l0_0 x32_2).f0), .int .i64 ((rd_T119 l0_0 x32_2).f1), .int .i64 ((rd_T119 l0_0 x32_2).f2), .int .i64 ((rd_T119 l0_0 x32_2).f3), .int .i64 0, .int .i64 0, .int .i64 0]) ?_ 4 _ rfl; (with_reducible repeat (first | refine blk_drewN ?_ _ | refine blk_drew ?_ | refine blk_alloc ?_ _)); refine blk_put (cs := #[.int .i64 ((rd_T119 l0_0 x32_2).f0), .int .i64 ((rd_T119 l0_0 x32_2).f1), .int .i64 ((rd_T119 l0_0 x32_2).f2), .int .i64 0, .int .i64 0, .int .i64 0, .int .i64 0]) ?_ 3 _ rfl; (with_reducible repeat (first | refine blk_drewN ?_ _ | refine blk_drew ?_ | refine blk_alloc ?_ _)); refine blk_put (cs := #[.int .i64 ((rd_T119 l0_0 x32_2).f0), .int .i64 ((rd_T119 l0_0 x32_2).f1), .int .i64 0, .int .i64 0, .int .i64 0, .int .i64 0, .int .i64 0]) ?_ 2 _ rfl; (with_reducible repeat (first | refine blk_drewN ?_ _ | refine blk_drew ?_ | refine blk_alloc ?_ _)); refine blk_put (cs := #[.int .i64 ((rd_T119 l0_0 x32_2).f0), .int .i64 0, .int .i64 0, .int .i64 0, .int .i64 0, .int .i64 0, .int .i64 0]) ?_ 1 _ rfl; (with_reducible repeat (first | refine blk_drewN ?_ _ | refine blk_drew ?_ | refine blk_alloc ?_ _)); refine blk_put (cs := #[.int .i64 0, .int .i64 0, .int .i64 0, .int .i64 0, .int .i64 0, .int .i64 0, .int .i64 0]) ?_ 0 _ rfl; (with_reducible repeat (first | refine blk_drewN ?_ _ | refine blk_drew ?_ | refine blk_alloc ?_ _)); exact BK179.out⟩
                   have n3_ : Aside0 (Below w.heap.size w (((((((w21.setCell ⟨gb179, 0, none⟩ (.int .i64 ((rd_T119 l0_0 x32_2).f0))).setCell ⟨gb179, 1, none⟩ (.int .i64 ((rd_T119 l0_0 x32_2).f1))).setCell ⟨gb179, 2, none⟩ (.int .i64 ((rd_T119 l0_0 x32_2).f2))).setCell ⟨gb179, 3, none⟩ (.int .i64 ((rd_T119 l0_0 x32_2).f3))).setCell ⟨gb179, 4, none⟩ (.int .i64 ((rd_T119 l0_0 x32_2).f4))).setCell ⟨gb179, 5, none⟩ (.int .i64 ((rd_T119 l0_0 x32_2).f5))).setCell ⟨gb179, 6, none⟩ (.int .i64 ((rd_T119 l0_0 x32_2).f6)))) := ⟨by repeat (first | (with_reducible first | exact HB.out | apply below_alloc | apply pw_below_drewN | apply below_drew1 | refine below_set ?_ GE173.out | refine below_set ?_ GE179.out) | exact HB.out)⟩
                   (try clear HO_3)
                   (try clear BK173)
                   (try clear BK179)
                   (try clear HB)
                   generalize (((((((w21.setCell ⟨gb179, 0, none⟩ (.int .i64 ((rd_T119 l0_0 x32_2).f0))).setCell ⟨gb179, 1, none⟩ (.int .i64 ((rd_T119 l0_0 x32_2).f1))).setCell ⟨gb179, 2, none⟩ (.int .i64 ((rd_T119 l0_0 x32_2).f2))).setCell ⟨gb179, 3, none⟩ (.int .i64 ((rd_T119 l0_0 x32_2).f3))).setCell ⟨gb179, 4, none⟩ (.int .i64 ((rd_T119 l0_0 x32_2).f4))).setCell ⟨gb179, 5, none⟩ (.int .i64 ((rd_T119 l0_0 x32_2).f5))).setCell ⟨gb179, 6, none⟩ (.int .i64 ((rd_T119 l0_0 x32_2).f6))) = w38 at n0_ n1_ n2_ n3_ ⊢
                   try replace n0_ := Aside0.mk (by first | exact Kd.R_drewN n0_.out nd | exact blk_drewN n0_.out nd | exact pw_below_drewN n0_.out nd)
                   try replace n1_ := Aside0.mk (by first | exact Kd.R_drewN n1_.out nd | exact blk_drewN n1_.out nd | exact pw_below_drewN n1_.out nd)
                   try replace n2_ := Aside0.mk (by first | exact Kd.R_drewN n2_.out nd | exact blk_drewN n2_.out nd | exact pw_below_drewN n2_.out nd)
                   try replace n3_ := Aside0.mk (by first | exact Kd.R_drewN n3_.out nd | exact blk_drewN n3_.out nd | exact pw_below_drewN n3_.out nd)
                   try generalize w38.drewN nd = w38 at n0_ n1_ n2_ n3_ ⊢
                   have HO_3 := n0_
                   have BK173 := n1_
                   have BK179 := n2_
                   have HB := n3_
                   clear n0_ n1_ n2_ n3_
                   have n0_ := Aside0.mk (Kd.R_drew HO_3.out)
                   have n1_ := Aside0.mk (blk_drew BK173.out)
                   have n2_ := Aside0.mk (blk_drew BK179.out)
                   have n3_ := Aside0.mk (below_drew1 HB.out)
                   clear HO_3
                   clear BK173
                   clear BK179
                   clear HB
                   have HO_3 := n0_
                   have BK173 := n1_
                   have BK179 := n2_
                   have HB := n3_
                   clear n0_ n1_ n2_ n3_
                   have p181 : 0 ≤ ((ji27) : Int) := of_decide_eq_true (by first | (with_reducible assumption) | assumption)
                   have q181 : (ji27) < (l0_0.length : Int) := of_decide_eq_true (by first | (with_reducible assumption) | assumption)
                   obtain ⟨ad181, e181, hx181_0, hx181_1, hx181_2, hx181_3, hx181_4, hx181_5, hx181_6⟩ := at_T119 HR0_0.out (ji27) p181 q181
                   have hw181_6 := hx181_6
                   have hw181_5 := hx181_5
                   have hw181_4 := hx181_4
                   have hw181_3 := hx181_3
                   have hw181_2 := hx181_2
                   have hw181_1 := hx181_1
                   have hw181_0 := hx181_0
                   obtain rfl : ad178 = ad181 := (by injection e181)
                   replace hx181_0 := (HB.out.cell (World.block_lt_of_cell? w _ hx181_0)).trans hx181_0
                   replace hx181_1 := (HB.out.cell (World.block_lt_of_cell? w _ hx181_1)).trans hx181_1
                   replace hx181_2 := (HB.out.cell (World.block_lt_of_cell? w _ hx181_2)).trans hx181_2
                   replace hx181_3 := (HB.out.cell (World.block_lt_of_cell? w _ hx181_3)).trans hx181_3
                   replace hx181_4 := (HB.out.cell (World.block_lt_of_cell? w _ hx181_4)).trans hx181_4
                   replace hx181_5 := (HB.out.cell (World.block_lt_of_cell? w _ hx181_5)).trans hx181_5
                   replace hx181_6 := (HB.out.cell (World.block_lt_of_cell? w _ hx181_6)).trans hx181_6
                   replace p181 := eq_true p181
                   replace q181 := eq_true q181
                   refine start_ (n := 46) (S := fun w' => w'.cell? ⟨gb179, 0, none⟩ = some (.int .i64 ((rd_T119 l0_0 x32_2).f0)) ∧ w'.cell? ⟨gb179, 1, none⟩ = some (.int .i64 ((rd_T119 l0_0 x32_2).f1)) ∧ w'.cell? ⟨gb179, 2, none⟩ = some (.int .i64 ((rd_T119 l0_0 x32_2).f2)) ∧ w'.cell? ⟨gb179, 3, none⟩ = some (.int .i64 ((rd_T119 l0_0 x32_2).f3)) ∧ w'.cell? ⟨gb179, 4, none⟩ = some (.int .i64 ((rd_T119 l0_0 x32_2).f4)) ∧ w'.cell? ⟨gb179, 5, none⟩ = some (.int .i64 ((rd_T119 l0_0 x32_2).f5)) ∧ w'.cell? ⟨gb179, 6, none⟩ = some (.int .i64 ((rd_T119 l0_0 x32_2).f6)) ∧ w'.cell? ⟨gb173, 0, none⟩ = some (.slice (some ad178) l0_0.length c0_0) ∧ w'.cell? ⟨gb173, 1, none⟩ = some (.slice A0_1 l0_1.length c0_1) ∧ w'.cell? ⟨gb173, 2, none⟩ = some (.int .i64 a0_2) ∧ w'.cell? (ad178.add (((ji27)).toNat * 7)) = some (.int .i64 ((rd_T119 l0_0 (ji27)).f0)) ∧ w'.cell? ⟨(ad178.add (((ji27)).toNat * 7)).block, (ad178.add (((ji27)).toNat * 7)).off + 1, none⟩ = some (.int .i64 ((rd_T119 l0_0 (ji27)).f1)) ∧ w'.cell? ⟨(ad178.add (((ji27)).toNat * 7)).block, (ad178.add (((ji27)).toNat * 7)).off + 2, none⟩ = some (.int .i64 ((rd_T119 l0_0 (ji27)).f2)) ∧ w'.cell? ⟨(ad178.add (((ji27)).toNat * 7)).block, (ad178.add (((ji27)).toNat * 7)).off + 3, none⟩ = some (.int .i64 ((rd_T119 l0_0 (ji27)).f3)) ∧ w'.cell? ⟨(ad178.add (((ji27)).toNat * 7)).block, (ad178.add (((ji27)).toNat * 7)).off + 4, none⟩ = some (.int .i64 ((rd_T119 l0_0 (ji27)).f4)) ∧ w'.cell? ⟨(ad178.add (((ji27)).toNat * 7)).block, (ad178.add (((ji27)).toNat * 7)).off + 5, none⟩ = some (.int .i64 ((rd_T119 l0_0 (ji27)).f5)) ∧ w'.cell? ⟨(ad178.add (((ji27)).toNat * 7)).block, (ad178.add (((ji27)).toNat * 7)).off + 6, none⟩ = some (.int .i64 ((rd_T119 l0_0 (ji27)).f6))) (ds := []) impl_HouseOk.v0 (by kernel_rfl) rfl rfl ⟨(blk_cell BK179.out 0).trans rfl, (blk_cell BK179.out 1).trans rfl, (blk_cell BK179.out 2).trans rfl, (blk_cell BK179.out 3).trans rfl, (blk_cell BK179.out 4).trans rfl, (blk_cell BK179.out 5).trans rfl, (blk_cell BK179.out 6).trans rfl, (blk_cell BK173.out 0).trans rfl, (blk_cell BK173.out 1).trans rfl, (blk_cell BK173.out 2).trans rfl, ((HB.out.cell (World.block_lt_of_cell? w _ hw181_0)).trans hw181_0), ((HB.out.cell (World.block_lt_of_cell? w _ hw181_1)).trans hw181_1), ((HB.out.cell (World.block_lt_of_cell? w _ hw181_2)).trans hw181_2), ((HB.out.cell (World.block_lt_of_cell? w _ hw181_3)).trans hw181_3), ((HB.out.cell (World.block_lt_of_cell? w _ hw181_4)).trans hw181_4), ((HB.out.cell (World.block_lt_of_cell? w _ hw181_5)).trans hw181_5), ((HB.out.cell (World.block_lt_of_cell? w _ hw181_6)).trans hw181_6)⟩ (fun hHeld => ?_); refine with_tabW impl_HouseOk.tab7 impl_HouseOk.bits7 (fun HT_ HW_ => ?_)
                   generalize w38.drew = w39 at HO_3 BK173 BK179 HB hx181_0 hx181_1 hx181_2 hx181_3 hx181_4 hx181_5 hx181_6 hHeld ⊢
                   refine Sk.pq 0 37 impl_HouseOk.v1 HT_.out (h := ?_)
                   refine Sk.tk17 1 38 impl_HouseOk.v2 HT_.out HW_.out hHeld (h := ?_)
                   refine one_ (i := 2) (N := some 39) impl_HouseOk.v3 rfl rfl (one_of HT_.out (by kernel_rfl)) (by decide) (fun K hK => ?_)
                   refine goes_ Try.func87 (by kernel_rfl) rfl #[.int .i64 ((rd_T119 l0_0 x32_2).f0)] (by rfl) rfl rfl (by (try simp only [List.map_toArray, List.map_cons, List.map_nil]); first | done | rfl | (simp only [List.length_drop, List.length_take]; rfl)) ?_
                   with_reducible refine (impl_idRight.calls ((rd_T119 l0_0 x32_2).f0) true _ A24.out).mono ?_
                   rintro e w' ⟨rfl, ⟨nd, rfl⟩⟩
                   refine ⟨_, rfl, ?_⟩
                   refine hK.out _ _ ⟨(blk_cell BK179.out 0).trans rfl, (blk_cell BK179.out 1).trans rfl, (blk_cell BK179.out 2).trans rfl, (blk_cell BK179.out 3).trans rfl, (blk_cell BK179.out 4).trans rfl, (blk_cell BK179.out 5).trans rfl, (blk_cell BK179.out 6).trans rfl, (blk_cell BK173.out 0).trans rfl, (blk_cell BK173.out 1).trans rfl, (blk_cell BK173.out 2).trans rfl, ((HB.out.cell (World.block_lt_of_cell? w _ hw181_0)).trans hw181_0), ((HB.out.cell (World.block_lt_of_cell? w _ hw181_1)).trans hw181_1), ((HB.out.cell (World.block_lt_of_cell? w _ hw181_2)).trans hw181_2), ((HB.out.cell (World.block_lt_of_cell? w _ hw181_3)).trans hw181_3), ((HB.out.cell (World.block_lt_of_cell? w _ hw181_4)).trans hw181_4), ((HB.out.cell (World.block_lt_of_cell? w _ hw181_5)).trans hw181_5), ((HB.out.cell (World.block_lt_of_cell? w _ hw181_6)).trans hw181_6)⟩ (fun hHeld => ?_)
                   clear hK K
                   refine Sk.nm 39 (h := ?_)
                   refine Sk.pq 3 40 impl_HouseOk.v4 HT_.out (h := ?_)
                   refine Sk.pq 4 41 impl_HouseOk.v5 HT_.out (h := ?_)
                   refine Sk.pq 5 42 impl_HouseOk.v6 HT_.out (h := ?_)
                   refine Sk.pq 6 43 impl_HouseOk.v7 HT_.out (h := ?_)
                   refine Sk.pq 7 44 impl_HouseOk.v8 HT_.out (h := ?_)
                   refine Sk.pq 8 45 impl_HouseOk.v9 HT_.out (h := ?_)
                   refine Sk.pq 10 47 impl_HouseOk.v10 HT_.out (h := ?_)
                   refine Sk.pq 11 48 impl_HouseOk.v11 HT_.out (h := ?_)
                   refine Sk.pq 15 52 impl_HouseOk.v12 HT_.out (h := ?_)
                   refine Sk.tk17 9 46 impl_HouseOk.v13 HT_.out HW_.out hHeld (h := ?_)
                   refine Sk.pq 12 49 impl_HouseOk.v14 HT_.out (h := ?_)
                   refine Sk.pq 13 50 impl_HouseOk.v15 HT_.out (h := ?_)
                   refine Sk.tk17 14 51 impl_HouseOk.v16 HT_.out HW_.out hHeld (h := ?_)
                   refine Sk.tk17 16 53 impl_HouseOk.v17 HT_.out HW_.out hHeld (h := ?_)
                   refine Sk.pq 17 54 impl_HouseOk.v18 HT_.out (h := ?_)
                   refine Sk.pq 18 55 impl_HouseOk.v19 HT_.out (h := ?_)
                   refine Sk.pq 19 56 impl_HouseOk.v20 HT_.out (h := ?_)
                   refine Sk.pq 20 57 impl_HouseOk.v21 HT_.out (h := ?_)
                   refine Sk.pq 21 58 impl_HouseOk.v22 HT_.out (h := ?_)
                   refine Sk.pq 23 60 impl_HouseOk.v47 HT_.out (h := ?_)
                   refine Sk.tk17 22 59 impl_HouseOk.v24 HT_.out HW_.out hHeld (h := ?_)
                   refine Sk.tk17 24 61 impl_HouseOk.v25 HT_.out HW_.out hHeld (h := ?_)
                   refine Sk.pq 25 62 impl_HouseOk.v26 HT_.out (h := ?_)
                   refine Sk.pq 26 63 impl_HouseOk.v27 HT_.out (h := ?_)
                   refine one_ (i := 27) (N := some 64) impl_HouseOk.v28 rfl rfl (one_of HT_.out (by kernel_rfl)) (by decide) (fun K hK => ?_)
                   refine goes_ Try.func54 (by kernel_rfl) rfl #[.int .i64 ((rd_T119 l0_0 x32_2).f1), .int .i64 0, .int .i64 (wrap64 ((l0_1.length : Int) - 1))] (by rfl) rfl rfl (by (try simp only [List.map_toArray, List.map_cons, List.map_nil]); first | done | rfl | (simp only [List.length_drop, List.length_take]; rfl)) ?_
                   with_reducible refine (impl_in.calls ((rd_T119 l0_0 x32_2).f1) 0 (wrap64 ((l0_1.length : Int) - 1)) true _ A33.out).mono ?_
                   rintro e w' ⟨rfl, ⟨nd, rfl⟩⟩
                   refine ⟨_, rfl, ?_⟩
                   refine hK.out _ _ ⟨(blk_cell BK179.out 0).trans rfl, (blk_cell BK179.out 1).trans rfl, (blk_cell BK179.out 2).trans rfl, (blk_cell BK179.out 3).trans rfl, (blk_cell BK179.out 4).trans rfl, (blk_cell BK179.out 5).trans rfl, (blk_cell BK179.out 6).trans rfl, (blk_cell BK173.out 0).trans rfl, (blk_cell BK173.out 1).trans rfl, (blk_cell BK173.out 2).trans rfl, ((HB.out.cell (World.block_lt_of_cell? w _ hw181_0)).trans hw181_0), ((HB.out.cell (World.block_lt_of_cell? w _ hw181_1)).trans hw181_1), ((HB.out.cell (World.block_lt_of_cell? w _ hw181_2)).trans hw181_2), ((HB.out.cell (World.block_lt_of_cell? w _ hw181_3)).trans hw181_3), ((HB.out.cell (World.block_lt_of_cell? w _ hw181_4)).trans hw181_4), ((HB.out.cell (World.block_lt_of_cell? w _ hw181_5)).trans hw181_5), ((HB.out.cell (World.block_lt_of_cell? w _ hw181_6)).trans hw181_6)⟩ (fun hHeld => ?_)
                   clear hK K
                   refine Sk.nm 64 (h := ?_)
                   refine Sk.pq 28 65 impl_HouseOk.v29 HT_.out (h := ?_)
                   refine Sk.pq 29 66 impl_HouseOk.v30 HT_.out (h := ?_)
                   refine Sk.pq 30 67 impl_HouseOk.v31 HT_.out (h := ?_)
                   refine Sk.pq 31 68 impl_HouseOk.v32 HT_.out (h := ?_)
                   refine Sk.pq 33 70 impl_HouseOk.v48 HT_.out (h := ?_)
                   refine Sk.pq 35 72 impl_HouseOk.v49 HT_.out (h := ?_)
                   refine Sk.tk17 32 69 impl_HouseOk.v50 HT_.out HW_.out hHeld (h := ?_)
                   refine Sk.tk17 34 71 impl_HouseOk.v36 HT_.out HW_.out hHeld (h := ?_)
                   refine Sk.tk17 36 73 impl_HouseOk.v37 HT_.out HW_.out hHeld (h := ?_)
                   refine one_ (i := 37) (N := some 74) impl_HouseOk.v38 rfl rfl (one_of HT_.out (by kernel_rfl)) (by decide) (fun K hK => ?_)
                   refine goes_ Try.func88 (by kernel_rfl) rfl #[.int .i64 ((rd_T119 l0_0 x32_2).f2), .int .i64 ((rd_T119 l0_0 x32_2).f3), .int .i64 ((rd_T119 l0_0 x32_2).f4)] (by rfl) rfl rfl (by (try simp only [List.map_toArray, List.map_cons, List.map_nil]); first | done | rfl | (simp only [List.length_drop, List.length_take]; rfl)) ?_
                   with_reducible refine (impl_lotRight.calls ((rd_T119 l0_0 x32_2).f2) ((rd_T119 l0_0 x32_2).f3) ((rd_T119 l0_0 x32_2).f4) true _ A35.out).mono ?_
                   rintro e w' ⟨rfl, ⟨nd, rfl⟩⟩
                   refine ⟨_, rfl, ?_⟩
                   refine hK.out _ _ ⟨(blk_cell BK179.out 0).trans rfl, (blk_cell BK179.out 1).trans rfl, (blk_cell BK179.out 2).trans rfl, (blk_cell BK179.out 3).trans rfl, (blk_cell BK179.out 4).trans rfl, (blk_cell BK179.out 5).trans rfl, (blk_cell BK179.out 6).trans rfl, (blk_cell BK173.out 0).trans rfl, (blk_cell BK173.out 1).trans rfl, (blk_cell BK173.out 2).trans rfl, ((HB.out.cell (World.block_lt_of_cell? w _ hw181_0)).trans hw181_0), ((HB.out.cell (World.block_lt_of_cell? w _ hw181_1)).trans hw181_1), ((HB.out.cell (World.block_lt_of_cell? w _ hw181_2)).trans hw181_2), ((HB.out.cell (World.block_lt_of_cell? w _ hw181_3)).trans hw181_3), ((HB.out.cell (World.block_lt_of_cell? w _ hw181_4)).trans hw181_4), ((HB.out.cell (World.block_lt_of_cell? w _ hw181_5)).trans hw181_5), ((HB.out.cell (World.block_lt_of_cell? w _ hw181_6)).trans hw181_6)⟩ (fun hHeld => ?_)
                   clear hK K
                   refine Sk.nm 74 (h := ?_)
                   refine Sk.pq 38 75 impl_HouseOk.v39 HT_.out (h := ?_)
                   refine Sk.pq 39 76 impl_HouseOk.v40 HT_.out (h := ?_)
                   refine Sk.pq 40 77 impl_HouseOk.v41 HT_.out (h := ?_)
                   refine Sk.pq 41 78 impl_HouseOk.v42 HT_.out (h := ?_)
                   refine Sk.tk17 42 79 impl_HouseOk.v43 HT_.out HW_.out hHeld (h := ?_)
                   refine one_ (i := 43) (N := some 80) impl_HouseOk.v44 rfl rfl (one_of HT_.out (by kernel_rfl)) (by decide) (fun K hK => ?_)
                   refine goes_ Try.func54 (by kernel_rfl) rfl #[.int .i64 ((rd_T119 l0_0 x32_2).f5), .int .i64 1, .int .i64 5] (by rfl) rfl rfl (by (try simp only [List.map_toArray, List.map_cons, List.map_nil]); first | done | rfl | (simp only [List.length_drop, List.length_take]; rfl)) ?_
                   with_reducible refine (impl_in.calls ((rd_T119 l0_0 x32_2).f5) 1 5 t184 _ A37.out).mono ?_
                   rintro e w' ⟨rfl, ⟨nd, rfl⟩⟩
                   refine ⟨_, rfl, ?_⟩
                   refine hK.out _ _ ⟨(blk_cell BK179.out 0).trans rfl, (blk_cell BK179.out 1).trans rfl, (blk_cell BK179.out 2).trans rfl, (blk_cell BK179.out 3).trans rfl, (blk_cell BK179.out 4).trans rfl, (blk_cell BK179.out 5).trans rfl, (blk_cell BK179.out 6).trans rfl, (blk_cell BK173.out 0).trans rfl, (blk_cell BK173.out 1).trans rfl, (blk_cell BK173.out 2).trans rfl, ((HB.out.cell (World.block_lt_of_cell? w _ hw181_0)).trans hw181_0), ((HB.out.cell (World.block_lt_of_cell? w _ hw181_1)).trans hw181_1), ((HB.out.cell (World.block_lt_of_cell? w _ hw181_2)).trans hw181_2), ((HB.out.cell (World.block_lt_of_cell? w _ hw181_3)).trans hw181_3), ((HB.out.cell (World.block_lt_of_cell? w _ hw181_4)).trans hw181_4), ((HB.out.cell (World.block_lt_of_cell? w _ hw181_5)).trans hw181_5), ((HB.out.cell (World.block_lt_of_cell? w _ hw181_6)).trans hw181_6)⟩ (fun hHeld => ?_)
                   clear hK K
                   refine Sk.nm 80 (h := ?_)
                   refine Sk.pq 44 81 impl_HouseOk.v45 HT_.out (h := ?_)
                   refine Sk.pq 45 82 impl_HouseOk.v46 HT_.out (h := ?_)
                   refine done_ (done_of HT_.out (by kernel_rfl)) ?_
                   try go_wp2
                   go_meet
                   case rel => exact ⟨_, (!t184), (by first | rfl | (simp; done) | (simp [*]; done)), H', ⟨by have := HJ1.out; have := HK2.out; first | omega | exact Nat.le_refl _⟩, ⟨by (with_reducible repeat (first | apply Kd.R_alloc | apply Kd.R_drewN | apply Kd.R_drew)); exact HO_3.out⟩, ⟨by (with_reducible repeat (first | refine blk_drewN ?_ _ | refine blk_drew ?_ | refine blk_alloc ?_ _)); exact BK173.out⟩, ⟨by (with_reducible repeat (first | refine blk_drewN ?_ _ | refine blk_drew ?_ | refine blk_alloc ?_ _)); exact BK179.out⟩, ⟨by repeat (first | (with_reducible first | exact HB.out | apply below_alloc | apply pw_below_drewN | apply below_drew1 | refine below_set ?_ GE173.out | refine below_set ?_ GE179.out) | exact HB.out)⟩⟩
                  ·replace c36 := Bool.eq_false_iff.mpr c36
                   subst c36
                   rw [if_neg (show ¬ (false = true) by decide)] at H
                   have H' := Aside0.mk H
                   clear H
                   try go_wp2
                   have n0_ : Aside0 (Kd.R (Kd.int .i64) 3 (((((((w21.setCell ⟨gb179, 0, none⟩ (.int .i64 ((rd_T119 l0_0 x32_2).f0))).setCell ⟨gb179, 1, none⟩ (.int .i64 ((rd_T119 l0_0 x32_2).f1))).setCell ⟨gb179, 2, none⟩ (.int .i64 ((rd_T119 l0_0 x32_2).f2))).setCell ⟨gb179, 3, none⟩ (.int .i64 ((rd_T119 l0_0 x32_2).f3))).setCell ⟨gb179, 4, none⟩ (.int .i64 ((rd_T119 l0_0 x32_2).f4))).setCell ⟨gb179, 5, none⟩ (.int .i64 ((rd_T119 l0_0 x32_2).f5))).setCell ⟨gb179, 6, none⟩ (.int .i64 ((rd_T119 l0_0 x32_2).f6))) w.heap.size (fun _ => True) v176 x3_2) := ⟨by (with_reducible repeat (first | apply Kd.R_alloc | apply Kd.R_drewN | apply Kd.R_drew)); exact Kd.R_mono (Kd.R_far (p := ⟨gb179, 6, none⟩) (Kd.R_far (p := ⟨gb179, 5, none⟩) (Kd.R_far (p := ⟨gb179, 4, none⟩) (Kd.R_far (p := ⟨gb179, 3, none⟩) (Kd.R_far (p := ⟨gb179, 2, none⟩) (Kd.R_far (p := ⟨gb179, 1, none⟩) (Kd.R_far (p := ⟨gb179, 0, none⟩) (Kd.R_types HO_3.out BK179.out (by decide)) (fun _ hk => hk.2) (.int .i64 ((rd_T119 l0_0 x32_2).f0))) (fun _ hk => hk.2) (.int .i64 ((rd_T119 l0_0 x32_2).f1))) (fun _ hk => hk.2) (.int .i64 ((rd_T119 l0_0 x32_2).f2))) (fun _ hk => hk.2) (.int .i64 ((rd_T119 l0_0 x32_2).f3))) (fun _ hk => hk.2) (.int .i64 ((rd_T119 l0_0 x32_2).f4))) (fun _ hk => hk.2) (.int .i64 ((rd_T119 l0_0 x32_2).f5))) (fun _ hk => hk.2) (.int .i64 ((rd_T119 l0_0 x32_2).f6))) (fun _ hk => trivial)⟩
                   have n1_ : Aside0 ((((((((w21.setCell ⟨gb179, 0, none⟩ (.int .i64 ((rd_T119 l0_0 x32_2).f0))).setCell ⟨gb179, 1, none⟩ (.int .i64 ((rd_T119 l0_0 x32_2).f1))).setCell ⟨gb179, 2, none⟩ (.int .i64 ((rd_T119 l0_0 x32_2).f2))).setCell ⟨gb179, 3, none⟩ (.int .i64 ((rd_T119 l0_0 x32_2).f3))).setCell ⟨gb179, 4, none⟩ (.int .i64 ((rd_T119 l0_0 x32_2).f4))).setCell ⟨gb179, 5, none⟩ (.int .i64 ((rd_T119 l0_0 x32_2).f5))).setCell ⟨gb179, 6, none⟩ (.int .i64 ((rd_T119 l0_0 x32_2).f6))).heap[gb173]? = some (.cells #[.slice (some ad178) l0_0.length c0_0, .slice A0_1 l0_1.length c0_1, .int .i64 a0_2] 75 (0, 0))) := ⟨by (with_reducible repeat (first | refine blk_drewN ?_ _ | refine blk_drew ?_ | refine blk_alloc ?_ _)); refine blk_far ?_ NB173_179.out _; (with_reducible repeat (first | refine blk_drewN ?_ _ | refine blk_drew ?_ | refine blk_alloc ?_ _)); refine blk_far ?_ NB173_179.out _; (with_reducible repeat (first | refine blk_drewN ?_ _ | refine blk_drew ?_ | refine blk_alloc ?_ _)); refine blk_far ?_ NB173_179.out _; (with_reducible repeat (first | refine blk_drewN ?_ _ | refine blk_drew ?_ | refine blk_alloc ?_ _)); refine blk_far ?_ NB173_179.out _; (with_reducible repeat (first | refine blk_drewN ?_ _ | refine blk_drew ?_ | refine blk_alloc ?_ _)); refine blk_far ?_ NB173_179.out _; (with_reducible repeat (first | refine blk_drewN ?_ _ | refine blk_drew ?_ | refine blk_alloc ?_ _)); refine blk_far ?_ NB173_179.out _; (with_reducible repeat (first | refine blk_drewN ?_ _ | refine blk_drew ?_ | refine blk_alloc ?_ _)); refine blk_far ?_ NB173_179.out _; (with_reducible repeat (first | refine blk_drewN ?_ _ | refine blk_drew ?_ | refine blk_alloc ?_ _)); exact BK173.out⟩
                   have n2_ : Aside0 ((((((((w21.setCell ⟨gb179, 0, none⟩ (.int .i64 ((rd_T119 l0_0 x32_2).f0))).setCell ⟨gb179, 1, none⟩ (.int .i64 ((rd_T119 l0_0 x32_2).f1))).setCell ⟨gb179, 2, none⟩ (.int .i64 ((rd_T119 l0_0 x32_2).f2))).setCell ⟨gb179, 3, none⟩ (.int .i64 ((rd_T119 l0_0 x32_2).f3))).setCell ⟨gb179, 4, none⟩ (.int .i64 ((rd_T119 l0_0 x32_2).f4))).setCell ⟨gb179, 5, none⟩ (.int .i64 ((rd_T119 l0_0 x32_2).f5))).setCell ⟨gb179, 6, none⟩ (.int .i64 ((rd_T119 l0_0 x32_2).f6))).heap[gb179]? = some (.cells #[.int .i64 ((rd_T119 l0_0 x32_2).f0), .int .i64 ((rd_T119 l0_0 x32_2).f1), .int .i64 ((rd_T119 l0_0 x32_2).f2), .int .i64 ((rd_T119 l0_0 x32_2).f3), .int .i64 ((rd_T119 l0_0 x32_2).f4), .int .i64 ((rd_T119 l0_0 x32_2).f5), .int .i64 ((rd_T119 l0_0 x32_2).f6)] 119 (0, 0))) := ⟨by (with_reducible repeat (first | refine blk_drewN ?_ _ | refine blk_drew ?_ | refine blk_alloc ?_ _)); refine blk_put (cs := #[.int .i64 ((rd_T119 l0_0 x32_2).f0), .int .i64 ((rd_T119 l0_0 x32_2).f1), .int .i64 ((rd_T119 l0_0 x32_2).f2), .int .i64 ((rd_T119 l0_0 x32_2).f3), .int .i64 ((rd_T119 l0_0 x32_2).f4), .int .i64 ((rd_T119 l0_0 x32_2).f5), .int .i64 0]) ?_ 6 _ rfl; (with_reducible repeat (first | refine blk_drewN ?_ _ | refine blk_drew ?_ | refine blk_alloc ?_ _)); refine blk_put (cs := #[.int .i64 ((rd_T119 l0_0 x32_2).f0), .int .i64 ((rd_T119 l0_0 x32_2).f1), .int .i64 ((rd_T119 l0_0 x32_2).f2), .int .i64 ((rd_T119 l0_0 x32_2).f3), .int .i64 ((rd_T119 l0_0 x32_2).f4), .int .i64 0, .int .i64 0]) ?_ 5 _ rfl; (with_reducible repeat (first | refine blk_drewN ?_ _ | refine blk_drew ?_ | refine blk_alloc ?_ _)); refine blk_put (cs := #[.int .i64 ((rd_T119 l0_0 x32_2).f0), .int .i64 ((rd_T119 l0_0 x32_2).f1), .int .i64 ((rd_T119 l0_0 x32_2).f2), .int .i64 ((rd_T119 l0_0 x32_2).f3), .int .i64 0, .int .i64 0, .int .i64 0]) ?_ 4 _ rfl; (with_reducible repeat (first | refine blk_drewN ?_ _ | refine blk_drew ?_ | refine blk_alloc ?_ _)); refine blk_put (cs := #[.int .i64 ((rd_T119 l0_0 x32_2).f0), .int .i64 ((rd_T119 l0_0 x32_2).f1), .int .i64 ((rd_T119 l0_0 x32_2).f2), .int .i64 0, .int .i64 0, .int .i64 0, .int .i64 0]) ?_ 3 _ rfl; (with_reducible repeat (first | refine blk_drewN ?_ _ | refine blk_drew ?_ | refine blk_alloc ?_ _)); refine blk_put (cs := #[.int .i64 ((rd_T119 l0_0 x32_2).f0), .int .i64 ((rd_T119 l0_0 x32_2).f1), .int .i64 0, .int .i64 0, .int .i64 0, .int .i64 0, .int .i64 0]) ?_ 2 _ rfl; (with_reducible repeat (first | refine blk_drewN ?_ _ | refine blk_drew ?_ | refine blk_alloc ?_ _)); refine blk_put (cs := #[.int .i64 ((rd_T119 l0_0 x32_2).f0), .int .i64 0, .int .i64 0, .int .i64 0, .int .i64 0, .int .i64 0, .int .i64 0]) ?_ 1 _ rfl; (with_reducible repeat (first | refine blk_drewN ?_ _ | refine blk_drew ?_ | refine blk_alloc ?_ _)); refine blk_put (cs := #[.int .i64 0, .int .i64 0, .int .i64 0, .int .i64 0, .int .i64 0, .int .i64 0, .int .i64 0]) ?_ 0 _ rfl; (with_reducible repeat (first | refine blk_drewN ?_ _ | refine blk_drew ?_ | refine blk_alloc ?_ _)); exact BK179.out⟩
                   have n3_ : Aside0 (Below w.heap.size w (((((((w21.setCell ⟨gb179, 0, none⟩ (.int .i64 ((rd_T119 l0_0 x32_2).f0))).setCell ⟨gb179, 1, none⟩ (.int .i64 ((rd_T119 l0_0 x32_2).f1))).setCell ⟨gb179, 2, none⟩ (.int .i64 ((rd_T119 l0_0 x32_2).f2))).setCell ⟨gb179, 3, none⟩ (.int .i64 ((rd_T119 l0_0 x32_2).f3))).setCell ⟨gb179, 4, none⟩ (.int .i64 ((rd_T119 l0_0 x32_2).f4))).setCell ⟨gb179, 5, none⟩ (.int .i64 ((rd_T119 l0_0 x32_2).f5))).setCell ⟨gb179, 6, none⟩ (.int .i64 ((rd_T119 l0_0 x32_2).f6)))) := ⟨by repeat (first | (with_reducible first | exact HB.out | apply below_alloc | apply pw_below_drewN | apply below_drew1 | refine below_set ?_ GE173.out | refine below_set ?_ GE179.out) | exact HB.out)⟩
                   (try clear HO_3)
                   (try clear BK173)
                   (try clear BK179)
                   (try clear HB)
                   generalize (((((((w21.setCell ⟨gb179, 0, none⟩ (.int .i64 ((rd_T119 l0_0 x32_2).f0))).setCell ⟨gb179, 1, none⟩ (.int .i64 ((rd_T119 l0_0 x32_2).f1))).setCell ⟨gb179, 2, none⟩ (.int .i64 ((rd_T119 l0_0 x32_2).f2))).setCell ⟨gb179, 3, none⟩ (.int .i64 ((rd_T119 l0_0 x32_2).f3))).setCell ⟨gb179, 4, none⟩ (.int .i64 ((rd_T119 l0_0 x32_2).f4))).setCell ⟨gb179, 5, none⟩ (.int .i64 ((rd_T119 l0_0 x32_2).f5))).setCell ⟨gb179, 6, none⟩ (.int .i64 ((rd_T119 l0_0 x32_2).f6))) = w40 at n0_ n1_ n2_ n3_ ⊢
                   try replace n0_ := Aside0.mk (by first | exact Kd.R_drewN n0_.out nd | exact blk_drewN n0_.out nd | exact pw_below_drewN n0_.out nd)
                   try replace n1_ := Aside0.mk (by first | exact Kd.R_drewN n1_.out nd | exact blk_drewN n1_.out nd | exact pw_below_drewN n1_.out nd)
                   try replace n2_ := Aside0.mk (by first | exact Kd.R_drewN n2_.out nd | exact blk_drewN n2_.out nd | exact pw_below_drewN n2_.out nd)
                   try replace n3_ := Aside0.mk (by first | exact Kd.R_drewN n3_.out nd | exact blk_drewN n3_.out nd | exact pw_below_drewN n3_.out nd)
                   try generalize w40.drewN nd = w40 at n0_ n1_ n2_ n3_ ⊢
                   have HO_3 := n0_
                   have BK173 := n1_
                   have BK179 := n2_
                   have HB := n3_
                   clear n0_ n1_ n2_ n3_
                   have n0_ := Aside0.mk (Kd.R_drew HO_3.out)
                   have n1_ := Aside0.mk (blk_drew BK173.out)
                   have n2_ := Aside0.mk (blk_drew BK179.out)
                   have n3_ := Aside0.mk (below_drew1 HB.out)
                   clear HO_3
                   clear BK173
                   clear BK179
                   clear HB
                   have HO_3 := n0_
                   have BK173 := n1_
                   have BK179 := n2_
                   have HB := n3_
                   clear n0_ n1_ n2_ n3_
                   have p181 : 0 ≤ ((ji27) : Int) := of_decide_eq_true (by first | (with_reducible assumption) | assumption)
                   have q181 : (ji27) < (l0_0.length : Int) := of_decide_eq_true (by first | (with_reducible assumption) | assumption)
                   obtain ⟨ad181, e181, hx181_0, hx181_1, hx181_2, hx181_3, hx181_4, hx181_5, hx181_6⟩ := at_T119 HR0_0.out (ji27) p181 q181
                   have hw181_6 := hx181_6
                   have hw181_5 := hx181_5
                   have hw181_4 := hx181_4
                   have hw181_3 := hx181_3
                   have hw181_2 := hx181_2
                   have hw181_1 := hx181_1
                   have hw181_0 := hx181_0
                   obtain rfl : ad178 = ad181 := (by injection e181)
                   replace hx181_0 := (HB.out.cell (World.block_lt_of_cell? w _ hx181_0)).trans hx181_0
                   replace hx181_1 := (HB.out.cell (World.block_lt_of_cell? w _ hx181_1)).trans hx181_1
                   replace hx181_2 := (HB.out.cell (World.block_lt_of_cell? w _ hx181_2)).trans hx181_2
                   replace hx181_3 := (HB.out.cell (World.block_lt_of_cell? w _ hx181_3)).trans hx181_3
                   replace hx181_4 := (HB.out.cell (World.block_lt_of_cell? w _ hx181_4)).trans hx181_4
                   replace hx181_5 := (HB.out.cell (World.block_lt_of_cell? w _ hx181_5)).trans hx181_5
                   replace hx181_6 := (HB.out.cell (World.block_lt_of_cell? w _ hx181_6)).trans hx181_6
                   replace p181 := eq_true p181
                   replace q181 := eq_true q181
                   refine start_ (n := 46) (S := fun w' => w'.cell? ⟨gb179, 0, none⟩ = some (.int .i64 ((rd_T119 l0_0 x32_2).f0)) ∧ w'.cell? ⟨gb179, 1, none⟩ = some (.int .i64 ((rd_T119 l0_0 x32_2).f1)) ∧ w'.cell? ⟨gb179, 2, none⟩ = some (.int .i64 ((rd_T119 l0_0 x32_2).f2)) ∧ w'.cell? ⟨gb179, 3, none⟩ = some (.int .i64 ((rd_T119 l0_0 x32_2).f3)) ∧ w'.cell? ⟨gb179, 4, none⟩ = some (.int .i64 ((rd_T119 l0_0 x32_2).f4)) ∧ w'.cell? ⟨gb179, 5, none⟩ = some (.int .i64 ((rd_T119 l0_0 x32_2).f5)) ∧ w'.cell? ⟨gb179, 6, none⟩ = some (.int .i64 ((rd_T119 l0_0 x32_2).f6)) ∧ w'.cell? ⟨gb173, 0, none⟩ = some (.slice (some ad178) l0_0.length c0_0) ∧ w'.cell? ⟨gb173, 1, none⟩ = some (.slice A0_1 l0_1.length c0_1) ∧ w'.cell? ⟨gb173, 2, none⟩ = some (.int .i64 a0_2) ∧ w'.cell? (ad178.add (((ji27)).toNat * 7)) = some (.int .i64 ((rd_T119 l0_0 (ji27)).f0)) ∧ w'.cell? ⟨(ad178.add (((ji27)).toNat * 7)).block, (ad178.add (((ji27)).toNat * 7)).off + 1, none⟩ = some (.int .i64 ((rd_T119 l0_0 (ji27)).f1)) ∧ w'.cell? ⟨(ad178.add (((ji27)).toNat * 7)).block, (ad178.add (((ji27)).toNat * 7)).off + 2, none⟩ = some (.int .i64 ((rd_T119 l0_0 (ji27)).f2)) ∧ w'.cell? ⟨(ad178.add (((ji27)).toNat * 7)).block, (ad178.add (((ji27)).toNat * 7)).off + 3, none⟩ = some (.int .i64 ((rd_T119 l0_0 (ji27)).f3)) ∧ w'.cell? ⟨(ad178.add (((ji27)).toNat * 7)).block, (ad178.add (((ji27)).toNat * 7)).off + 4, none⟩ = some (.int .i64 ((rd_T119 l0_0 (ji27)).f4)) ∧ w'.cell? ⟨(ad178.add (((ji27)).toNat * 7)).block, (ad178.add (((ji27)).toNat * 7)).off + 5, none⟩ = some (.int .i64 ((rd_T119 l0_0 (ji27)).f5)) ∧ w'.cell? ⟨(ad178.add (((ji27)).toNat * 7)).block, (ad178.add (((ji27)).toNat * 7)).off + 6, none⟩ = some (.int .i64 ((rd_T119 l0_0 (ji27)).f6))) (ds := []) impl_HouseOk.v0 (by kernel_rfl) rfl rfl ⟨(blk_cell BK179.out 0).trans rfl, (blk_cell BK179.out 1).trans rfl, (blk_cell BK179.out 2).trans rfl, (blk_cell BK179.out 3).trans rfl, (blk_cell BK179.out 4).trans rfl, (blk_cell BK179.out 5).trans rfl, (blk_cell BK179.out 6).trans rfl, (blk_cell BK173.out 0).trans rfl, (blk_cell BK173.out 1).trans rfl, (blk_cell BK173.out 2).trans rfl, ((HB.out.cell (World.block_lt_of_cell? w _ hw181_0)).trans hw181_0), ((HB.out.cell (World.block_lt_of_cell? w _ hw181_1)).trans hw181_1), ((HB.out.cell (World.block_lt_of_cell? w _ hw181_2)).trans hw181_2), ((HB.out.cell (World.block_lt_of_cell? w _ hw181_3)).trans hw181_3), ((HB.out.cell (World.block_lt_of_cell? w _ hw181_4)).trans hw181_4), ((HB.out.cell (World.block_lt_of_cell? w _ hw181_5)).trans hw181_5), ((HB.out.cell (World.block_lt_of_cell? w _ hw181_6)).trans hw181_6)⟩ (fun hHeld => ?_); refine with_tabW impl_HouseOk.tab7 impl_HouseOk.bits7 (fun HT_ HW_ => ?_)
                   generalize w40.drew = w41 at HO_3 BK173 BK179 HB hx181_0 hx181_1 hx181_2 hx181_3 hx181_4 hx181_5 hx181_6 hHeld ⊢
                   refine Sk.pq 0 37 impl_HouseOk.v1 HT_.out (h := ?_)
                   refine Sk.tk17 1 38 impl_HouseOk.v2 HT_.out HW_.out hHeld (h := ?_)
                   refine one_ (i := 2) (N := some 39) impl_HouseOk.v3 rfl rfl (one_of HT_.out (by kernel_rfl)) (by decide) (fun K hK => ?_)
                   refine goes_ Try.func87 (by kernel_rfl) rfl #[.int .i64 ((rd_T119 l0_0 x32_2).f0)] (by rfl) rfl rfl (by (try simp only [List.map_toArray, List.map_cons, List.map_nil]); first | done | rfl | (simp only [List.length_drop, List.length_take]; rfl)) ?_
                   with_reducible refine (impl_idRight.calls ((rd_T119 l0_0 x32_2).f0) true _ A24.out).mono ?_
                   rintro e w' ⟨rfl, ⟨nd, rfl⟩⟩
                   refine ⟨_, rfl, ?_⟩
                   refine hK.out _ _ ⟨(blk_cell BK179.out 0).trans rfl, (blk_cell BK179.out 1).trans rfl, (blk_cell BK179.out 2).trans rfl, (blk_cell BK179.out 3).trans rfl, (blk_cell BK179.out 4).trans rfl, (blk_cell BK179.out 5).trans rfl, (blk_cell BK179.out 6).trans rfl, (blk_cell BK173.out 0).trans rfl, (blk_cell BK173.out 1).trans rfl, (blk_cell BK173.out 2).trans rfl, ((HB.out.cell (World.block_lt_of_cell? w _ hw181_0)).trans hw181_0), ((HB.out.cell (World.block_lt_of_cell? w _ hw181_1)).trans hw181_1), ((HB.out.cell (World.block_lt_of_cell? w _ hw181_2)).trans hw181_2), ((HB.out.cell (World.block_lt_of_cell? w _ hw181_3)).trans hw181_3), ((HB.out.cell (World.block_lt_of_cell? w _ hw181_4)).trans hw181_4), ((HB.out.cell (World.block_lt_of_cell? w _ hw181_5)).trans hw181_5), ((HB.out.cell (World.block_lt_of_cell? w _ hw181_6)).trans hw181_6)⟩ (fun hHeld => ?_)
                   clear hK K
                   refine Sk.nm 39 (h := ?_)
                   refine Sk.pq 3 40 impl_HouseOk.v4 HT_.out (h := ?_)
                   refine Sk.pq 4 41 impl_HouseOk.v5 HT_.out (h := ?_)
                   refine Sk.pq 5 42 impl_HouseOk.v6 HT_.out (h := ?_)
                   refine Sk.pq 6 43 impl_HouseOk.v7 HT_.out (h := ?_)
                   refine Sk.pq 7 44 impl_HouseOk.v8 HT_.out (h := ?_)
                   refine Sk.pq 8 45 impl_HouseOk.v9 HT_.out (h := ?_)
                   refine Sk.pq 10 47 impl_HouseOk.v10 HT_.out (h := ?_)
                   refine Sk.pq 11 48 impl_HouseOk.v11 HT_.out (h := ?_)
                   refine Sk.pq 15 52 impl_HouseOk.v12 HT_.out (h := ?_)
                   refine Sk.tk17 9 46 impl_HouseOk.v13 HT_.out HW_.out hHeld (h := ?_)
                   refine Sk.pq 12 49 impl_HouseOk.v14 HT_.out (h := ?_)
                   refine Sk.pq 13 50 impl_HouseOk.v15 HT_.out (h := ?_)
                   refine Sk.tk17 14 51 impl_HouseOk.v16 HT_.out HW_.out hHeld (h := ?_)
                   refine Sk.tk17 16 53 impl_HouseOk.v17 HT_.out HW_.out hHeld (h := ?_)
                   refine Sk.pq 17 54 impl_HouseOk.v18 HT_.out (h := ?_)
                   refine Sk.pq 18 55 impl_HouseOk.v19 HT_.out (h := ?_)
                   refine Sk.pq 19 56 impl_HouseOk.v20 HT_.out (h := ?_)
                   refine Sk.pq 20 57 impl_HouseOk.v21 HT_.out (h := ?_)
                   refine Sk.pq 21 58 impl_HouseOk.v22 HT_.out (h := ?_)
                   refine Sk.pq 23 60 impl_HouseOk.v47 HT_.out (h := ?_)
                   refine Sk.tk17 22 59 impl_HouseOk.v24 HT_.out HW_.out hHeld (h := ?_)
                   refine Sk.tk17 24 61 impl_HouseOk.v25 HT_.out HW_.out hHeld (h := ?_)
                   refine Sk.pq 25 62 impl_HouseOk.v26 HT_.out (h := ?_)
                   refine Sk.pq 26 63 impl_HouseOk.v27 HT_.out (h := ?_)
                   refine one_ (i := 27) (N := some 64) impl_HouseOk.v28 rfl rfl (one_of HT_.out (by kernel_rfl)) (by decide) (fun K hK => ?_)
                   refine goes_ Try.func54 (by kernel_rfl) rfl #[.int .i64 ((rd_T119 l0_0 x32_2).f1), .int .i64 0, .int .i64 (wrap64 ((l0_1.length : Int) - 1))] (by rfl) rfl rfl (by (try simp only [List.map_toArray, List.map_cons, List.map_nil]); first | done | rfl | (simp only [List.length_drop, List.length_take]; rfl)) ?_
                   with_reducible refine (impl_in.calls ((rd_T119 l0_0 x32_2).f1) 0 (wrap64 ((l0_1.length : Int) - 1)) true _ A33.out).mono ?_
                   rintro e w' ⟨rfl, ⟨nd, rfl⟩⟩
                   refine ⟨_, rfl, ?_⟩
                   refine hK.out _ _ ⟨(blk_cell BK179.out 0).trans rfl, (blk_cell BK179.out 1).trans rfl, (blk_cell BK179.out 2).trans rfl, (blk_cell BK179.out 3).trans rfl, (blk_cell BK179.out 4).trans rfl, (blk_cell BK179.out 5).trans rfl, (blk_cell BK179.out 6).trans rfl, (blk_cell BK173.out 0).trans rfl, (blk_cell BK173.out 1).trans rfl, (blk_cell BK173.out 2).trans rfl, ((HB.out.cell (World.block_lt_of_cell? w _ hw181_0)).trans hw181_0), ((HB.out.cell (World.block_lt_of_cell? w _ hw181_1)).trans hw181_1), ((HB.out.cell (World.block_lt_of_cell? w _ hw181_2)).trans hw181_2), ((HB.out.cell (World.block_lt_of_cell? w _ hw181_3)).trans hw181_3), ((HB.out.cell (World.block_lt_of_cell? w _ hw181_4)).trans hw181_4), ((HB.out.cell (World.block_lt_of_cell? w _ hw181_5)).trans hw181_5), ((HB.out.cell (World.block_lt_of_cell? w _ hw181_6)).trans hw181_6)⟩ (fun hHeld => ?_)
                   clear hK K
                   refine Sk.nm 64 (h := ?_)
                   refine Sk.pq 28 65 impl_HouseOk.v29 HT_.out (h := ?_)
                   refine Sk.pq 29 66 impl_HouseOk.v30 HT_.out (h := ?_)
                   refine Sk.pq 30 67 impl_HouseOk.v31 HT_.out (h := ?_)
                   refine Sk.pq 31 68 impl_HouseOk.v32 HT_.out (h := ?_)
                   refine Sk.pq 33 70 impl_HouseOk.v48 HT_.out (h := ?_)
                   refine Sk.pq 35 72 impl_HouseOk.v49 HT_.out (h := ?_)
                   refine Sk.tk17 32 69 impl_HouseOk.v50 HT_.out HW_.out hHeld (h := ?_)
                   refine Sk.tk17 34 71 impl_HouseOk.v36 HT_.out HW_.out hHeld (h := ?_)
                   refine Sk.tk17 36 73 impl_HouseOk.v37 HT_.out HW_.out hHeld (h := ?_)
                   refine one_ (i := 37) (N := some 74) impl_HouseOk.v38 rfl rfl (one_of HT_.out (by kernel_rfl)) (by decide) (fun K hK => ?_)
                   refine goes_ Try.func88 (by kernel_rfl) rfl #[.int .i64 ((rd_T119 l0_0 x32_2).f2), .int .i64 ((rd_T119 l0_0 x32_2).f3), .int .i64 ((rd_T119 l0_0 x32_2).f4)] (by rfl) rfl rfl (by (try simp only [List.map_toArray, List.map_cons, List.map_nil]); first | done | rfl | (simp only [List.length_drop, List.length_take]; rfl)) ?_
                   with_reducible refine (impl_lotRight.calls ((rd_T119 l0_0 x32_2).f2) ((rd_T119 l0_0 x32_2).f3) ((rd_T119 l0_0 x32_2).f4) false _ A35.out).mono ?_
                   rintro e w' ⟨rfl, ⟨nd, rfl⟩⟩
                   refine ⟨_, rfl, ?_⟩
                   refine hK.out _ _ ⟨(blk_cell BK179.out 0).trans rfl, (blk_cell BK179.out 1).trans rfl, (blk_cell BK179.out 2).trans rfl, (blk_cell BK179.out 3).trans rfl, (blk_cell BK179.out 4).trans rfl, (blk_cell BK179.out 5).trans rfl, (blk_cell BK179.out 6).trans rfl, (blk_cell BK173.out 0).trans rfl, (blk_cell BK173.out 1).trans rfl, (blk_cell BK173.out 2).trans rfl, ((HB.out.cell (World.block_lt_of_cell? w _ hw181_0)).trans hw181_0), ((HB.out.cell (World.block_lt_of_cell? w _ hw181_1)).trans hw181_1), ((HB.out.cell (World.block_lt_of_cell? w _ hw181_2)).trans hw181_2), ((HB.out.cell (World.block_lt_of_cell? w _ hw181_3)).trans hw181_3), ((HB.out.cell (World.block_lt_of_cell? w _ hw181_4)).trans hw181_4), ((HB.out.cell (World.block_lt_of_cell? w _ hw181_5)).trans hw181_5), ((HB.out.cell (World.block_lt_of_cell? w _ hw181_6)).trans hw181_6)⟩ (fun hHeld => ?_)
                   clear hK K
                   refine Sk.nm 74 (h := ?_)
                   refine Sk.pq 38 75 impl_HouseOk.v39 HT_.out (h := ?_)
                   refine Sk.pq 39 76 impl_HouseOk.v40 HT_.out (h := ?_)
                   refine Sk.pq 40 77 impl_HouseOk.v41 HT_.out (h := ?_)
                   refine Sk.pu 41 78 impl_HouseOk.v42 HT_.out (h := ?_)
                   refine Sk.pu 42 79 impl_HouseOk.v43 HT_.out (h := ?_)
                   refine Sk.pu 43 80 impl_HouseOk.v44 HT_.out (h := ?_)
                   refine Sk.pu 44 81 impl_HouseOk.v45 HT_.out (h := ?_)
                   refine Sk.pq 45 82 impl_HouseOk.v46 HT_.out (h := ?_)
                   refine done_ (done_of HT_.out (by kernel_rfl)) ?_
                   try go_wp2
                   go_meet
                   case rel => exact ⟨_, (true), (by first | rfl | (simp; done) | (simp [*]; done)), H', ⟨by have := HJ1.out; have := HK2.out; first | omega | exact Nat.le_refl _⟩, ⟨by (with_reducible repeat (first | apply Kd.R_alloc | apply Kd.R_drewN | apply Kd.R_drew)); exact HO_3.out⟩, ⟨by (with_reducible repeat (first | refine blk_drewN ?_ _ | refine blk_drew ?_ | refine blk_alloc ?_ _)); exact BK173.out⟩, ⟨by (with_reducible repeat (first | refine blk_drewN ?_ _ | refine blk_drew ?_ | refine blk_alloc ?_ _)); exact BK179.out⟩, ⟨by repeat (first | (with_reducible first | exact HB.out | apply below_alloc | apply pw_below_drewN | apply below_drew1 | refine below_set ?_ GE173.out | refine below_set ?_ GE179.out) | exact HB.out)⟩⟩
                 ·replace c34 := Bool.eq_false_iff.mpr c34
                  subst c34
                  rw [if_neg (show ¬ (false = true) by decide)] at H
                  have H' := Aside0.mk H
                  clear H
                  try go_wp2
                  have n0_ : Aside0 (Kd.R (Kd.int .i64) 3 (((((((w21.setCell ⟨gb179, 0, none⟩ (.int .i64 ((rd_T119 l0_0 x32_2).f0))).setCell ⟨gb179, 1, none⟩ (.int .i64 ((rd_T119 l0_0 x32_2).f1))).setCell ⟨gb179, 2, none⟩ (.int .i64 ((rd_T119 l0_0 x32_2).f2))).setCell ⟨gb179, 3, none⟩ (.int .i64 ((rd_T119 l0_0 x32_2).f3))).setCell ⟨gb179, 4, none⟩ (.int .i64 ((rd_T119 l0_0 x32_2).f4))).setCell ⟨gb179, 5, none⟩ (.int .i64 ((rd_T119 l0_0 x32_2).f5))).setCell ⟨gb179, 6, none⟩ (.int .i64 ((rd_T119 l0_0 x32_2).f6))) w.heap.size (fun _ => True) v176 x3_2) := ⟨by (with_reducible repeat (first | apply Kd.R_alloc | apply Kd.R_drewN | apply Kd.R_drew)); exact Kd.R_mono (Kd.R_far (p := ⟨gb179, 6, none⟩) (Kd.R_far (p := ⟨gb179, 5, none⟩) (Kd.R_far (p := ⟨gb179, 4, none⟩) (Kd.R_far (p := ⟨gb179, 3, none⟩) (Kd.R_far (p := ⟨gb179, 2, none⟩) (Kd.R_far (p := ⟨gb179, 1, none⟩) (Kd.R_far (p := ⟨gb179, 0, none⟩) (Kd.R_types HO_3.out BK179.out (by decide)) (fun _ hk => hk.2) (.int .i64 ((rd_T119 l0_0 x32_2).f0))) (fun _ hk => hk.2) (.int .i64 ((rd_T119 l0_0 x32_2).f1))) (fun _ hk => hk.2) (.int .i64 ((rd_T119 l0_0 x32_2).f2))) (fun _ hk => hk.2) (.int .i64 ((rd_T119 l0_0 x32_2).f3))) (fun _ hk => hk.2) (.int .i64 ((rd_T119 l0_0 x32_2).f4))) (fun _ hk => hk.2) (.int .i64 ((rd_T119 l0_0 x32_2).f5))) (fun _ hk => hk.2) (.int .i64 ((rd_T119 l0_0 x32_2).f6))) (fun _ hk => trivial)⟩
                  have n1_ : Aside0 ((((((((w21.setCell ⟨gb179, 0, none⟩ (.int .i64 ((rd_T119 l0_0 x32_2).f0))).setCell ⟨gb179, 1, none⟩ (.int .i64 ((rd_T119 l0_0 x32_2).f1))).setCell ⟨gb179, 2, none⟩ (.int .i64 ((rd_T119 l0_0 x32_2).f2))).setCell ⟨gb179, 3, none⟩ (.int .i64 ((rd_T119 l0_0 x32_2).f3))).setCell ⟨gb179, 4, none⟩ (.int .i64 ((rd_T119 l0_0 x32_2).f4))).setCell ⟨gb179, 5, none⟩ (.int .i64 ((rd_T119 l0_0 x32_2).f5))).setCell ⟨gb179, 6, none⟩ (.int .i64 ((rd_T119 l0_0 x32_2).f6))).heap[gb173]? = some (.cells #[.slice (some ad178) l0_0.length c0_0, .slice A0_1 l0_1.length c0_1, .int .i64 a0_2] 75 (0, 0))) := ⟨by (with_reducible repeat (first | refine blk_drewN ?_ _ | refine blk_drew ?_ | refine blk_alloc ?_ _)); refine blk_far ?_ NB173_179.out _; (with_reducible repeat (first | refine blk_drewN ?_ _ | refine blk_drew ?_ | refine blk_alloc ?_ _)); refine blk_far ?_ NB173_179.out _; (with_reducible repeat (first | refine blk_drewN ?_ _ | refine blk_drew ?_ | refine blk_alloc ?_ _)); refine blk_far ?_ NB173_179.out _; (with_reducible repeat (first | refine blk_drewN ?_ _ | refine blk_drew ?_ | refine blk_alloc ?_ _)); refine blk_far ?_ NB173_179.out _; (with_reducible repeat (first | refine blk_drewN ?_ _ | refine blk_drew ?_ | refine blk_alloc ?_ _)); refine blk_far ?_ NB173_179.out _; (with_reducible repeat (first | refine blk_drewN ?_ _ | refine blk_drew ?_ | refine blk_alloc ?_ _)); refine blk_far ?_ NB173_179.out _; (with_reducible repeat (first | refine blk_drewN ?_ _ | refine blk_drew ?_ | refine blk_alloc ?_ _)); refine blk_far ?_ NB173_179.out _; (with_reducible repeat (first | refine blk_drewN ?_ _ | refine blk_drew ?_ | refine blk_alloc ?_ _)); exact BK173.out⟩
                  have n2_ : Aside0 ((((((((w21.setCell ⟨gb179, 0, none⟩ (.int .i64 ((rd_T119 l0_0 x32_2).f0))).setCell ⟨gb179, 1, none⟩ (.int .i64 ((rd_T119 l0_0 x32_2).f1))).setCell ⟨gb179, 2, none⟩ (.int .i64 ((rd_T119 l0_0 x32_2).f2))).setCell ⟨gb179, 3, none⟩ (.int .i64 ((rd_T119 l0_0 x32_2).f3))).setCell ⟨gb179, 4, none⟩ (.int .i64 ((rd_T119 l0_0 x32_2).f4))).setCell ⟨gb179, 5, none⟩ (.int .i64 ((rd_T119 l0_0 x32_2).f5))).setCell ⟨gb179, 6, none⟩ (.int .i64 ((rd_T119 l0_0 x32_2).f6))).heap[gb179]? = some (.cells #[.int .i64 ((rd_T119 l0_0 x32_2).f0), .int .i64 ((rd_T119 l0_0 x32_2).f1), .int .i64 ((rd_T119 l0_0 x32_2).f2), .int .i64 ((rd_T119 l0_0 x32_2).f3), .int .i64 ((rd_T119 l0_0 x32_2).f4), .int .i64 ((rd_T119 l0_0 x32_2).f5), .int .i64 ((rd_T119 l0_0 x32_2).f6)] 119 (0, 0))) := ⟨by (with_reducible repeat (first | refine blk_drewN ?_ _ | refine blk_drew ?_ | refine blk_alloc ?_ _)); refine blk_put (cs := #[.int .i64 ((rd_T119 l0_0 x32_2).f0), .int .i64 ((rd_T119 l0_0 x32_2).f1), .int .i64 ((rd_T119 l0_0 x32_2).f2), .int .i64 ((rd_T119 l0_0 x32_2).f3), .int .i64 ((rd_T119 l0_0 x32_2).f4), .int .i64 ((rd_T119 l0_0 x32_2).f5), .int .i64 0]) ?_ 6 _ rfl; (with_reducible repeat (first | refine blk_drewN ?_ _ | refine blk_drew ?_ | refine blk_alloc ?_ _)); refine blk_put (cs := #[.int .i64 ((rd_T119 l0_0 x32_2).f0), .int .i64 ((rd_T119 l0_0 x32_2).f1), .int .i64 ((rd_T119 l0_0 x32_2).f2), .int .i64 ((rd_T119 l0_0 x32_2).f3), .int .i64 ((rd_T119 l0_0 x32_2).f4), .int .i64 0, .int .i64 0]) ?_ 5 _ rfl; (with_reducible repeat (first | refine blk_drewN ?_ _ | refine blk_drew ?_ | refine blk_alloc ?_ _)); refine blk_put (cs := #[.int .i64 ((rd_T119 l0_0 x32_2).f0), .int .i64 ((rd_T119 l0_0 x32_2).f1), .int .i64 ((rd_T119 l0_0 x32_2).f2), .int .i64 ((rd_T119 l0_0 x32_2).f3), .int .i64 0, .int .i64 0, .int .i64 0]) ?_ 4 _ rfl; (with_reducible repeat (first | refine blk_drewN ?_ _ | refine blk_drew ?_ | refine blk_alloc ?_ _)); refine blk_put (cs := #[.int .i64 ((rd_T119 l0_0 x32_2).f0), .int .i64 ((rd_T119 l0_0 x32_2).f1), .int .i64 ((rd_T119 l0_0 x32_2).f2), .int .i64 0, .int .i64 0, .int .i64 0, .int .i64 0]) ?_ 3 _ rfl; (with_reducible repeat (first | refine blk_drewN ?_ _ | refine blk_drew ?_ | refine blk_alloc ?_ _)); refine blk_put (cs := #[.int .i64 ((rd_T119 l0_0 x32_2).f0), .int .i64 ((rd_T119 l0_0 x32_2).f1), .int .i64 0, .int .i64 0, .int .i64 0, .int .i64 0, .int .i64 0]) ?_ 2 _ rfl; (with_reducible repeat (first | refine blk_drewN ?_ _ | refine blk_drew ?_ | refine blk_alloc ?_ _)); refine blk_put (cs := #[.int .i64 ((rd_T119 l0_0 x32_2).f0), .int .i64 0, .int .i64 0, .int .i64 0, .int .i64 0, .int .i64 0, .int .i64 0]) ?_ 1 _ rfl; (with_reducible repeat (first | refine blk_drewN ?_ _ | refine blk_drew ?_ | refine blk_alloc ?_ _)); refine blk_put (cs := #[.int .i64 0, .int .i64 0, .int .i64 0, .int .i64 0, .int .i64 0, .int .i64 0, .int .i64 0]) ?_ 0 _ rfl; (with_reducible repeat (first | refine blk_drewN ?_ _ | refine blk_drew ?_ | refine blk_alloc ?_ _)); exact BK179.out⟩
                  have n3_ : Aside0 (Below w.heap.size w (((((((w21.setCell ⟨gb179, 0, none⟩ (.int .i64 ((rd_T119 l0_0 x32_2).f0))).setCell ⟨gb179, 1, none⟩ (.int .i64 ((rd_T119 l0_0 x32_2).f1))).setCell ⟨gb179, 2, none⟩ (.int .i64 ((rd_T119 l0_0 x32_2).f2))).setCell ⟨gb179, 3, none⟩ (.int .i64 ((rd_T119 l0_0 x32_2).f3))).setCell ⟨gb179, 4, none⟩ (.int .i64 ((rd_T119 l0_0 x32_2).f4))).setCell ⟨gb179, 5, none⟩ (.int .i64 ((rd_T119 l0_0 x32_2).f5))).setCell ⟨gb179, 6, none⟩ (.int .i64 ((rd_T119 l0_0 x32_2).f6)))) := ⟨by repeat (first | (with_reducible first | exact HB.out | apply below_alloc | apply pw_below_drewN | apply below_drew1 | refine below_set ?_ GE173.out | refine below_set ?_ GE179.out) | exact HB.out)⟩
                  (try clear HO_3)
                  (try clear BK173)
                  (try clear BK179)
                  (try clear HB)
                  generalize (((((((w21.setCell ⟨gb179, 0, none⟩ (.int .i64 ((rd_T119 l0_0 x32_2).f0))).setCell ⟨gb179, 1, none⟩ (.int .i64 ((rd_T119 l0_0 x32_2).f1))).setCell ⟨gb179, 2, none⟩ (.int .i64 ((rd_T119 l0_0 x32_2).f2))).setCell ⟨gb179, 3, none⟩ (.int .i64 ((rd_T119 l0_0 x32_2).f3))).setCell ⟨gb179, 4, none⟩ (.int .i64 ((rd_T119 l0_0 x32_2).f4))).setCell ⟨gb179, 5, none⟩ (.int .i64 ((rd_T119 l0_0 x32_2).f5))).setCell ⟨gb179, 6, none⟩ (.int .i64 ((rd_T119 l0_0 x32_2).f6))) = w42 at n0_ n1_ n2_ n3_ ⊢
                  try replace n0_ := Aside0.mk (by first | exact Kd.R_drewN n0_.out nd | exact blk_drewN n0_.out nd | exact pw_below_drewN n0_.out nd)
                  try replace n1_ := Aside0.mk (by first | exact Kd.R_drewN n1_.out nd | exact blk_drewN n1_.out nd | exact pw_below_drewN n1_.out nd)
                  try replace n2_ := Aside0.mk (by first | exact Kd.R_drewN n2_.out nd | exact blk_drewN n2_.out nd | exact pw_below_drewN n2_.out nd)
                  try replace n3_ := Aside0.mk (by first | exact Kd.R_drewN n3_.out nd | exact blk_drewN n3_.out nd | exact pw_below_drewN n3_.out nd)
                  try generalize w42.drewN nd = w42 at n0_ n1_ n2_ n3_ ⊢
                  have HO_3 := n0_
                  have BK173 := n1_
                  have BK179 := n2_
                  have HB := n3_
                  clear n0_ n1_ n2_ n3_
                  have n0_ := Aside0.mk (Kd.R_drew HO_3.out)
                  have n1_ := Aside0.mk (blk_drew BK173.out)
                  have n2_ := Aside0.mk (blk_drew BK179.out)
                  have n3_ := Aside0.mk (below_drew1 HB.out)
                  clear HO_3
                  clear BK173
                  clear BK179
                  clear HB
                  have HO_3 := n0_
                  have BK173 := n1_
                  have BK179 := n2_
                  have HB := n3_
                  clear n0_ n1_ n2_ n3_
                  have p181 : 0 ≤ ((ji27) : Int) := of_decide_eq_true (by first | (with_reducible assumption) | assumption)
                  have q181 : (ji27) < (l0_0.length : Int) := of_decide_eq_true (by first | (with_reducible assumption) | assumption)
                  obtain ⟨ad181, e181, hx181_0, hx181_1, hx181_2, hx181_3, hx181_4, hx181_5, hx181_6⟩ := at_T119 HR0_0.out (ji27) p181 q181
                  have hw181_6 := hx181_6
                  have hw181_5 := hx181_5
                  have hw181_4 := hx181_4
                  have hw181_3 := hx181_3
                  have hw181_2 := hx181_2
                  have hw181_1 := hx181_1
                  have hw181_0 := hx181_0
                  obtain rfl : ad178 = ad181 := (by injection e181)
                  replace hx181_0 := (HB.out.cell (World.block_lt_of_cell? w _ hx181_0)).trans hx181_0
                  replace hx181_1 := (HB.out.cell (World.block_lt_of_cell? w _ hx181_1)).trans hx181_1
                  replace hx181_2 := (HB.out.cell (World.block_lt_of_cell? w _ hx181_2)).trans hx181_2
                  replace hx181_3 := (HB.out.cell (World.block_lt_of_cell? w _ hx181_3)).trans hx181_3
                  replace hx181_4 := (HB.out.cell (World.block_lt_of_cell? w _ hx181_4)).trans hx181_4
                  replace hx181_5 := (HB.out.cell (World.block_lt_of_cell? w _ hx181_5)).trans hx181_5
                  replace hx181_6 := (HB.out.cell (World.block_lt_of_cell? w _ hx181_6)).trans hx181_6
                  replace p181 := eq_true p181
                  replace q181 := eq_true q181
                  refine start_ (n := 46) (S := fun w' => w'.cell? ⟨gb179, 0, none⟩ = some (.int .i64 ((rd_T119 l0_0 x32_2).f0)) ∧ w'.cell? ⟨gb179, 1, none⟩ = some (.int .i64 ((rd_T119 l0_0 x32_2).f1)) ∧ w'.cell? ⟨gb179, 2, none⟩ = some (.int .i64 ((rd_T119 l0_0 x32_2).f2)) ∧ w'.cell? ⟨gb179, 3, none⟩ = some (.int .i64 ((rd_T119 l0_0 x32_2).f3)) ∧ w'.cell? ⟨gb179, 4, none⟩ = some (.int .i64 ((rd_T119 l0_0 x32_2).f4)) ∧ w'.cell? ⟨gb179, 5, none⟩ = some (.int .i64 ((rd_T119 l0_0 x32_2).f5)) ∧ w'.cell? ⟨gb179, 6, none⟩ = some (.int .i64 ((rd_T119 l0_0 x32_2).f6)) ∧ w'.cell? ⟨gb173, 0, none⟩ = some (.slice (some ad178) l0_0.length c0_0) ∧ w'.cell? ⟨gb173, 1, none⟩ = some (.slice A0_1 l0_1.length c0_1) ∧ w'.cell? ⟨gb173, 2, none⟩ = some (.int .i64 a0_2) ∧ w'.cell? (ad178.add (((ji27)).toNat * 7)) = some (.int .i64 ((rd_T119 l0_0 (ji27)).f0)) ∧ w'.cell? ⟨(ad178.add (((ji27)).toNat * 7)).block, (ad178.add (((ji27)).toNat * 7)).off + 1, none⟩ = some (.int .i64 ((rd_T119 l0_0 (ji27)).f1)) ∧ w'.cell? ⟨(ad178.add (((ji27)).toNat * 7)).block, (ad178.add (((ji27)).toNat * 7)).off + 2, none⟩ = some (.int .i64 ((rd_T119 l0_0 (ji27)).f2)) ∧ w'.cell? ⟨(ad178.add (((ji27)).toNat * 7)).block, (ad178.add (((ji27)).toNat * 7)).off + 3, none⟩ = some (.int .i64 ((rd_T119 l0_0 (ji27)).f3)) ∧ w'.cell? ⟨(ad178.add (((ji27)).toNat * 7)).block, (ad178.add (((ji27)).toNat * 7)).off + 4, none⟩ = some (.int .i64 ((rd_T119 l0_0 (ji27)).f4)) ∧ w'.cell? ⟨(ad178.add (((ji27)).toNat * 7)).block, (ad178.add (((ji27)).toNat * 7)).off + 5, none⟩ = some (.int .i64 ((rd_T119 l0_0 (ji27)).f5)) ∧ w'.cell? ⟨(ad178.add (((ji27)).toNat * 7)).block, (ad178.add (((ji27)).toNat * 7)).off + 6, none⟩ = some (.int .i64 ((rd_T119 l0_0 (ji27)).f6))) (ds := []) impl_HouseOk.v0 (by kernel_rfl) rfl rfl ⟨(blk_cell BK179.out 0).trans rfl, (blk_cell BK179.out 1).trans rfl, (blk_cell BK179.out 2).trans rfl, (blk_cell BK179.out 3).trans rfl, (blk_cell BK179.out 4).trans rfl, (blk_cell BK179.out 5).trans rfl, (blk_cell BK179.out 6).trans rfl, (blk_cell BK173.out 0).trans rfl, (blk_cell BK173.out 1).trans rfl, (blk_cell BK173.out 2).trans rfl, ((HB.out.cell (World.block_lt_of_cell? w _ hw181_0)).trans hw181_0), ((HB.out.cell (World.block_lt_of_cell? w _ hw181_1)).trans hw181_1), ((HB.out.cell (World.block_lt_of_cell? w _ hw181_2)).trans hw181_2), ((HB.out.cell (World.block_lt_of_cell? w _ hw181_3)).trans hw181_3), ((HB.out.cell (World.block_lt_of_cell? w _ hw181_4)).trans hw181_4), ((HB.out.cell (World.block_lt_of_cell? w _ hw181_5)).trans hw181_5), ((HB.out.cell (World.block_lt_of_cell? w _ hw181_6)).trans hw181_6)⟩ (fun hHeld => ?_); refine with_tabW impl_HouseOk.tab7 impl_HouseOk.bits7 (fun HT_ HW_ => ?_)
                  generalize w42.drew = w43 at HO_3 BK173 BK179 HB hx181_0 hx181_1 hx181_2 hx181_3 hx181_4 hx181_5 hx181_6 hHeld ⊢
                  refine Sk.pq 0 37 impl_HouseOk.v1 HT_.out (h := ?_)
                  refine Sk.tk17 1 38 impl_HouseOk.v2 HT_.out HW_.out hHeld (h := ?_)
                  refine one_ (i := 2) (N := some 39) impl_HouseOk.v3 rfl rfl (one_of HT_.out (by kernel_rfl)) (by decide) (fun K hK => ?_)
                  refine goes_ Try.func87 (by kernel_rfl) rfl #[.int .i64 ((rd_T119 l0_0 x32_2).f0)] (by rfl) rfl rfl (by (try simp only [List.map_toArray, List.map_cons, List.map_nil]); first | done | rfl | (simp only [List.length_drop, List.length_take]; rfl)) ?_
                  with_reducible refine (impl_idRight.calls ((rd_T119 l0_0 x32_2).f0) true _ A24.out).mono ?_
                  rintro e w' ⟨rfl, ⟨nd, rfl⟩⟩
                  refine ⟨_, rfl, ?_⟩
                  refine hK.out _ _ ⟨(blk_cell BK179.out 0).trans rfl, (blk_cell BK179.out 1).trans rfl, (blk_cell BK179.out 2).trans rfl, (blk_cell BK179.out 3).trans rfl, (blk_cell BK179.out 4).trans rfl, (blk_cell BK179.out 5).trans rfl, (blk_cell BK179.out 6).trans rfl, (blk_cell BK173.out 0).trans rfl, (blk_cell BK173.out 1).trans rfl, (blk_cell BK173.out 2).trans rfl, ((HB.out.cell (World.block_lt_of_cell? w _ hw181_0)).trans hw181_0), ((HB.out.cell (World.block_lt_of_cell? w _ hw181_1)).trans hw181_1), ((HB.out.cell (World.block_lt_of_cell? w _ hw181_2)).trans hw181_2), ((HB.out.cell (World.block_lt_of_cell? w _ hw181_3)).trans hw181_3), ((HB.out.cell (World.block_lt_of_cell? w _ hw181_4)).trans hw181_4), ((HB.out.cell (World.block_lt_of_cell? w _ hw181_5)).trans hw181_5), ((HB.out.cell (World.block_lt_of_cell? w _ hw181_6)).trans hw181_6)⟩ (fun hHeld => ?_)
                  clear hK K
                  refine Sk.nm 39 (h := ?_)
                  refine Sk.pq 3 40 impl_HouseOk.v4 HT_.out (h := ?_)
                  refine Sk.pq 4 41 impl_HouseOk.v5 HT_.out (h := ?_)
                  refine Sk.pq 5 42 impl_HouseOk.v6 HT_.out (h := ?_)
                  refine Sk.pq 6 43 impl_HouseOk.v7 HT_.out (h := ?_)
                  refine Sk.pq 7 44 impl_HouseOk.v8 HT_.out (h := ?_)
                  refine Sk.pq 8 45 impl_HouseOk.v9 HT_.out (h := ?_)
                  refine Sk.pq 10 47 impl_HouseOk.v10 HT_.out (h := ?_)
                  refine Sk.pq 11 48 impl_HouseOk.v11 HT_.out (h := ?_)
                  refine Sk.pq 15 52 impl_HouseOk.v12 HT_.out (h := ?_)
                  refine Sk.tk17 9 46 impl_HouseOk.v13 HT_.out HW_.out hHeld (h := ?_)
                  refine Sk.pq 12 49 impl_HouseOk.v14 HT_.out (h := ?_)
                  refine Sk.pq 13 50 impl_HouseOk.v15 HT_.out (h := ?_)
                  refine Sk.tk17 14 51 impl_HouseOk.v16 HT_.out HW_.out hHeld (h := ?_)
                  refine Sk.tk17 16 53 impl_HouseOk.v17 HT_.out HW_.out hHeld (h := ?_)
                  refine Sk.pq 17 54 impl_HouseOk.v18 HT_.out (h := ?_)
                  refine Sk.pq 18 55 impl_HouseOk.v19 HT_.out (h := ?_)
                  refine Sk.pq 19 56 impl_HouseOk.v20 HT_.out (h := ?_)
                  refine Sk.pq 20 57 impl_HouseOk.v21 HT_.out (h := ?_)
                  refine Sk.pq 21 58 impl_HouseOk.v22 HT_.out (h := ?_)
                  refine Sk.pq 23 60 impl_HouseOk.v47 HT_.out (h := ?_)
                  refine Sk.tk17 22 59 impl_HouseOk.v24 HT_.out HW_.out hHeld (h := ?_)
                  refine Sk.tk17 24 61 impl_HouseOk.v25 HT_.out HW_.out hHeld (h := ?_)
                  refine Sk.pq 25 62 impl_HouseOk.v26 HT_.out (h := ?_)
                  refine Sk.pq 26 63 impl_HouseOk.v27 HT_.out (h := ?_)
                  refine one_ (i := 27) (N := some 64) impl_HouseOk.v28 rfl rfl (one_of HT_.out (by kernel_rfl)) (by decide) (fun K hK => ?_)
                  refine goes_ Try.func54 (by kernel_rfl) rfl #[.int .i64 ((rd_T119 l0_0 x32_2).f1), .int .i64 0, .int .i64 (wrap64 ((l0_1.length : Int) - 1))] (by rfl) rfl rfl (by (try simp only [List.map_toArray, List.map_cons, List.map_nil]); first | done | rfl | (simp only [List.length_drop, List.length_take]; rfl)) ?_
                  with_reducible refine (impl_in.calls ((rd_T119 l0_0 x32_2).f1) 0 (wrap64 ((l0_1.length : Int) - 1)) false _ A33.out).mono ?_
                  rintro e w' ⟨rfl, ⟨nd, rfl⟩⟩
                  refine ⟨_, rfl, ?_⟩
                  refine hK.out _ _ ⟨(blk_cell BK179.out 0).trans rfl, (blk_cell BK179.out 1).trans rfl, (blk_cell BK179.out 2).trans rfl, (blk_cell BK179.out 3).trans rfl, (blk_cell BK179.out 4).trans rfl, (blk_cell BK179.out 5).trans rfl, (blk_cell BK179.out 6).trans rfl, (blk_cell BK173.out 0).trans rfl, (blk_cell BK173.out 1).trans rfl, (blk_cell BK173.out 2).trans rfl, ((HB.out.cell (World.block_lt_of_cell? w _ hw181_0)).trans hw181_0), ((HB.out.cell (World.block_lt_of_cell? w _ hw181_1)).trans hw181_1), ((HB.out.cell (World.block_lt_of_cell? w _ hw181_2)).trans hw181_2), ((HB.out.cell (World.block_lt_of_cell? w _ hw181_3)).trans hw181_3), ((HB.out.cell (World.block_lt_of_cell? w _ hw181_4)).trans hw181_4), ((HB.out.cell (World.block_lt_of_cell? w _ hw181_5)).trans hw181_5), ((HB.out.cell (World.block_lt_of_cell? w _ hw181_6)).trans hw181_6)⟩ (fun hHeld => ?_)
                  clear hK K
                  refine Sk.nm 64 (h := ?_)
                  refine Sk.pq 28 65 impl_HouseOk.v29 HT_.out (h := ?_)
                  refine Sk.pq 29 66 impl_HouseOk.v30 HT_.out (h := ?_)
                  refine Sk.pq 30 67 impl_HouseOk.v31 HT_.out (h := ?_)
                  refine Sk.pu 31 68 impl_HouseOk.v32 HT_.out (h := ?_)
                  refine Sk.pu 32 69 impl_HouseOk.v33 HT_.out (h := ?_)
                  refine Sk.pu 33 70 impl_HouseOk.v34 HT_.out (h := ?_)
                  refine Sk.pu 34 71 impl_HouseOk.v35 HT_.out (h := ?_)
                  refine Sk.pu 35 72 impl_HouseOk.v36 HT_.out (h := ?_)
                  refine Sk.pu 36 73 impl_HouseOk.v37 HT_.out (h := ?_)
                  refine Sk.pu 37 74 impl_HouseOk.v38 HT_.out (h := ?_)
                  refine Sk.pu 38 75 impl_HouseOk.v39 HT_.out (h := ?_)
                  refine Sk.pq 39 76 impl_HouseOk.v40 HT_.out (h := ?_)
                  refine Sk.pq 40 77 impl_HouseOk.v41 HT_.out (h := ?_)
                  refine Sk.pu 41 78 impl_HouseOk.v42 HT_.out (h := ?_)
                  refine Sk.pu 42 79 impl_HouseOk.v43 HT_.out (h := ?_)
                  refine Sk.pu 43 80 impl_HouseOk.v44 HT_.out (h := ?_)
                  refine Sk.pu 44 81 impl_HouseOk.v45 HT_.out (h := ?_)
                  refine Sk.pq 45 82 impl_HouseOk.v46 HT_.out (h := ?_)
                  refine done_ (done_of HT_.out (by kernel_rfl)) ?_
                  try go_wp2
                  go_meet
                  case rel => exact ⟨_, (true), (by first | rfl | (simp; done) | (simp [*]; done)), H', ⟨by have := HJ1.out; have := HK2.out; first | omega | exact Nat.le_refl _⟩, ⟨by (with_reducible repeat (first | apply Kd.R_alloc | apply Kd.R_drewN | apply Kd.R_drew)); exact HO_3.out⟩, ⟨by (with_reducible repeat (first | refine blk_drewN ?_ _ | refine blk_drew ?_ | refine blk_alloc ?_ _)); exact BK173.out⟩, ⟨by (with_reducible repeat (first | refine blk_drewN ?_ _ | refine blk_drew ?_ | refine blk_alloc ?_ _)); exact BK179.out⟩, ⟨by repeat (first | (with_reducible first | exact HB.out | apply below_alloc | apply pw_below_drewN | apply below_drew1 | refine below_set ?_ GE173.out | refine below_set ?_ GE179.out) | exact HB.out)⟩⟩
               ·rw [if_neg c29] at H
                exact absurd H (by simp)
              ·rw [if_neg c28] at H
               exact absurd H (by simp)
             ·rw [if_neg c26] at H
              have c26b0 : decide (0 < x32_2) = false := decide_eq_false c26
              clear c26
              (first | rw [c26b0] | (simp only [i64_w, i32_w]; rw [c26b0]) | skip)
              replace H := Option.bind_eq_some_iff.mp H
              obtain ⟨t185, A440, H⟩ := H
              (try dsimp only at H)
              have A44 := Aside0.mk A440
              clear A440
              by_cases c45 : t185 = true
              ·subst c45
               rw [if_pos rfl] at H
               replace H := Option.bind_eq_some_iff.mp H
               obtain ⟨t186, A460, H⟩ := H
               (try dsimp only at H)
               have A46 := Aside0.mk A460
               clear A460
               by_cases c47 : t186 = true
               ·subst c47
                rw [if_pos rfl] at H
                replace H := Option.bind_eq_some_iff.mp H
                obtain ⟨t187, A480, H⟩ := H
                (try dsimp only at H)
                have A48 := Aside0.mk A480
                clear A480
                have H' := Aside0.mk H
                clear H
                try go_wp2
                have n0_ : Aside0 (Kd.R (Kd.int .i64) 3 (((((((w21.setCell ⟨gb179, 0, none⟩ (.int .i64 ((rd_T119 l0_0 x32_2).f0))).setCell ⟨gb179, 1, none⟩ (.int .i64 ((rd_T119 l0_0 x32_2).f1))).setCell ⟨gb179, 2, none⟩ (.int .i64 ((rd_T119 l0_0 x32_2).f2))).setCell ⟨gb179, 3, none⟩ (.int .i64 ((rd_T119 l0_0 x32_2).f3))).setCell ⟨gb179, 4, none⟩ (.int .i64 ((rd_T119 l0_0 x32_2).f4))).setCell ⟨gb179, 5, none⟩ (.int .i64 ((rd_T119 l0_0 x32_2).f5))).setCell ⟨gb179, 6, none⟩ (.int .i64 ((rd_T119 l0_0 x32_2).f6))) w.heap.size (fun _ => True) v176 x3_2) := ⟨by (with_reducible repeat (first | apply Kd.R_alloc | apply Kd.R_drewN | apply Kd.R_drew)); exact Kd.R_mono (Kd.R_far (p := ⟨gb179, 6, none⟩) (Kd.R_far (p := ⟨gb179, 5, none⟩) (Kd.R_far (p := ⟨gb179, 4, none⟩) (Kd.R_far (p := ⟨gb179, 3, none⟩) (Kd.R_far (p := ⟨gb179, 2, none⟩) (Kd.R_far (p := ⟨gb179, 1, none⟩) (Kd.R_far (p := ⟨gb179, 0, none⟩) (Kd.R_types HO_3.out BK179.out (by decide)) (fun _ hk => hk.2) (.int .i64 ((rd_T119 l0_0 x32_2).f0))) (fun _ hk => hk.2) (.int .i64 ((rd_T119 l0_0 x32_2).f1))) (fun _ hk => hk.2) (.int .i64 ((rd_T119 l0_0 x32_2).f2))) (fun _ hk => hk.2) (.int .i64 ((rd_T119 l0_0 x32_2).f3))) (fun _ hk => hk.2) (.int .i64 ((rd_T119 l0_0 x32_2).f4))) (fun _ hk => hk.2) (.int .i64 ((rd_T119 l0_0 x32_2).f5))) (fun _ hk => hk.2) (.int .i64 ((rd_T119 l0_0 x32_2).f6))) (fun _ hk => trivial)⟩
                have n1_ : Aside0 ((((((((w21.setCell ⟨gb179, 0, none⟩ (.int .i64 ((rd_T119 l0_0 x32_2).f0))).setCell ⟨gb179, 1, none⟩ (.int .i64 ((rd_T119 l0_0 x32_2).f1))).setCell ⟨gb179, 2, none⟩ (.int .i64 ((rd_T119 l0_0 x32_2).f2))).setCell ⟨gb179, 3, none⟩ (.int .i64 ((rd_T119 l0_0 x32_2).f3))).setCell ⟨gb179, 4, none⟩ (.int .i64 ((rd_T119 l0_0 x32_2).f4))).setCell ⟨gb179, 5, none⟩ (.int .i64 ((rd_T119 l0_0 x32_2).f5))).setCell ⟨gb179, 6, none⟩ (.int .i64 ((rd_T119 l0_0 x32_2).f6))).heap[gb173]? = some (.cells #[.slice (some ad178) l0_0.length c0_0, .slice A0_1 l0_1.length c0_1, .int .i64 a0_2] 75 (0, 0))) := ⟨by (with_reducible repeat (first | refine blk_drewN ?_ _ | refine blk_drew ?_ | refine blk_alloc ?_ _)); refine blk_far ?_ NB173_179.out _; (with_reducible repeat (first | refine blk_drewN ?_ _ | refine blk_drew ?_ | refine blk_alloc ?_ _)); refine blk_far ?_ NB173_179.out _; (with_reducible repeat (first | refine blk_drewN ?_ _ | refine blk_drew ?_ | refine blk_alloc ?_ _)); refine blk_far ?_ NB173_179.out _; (with_reducible repeat (first | refine blk_drewN ?_ _ | refine blk_drew ?_ | refine blk_alloc ?_ _)); refine blk_far ?_ NB173_179.out _; (with_reducible repeat (first | refine blk_drewN ?_ _ | refine blk_drew ?_ | refine blk_alloc ?_ _)); refine blk_far ?_ NB173_179.out _; (with_reducible repeat (first | refine blk_drewN ?_ _ | refine blk_drew ?_ | refine blk_alloc ?_ _)); refine blk_far ?_ NB173_179.out _; (with_reducible repeat (first | refine blk_drewN ?_ _ | refine blk_drew ?_ | refine blk_alloc ?_ _)); refine blk_far ?_ NB173_179.out _; (with_reducible repeat (first | refine blk_drewN ?_ _ | refine blk_drew ?_ | refine blk_alloc ?_ _)); exact BK173.out⟩
                have n2_ : Aside0 ((((((((w21.setCell ⟨gb179, 0, none⟩ (.int .i64 ((rd_T119 l0_0 x32_2).f0))).setCell ⟨gb179, 1, none⟩ (.int .i64 ((rd_T119 l0_0 x32_2).f1))).setCell ⟨gb179, 2, none⟩ (.int .i64 ((rd_T119 l0_0 x32_2).f2))).setCell ⟨gb179, 3, none⟩ (.int .i64 ((rd_T119 l0_0 x32_2).f3))).setCell ⟨gb179, 4, none⟩ (.int .i64 ((rd_T119 l0_0 x32_2).f4))).setCell ⟨gb179, 5, none⟩ (.int .i64 ((rd_T119 l0_0 x32_2).f5))).setCell ⟨gb179, 6, none⟩ (.int .i64 ((rd_T119 l0_0 x32_2).f6))).heap[gb179]? = some (.cells #[.int .i64 ((rd_T119 l0_0 x32_2).f0), .int .i64 ((rd_T119 l0_0 x32_2).f1), .int .i64 ((rd_T119 l0_0 x32_2).f2), .int .i64 ((rd_T119 l0_0 x32_2).f3), .int .i64 ((rd_T119 l0_0 x32_2).f4), .int .i64 ((rd_T119 l0_0 x32_2).f5), .int .i64 ((rd_T119 l0_0 x32_2).f6)] 119 (0, 0))) := ⟨by (with_reducible repeat (first | refine blk_drewN ?_ _ | refine blk_drew ?_ | refine blk_alloc ?_ _)); refine blk_put (cs := #[.int .i64 ((rd_T119 l0_0 x32_2).f0), .int .i64 ((rd_T119 l0_0 x32_2).f1), .int .i64 ((rd_T119 l0_0 x32_2).f2), .int .i64 ((rd_T119 l0_0 x32_2).f3), .int .i64 ((rd_T119 l0_0 x32_2).f4), .int .i64 ((rd_T119 l0_0 x32_2).f5), .int .i64 0]) ?_ 6 _ rfl; (with_reducible repeat (first | refine blk_drewN ?_ _ | refine blk_drew ?_ | refine blk_alloc ?_ _)); refine blk_put (cs := #[.int .i64 ((rd_T119 l0_0 x32_2).f0), .int .i64 ((rd_T119 l0_0 x32_2).f1), .int .i64 ((rd_T119 l0_0 x32_2).f2), .int .i64 ((rd_T119 l0_0 x32_2).f3), .int .i64 ((rd_T119 l0_0 x32_2).f4), .int .i64 0, .int .i64 0]) ?_ 5 _ rfl; (with_reducible repeat (first | refine blk_drewN ?_ _ | refine blk_drew ?_ | refine blk_alloc ?_ _)); refine blk_put (cs := #[.int .i64 ((rd_T119 l0_0 x32_2).f0), .int .i64 ((rd_T119 l0_0 x32_2).f1), .int .i64 ((rd_T119 l0_0 x32_2).f2), .int .i64 ((rd_T119 l0_0 x32_2).f3), .int .i64 0, .int .i64 0, .int .i64 0]) ?_ 4 _ rfl; (with_reducible repeat (first | refine blk_drewN ?_ _ | refine blk_drew ?_ | refine blk_alloc ?_ _)); refine blk_put (cs := #[.int .i64 ((rd_T119 l0_0 x32_2).f0), .int .i64 ((rd_T119 l0_0 x32_2).f1), .int .i64 ((rd_T119 l0_0 x32_2).f2), .int .i64 0, .int .i64 0, .int .i64 0, .int .i64 0]) ?_ 3 _ rfl; (with_reducible repeat (first | refine blk_drewN ?_ _ | refine blk_drew ?_ | refine blk_alloc ?_ _)); refine blk_put (cs := #[.int .i64 ((rd_T119 l0_0 x32_2).f0), .int .i64 ((rd_T119 l0_0 x32_2).f1), .int .i64 0, .int .i64 0, .int .i64 0, .int .i64 0, .int .i64 0]) ?_ 2 _ rfl; (with_reducible repeat (first | refine blk_drewN ?_ _ | refine blk_drew ?_ | refine blk_alloc ?_ _)); refine blk_put (cs := #[.int .i64 ((rd_T119 l0_0 x32_2).f0), .int .i64 0, .int .i64 0, .int .i64 0, .int .i64 0, .int .i64 0, .int .i64 0]) ?_ 1 _ rfl; (with_reducible repeat (first | refine blk_drewN ?_ _ | refine blk_drew ?_ | refine blk_alloc ?_ _)); refine blk_put (cs := #[.int .i64 0, .int .i64 0, .int .i64 0, .int .i64 0, .int .i64 0, .int .i64 0, .int .i64 0]) ?_ 0 _ rfl; (with_reducible repeat (first | refine blk_drewN ?_ _ | refine blk_drew ?_ | refine blk_alloc ?_ _)); exact BK179.out⟩
                have n3_ : Aside0 (Below w.heap.size w (((((((w21.setCell ⟨gb179, 0, none⟩ (.int .i64 ((rd_T119 l0_0 x32_2).f0))).setCell ⟨gb179, 1, none⟩ (.int .i64 ((rd_T119 l0_0 x32_2).f1))).setCell ⟨gb179, 2, none⟩ (.int .i64 ((rd_T119 l0_0 x32_2).f2))).setCell ⟨gb179, 3, none⟩ (.int .i64 ((rd_T119 l0_0 x32_2).f3))).setCell ⟨gb179, 4, none⟩ (.int .i64 ((rd_T119 l0_0 x32_2).f4))).setCell ⟨gb179, 5, none⟩ (.int .i64 ((rd_T119 l0_0 x32_2).f5))).setCell ⟨gb179, 6, none⟩ (.int .i64 ((rd_T119 l0_0 x32_2).f6)))) := ⟨by repeat (first | (with_reducible first | exact HB.out | apply below_alloc | apply pw_below_drewN | apply below_drew1 | refine below_set ?_ GE173.out | refine below_set ?_ GE179.out) | exact HB.out)⟩
                (try clear HO_3)
                (try clear BK173)
                (try clear BK179)
                (try clear HB)
                generalize (((((((w21.setCell ⟨gb179, 0, none⟩ (.int .i64 ((rd_T119 l0_0 x32_2).f0))).setCell ⟨gb179, 1, none⟩ (.int .i64 ((rd_T119 l0_0 x32_2).f1))).setCell ⟨gb179, 2, none⟩ (.int .i64 ((rd_T119 l0_0 x32_2).f2))).setCell ⟨gb179, 3, none⟩ (.int .i64 ((rd_T119 l0_0 x32_2).f3))).setCell ⟨gb179, 4, none⟩ (.int .i64 ((rd_T119 l0_0 x32_2).f4))).setCell ⟨gb179, 5, none⟩ (.int .i64 ((rd_T119 l0_0 x32_2).f5))).setCell ⟨gb179, 6, none⟩ (.int .i64 ((rd_T119 l0_0 x32_2).f6))) = w49 at n0_ n1_ n2_ n3_ ⊢
                try replace n0_ := Aside0.mk (by first | exact Kd.R_drewN n0_.out nd | exact blk_drewN n0_.out nd | exact pw_below_drewN n0_.out nd)
                try replace n1_ := Aside0.mk (by first | exact Kd.R_drewN n1_.out nd | exact blk_drewN n1_.out nd | exact pw_below_drewN n1_.out nd)
                try replace n2_ := Aside0.mk (by first | exact Kd.R_drewN n2_.out nd | exact blk_drewN n2_.out nd | exact pw_below_drewN n2_.out nd)
                try replace n3_ := Aside0.mk (by first | exact Kd.R_drewN n3_.out nd | exact blk_drewN n3_.out nd | exact pw_below_drewN n3_.out nd)
                try generalize w49.drewN nd = w49 at n0_ n1_ n2_ n3_ ⊢
                have HO_3 := n0_
                have BK173 := n1_
                have BK179 := n2_
                have HB := n3_
                clear n0_ n1_ n2_ n3_
                have n0_ := Aside0.mk (Kd.R_drew HO_3.out)
                have n1_ := Aside0.mk (blk_drew BK173.out)
                have n2_ := Aside0.mk (blk_drew BK179.out)
                have n3_ := Aside0.mk (below_drew1 HB.out)
                clear HO_3
                clear BK173
                clear BK179
                clear HB
                have HO_3 := n0_
                have BK173 := n1_
                have BK179 := n2_
                have HB := n3_
                clear n0_ n1_ n2_ n3_
                refine start_ (n := 46) (S := fun w' => w'.cell? ⟨gb179, 0, none⟩ = some (.int .i64 ((rd_T119 l0_0 x32_2).f0)) ∧ w'.cell? ⟨gb179, 1, none⟩ = some (.int .i64 ((rd_T119 l0_0 x32_2).f1)) ∧ w'.cell? ⟨gb179, 2, none⟩ = some (.int .i64 ((rd_T119 l0_0 x32_2).f2)) ∧ w'.cell? ⟨gb179, 3, none⟩ = some (.int .i64 ((rd_T119 l0_0 x32_2).f3)) ∧ w'.cell? ⟨gb179, 4, none⟩ = some (.int .i64 ((rd_T119 l0_0 x32_2).f4)) ∧ w'.cell? ⟨gb179, 5, none⟩ = some (.int .i64 ((rd_T119 l0_0 x32_2).f5)) ∧ w'.cell? ⟨gb179, 6, none⟩ = some (.int .i64 ((rd_T119 l0_0 x32_2).f6)) ∧ w'.cell? ⟨gb173, 0, none⟩ = some (.slice (some ad178) l0_0.length c0_0) ∧ w'.cell? ⟨gb173, 1, none⟩ = some (.slice A0_1 l0_1.length c0_1) ∧ w'.cell? ⟨gb173, 2, none⟩ = some (.int .i64 a0_2)) (ds := []) impl_HouseOk.v0 (by kernel_rfl) rfl rfl ⟨(blk_cell BK179.out 0).trans rfl, (blk_cell BK179.out 1).trans rfl, (blk_cell BK179.out 2).trans rfl, (blk_cell BK179.out 3).trans rfl, (blk_cell BK179.out 4).trans rfl, (blk_cell BK179.out 5).trans rfl, (blk_cell BK179.out 6).trans rfl, (blk_cell BK173.out 0).trans rfl, (blk_cell BK173.out 1).trans rfl, (blk_cell BK173.out 2).trans rfl⟩ (fun hHeld => ?_); refine with_tabW impl_HouseOk.tab7 impl_HouseOk.bits7 (fun HT_ HW_ => ?_)
                generalize w49.drew = w50 at HO_3 BK173 BK179 HB hHeld ⊢
                refine Sk.pq 0 37 impl_HouseOk.v1 HT_.out (h := ?_)
                refine Sk.tk10 1 38 impl_HouseOk.v2 HT_.out HW_.out hHeld (h := ?_)
                refine one_ (i := 2) (N := some 39) impl_HouseOk.v3 rfl rfl (one_of HT_.out (by kernel_rfl)) (by decide) (fun K hK => ?_)
                refine goes_ Try.func87 (by kernel_rfl) rfl #[.int .i64 ((rd_T119 l0_0 x32_2).f0)] (by rfl) rfl rfl (by (try simp only [List.map_toArray, List.map_cons, List.map_nil]); first | done | rfl | (simp only [List.length_drop, List.length_take]; rfl)) ?_
                with_reducible refine (impl_idRight.calls ((rd_T119 l0_0 x32_2).f0) true _ A24.out).mono ?_
                rintro e w' ⟨rfl, ⟨nd, rfl⟩⟩
                refine ⟨_, rfl, ?_⟩
                refine hK.out _ _ ⟨(blk_cell BK179.out 0).trans rfl, (blk_cell BK179.out 1).trans rfl, (blk_cell BK179.out 2).trans rfl, (blk_cell BK179.out 3).trans rfl, (blk_cell BK179.out 4).trans rfl, (blk_cell BK179.out 5).trans rfl, (blk_cell BK179.out 6).trans rfl, (blk_cell BK173.out 0).trans rfl, (blk_cell BK173.out 1).trans rfl, (blk_cell BK173.out 2).trans rfl⟩ (fun hHeld => ?_)
                clear hK K
                refine Sk.nm 39 (h := ?_)
                refine Sk.pq 3 40 impl_HouseOk.v4 HT_.out (h := ?_)
                refine Sk.pq 4 41 impl_HouseOk.v5 HT_.out (h := ?_)
                refine Sk.pq 5 42 impl_HouseOk.v6 HT_.out (h := ?_)
                refine Sk.pq 6 43 impl_HouseOk.v7 HT_.out (h := ?_)
                refine Sk.pq 7 44 impl_HouseOk.v8 HT_.out (h := ?_)
                refine Sk.pu 8 45 impl_HouseOk.v9 HT_.out (h := ?_)
                refine Sk.pu 9 46 impl_HouseOk.v51 HT_.out (h := ?_)
                refine Sk.pu 10 47 impl_HouseOk.v52 HT_.out (h := ?_)
                refine Sk.pu 11 48 impl_HouseOk.v53 HT_.out (h := ?_)
                refine Sk.pu 12 49 impl_HouseOk.v54 HT_.out (h := ?_)
                refine Sk.pu 13 50 impl_HouseOk.v55 HT_.out (h := ?_)
                refine Sk.pu 14 51 impl_HouseOk.v56 HT_.out (h := ?_)
                refine Sk.pu 15 52 impl_HouseOk.v16 HT_.out (h := ?_)
                refine Sk.pu 16 53 impl_HouseOk.v17 HT_.out (h := ?_)
                refine Sk.pu 17 54 impl_HouseOk.v18 HT_.out (h := ?_)
                refine Sk.pq 18 55 impl_HouseOk.v19 HT_.out (h := ?_)
                refine Sk.pq 19 56 impl_HouseOk.v20 HT_.out (h := ?_)
                refine Sk.pq 20 57 impl_HouseOk.v21 HT_.out (h := ?_)
                refine Sk.pq 21 58 impl_HouseOk.v22 HT_.out (h := ?_)
                refine Sk.pq 23 60 impl_HouseOk.v47 HT_.out (h := ?_)
                refine Sk.tk10 22 59 impl_HouseOk.v24 HT_.out HW_.out hHeld (h := ?_)
                refine Sk.tk10 24 61 impl_HouseOk.v25 HT_.out HW_.out hHeld (h := ?_)
                refine Sk.pq 25 62 impl_HouseOk.v26 HT_.out (h := ?_)
                refine Sk.pq 26 63 impl_HouseOk.v27 HT_.out (h := ?_)
                refine one_ (i := 27) (N := some 64) impl_HouseOk.v28 rfl rfl (one_of HT_.out (by kernel_rfl)) (by decide) (fun K hK => ?_)
                refine goes_ Try.func54 (by kernel_rfl) rfl #[.int .i64 ((rd_T119 l0_0 x32_2).f1), .int .i64 0, .int .i64 (wrap64 ((l0_1.length : Int) - 1))] (by rfl) rfl rfl (by (try simp only [List.map_toArray, List.map_cons, List.map_nil]); first | done | rfl | (simp only [List.length_drop, List.length_take]; rfl)) ?_
                with_reducible refine (impl_in.calls ((rd_T119 l0_0 x32_2).f1) 0 (wrap64 ((l0_1.length : Int) - 1)) true _ A44.out).mono ?_
                rintro e w' ⟨rfl, ⟨nd, rfl⟩⟩
                refine ⟨_, rfl, ?_⟩
                refine hK.out _ _ ⟨(blk_cell BK179.out 0).trans rfl, (blk_cell BK179.out 1).trans rfl, (blk_cell BK179.out 2).trans rfl, (blk_cell BK179.out 3).trans rfl, (blk_cell BK179.out 4).trans rfl, (blk_cell BK179.out 5).trans rfl, (blk_cell BK179.out 6).trans rfl, (blk_cell BK173.out 0).trans rfl, (blk_cell BK173.out 1).trans rfl, (blk_cell BK173.out 2).trans rfl⟩ (fun hHeld => ?_)
                clear hK K
                refine Sk.nm 64 (h := ?_)
                refine Sk.pq 28 65 impl_HouseOk.v29 HT_.out (h := ?_)
                refine Sk.pq 29 66 impl_HouseOk.v30 HT_.out (h := ?_)
                refine Sk.pq 30 67 impl_HouseOk.v31 HT_.out (h := ?_)
                refine Sk.pq 31 68 impl_HouseOk.v32 HT_.out (h := ?_)
                refine Sk.pq 33 70 impl_HouseOk.v48 HT_.out (h := ?_)
                refine Sk.pq 35 72 impl_HouseOk.v49 HT_.out (h := ?_)
                refine Sk.tk10 32 69 impl_HouseOk.v50 HT_.out HW_.out hHeld (h := ?_)
                refine Sk.tk10 34 71 impl_HouseOk.v36 HT_.out HW_.out hHeld (h := ?_)
                refine Sk.tk10 36 73 impl_HouseOk.v37 HT_.out HW_.out hHeld (h := ?_)
                refine one_ (i := 37) (N := some 74) impl_HouseOk.v38 rfl rfl (one_of HT_.out (by kernel_rfl)) (by decide) (fun K hK => ?_)
                refine goes_ Try.func88 (by kernel_rfl) rfl #[.int .i64 ((rd_T119 l0_0 x32_2).f2), .int .i64 ((rd_T119 l0_0 x32_2).f3), .int .i64 ((rd_T119 l0_0 x32_2).f4)] (by rfl) rfl rfl (by (try simp only [List.map_toArray, List.map_cons, List.map_nil]); first | done | rfl | (simp only [List.length_drop, List.length_take]; rfl)) ?_
                with_reducible refine (impl_lotRight.calls ((rd_T119 l0_0 x32_2).f2) ((rd_T119 l0_0 x32_2).f3) ((rd_T119 l0_0 x32_2).f4) true _ A46.out).mono ?_
                rintro e w' ⟨rfl, ⟨nd, rfl⟩⟩
                refine ⟨_, rfl, ?_⟩
                refine hK.out _ _ ⟨(blk_cell BK179.out 0).trans rfl, (blk_cell BK179.out 1).trans rfl, (blk_cell BK179.out 2).trans rfl, (blk_cell BK179.out 3).trans rfl, (blk_cell BK179.out 4).trans rfl, (blk_cell BK179.out 5).trans rfl, (blk_cell BK179.out 6).trans rfl, (blk_cell BK173.out 0).trans rfl, (blk_cell BK173.out 1).trans rfl, (blk_cell BK173.out 2).trans rfl⟩ (fun hHeld => ?_)
                clear hK K
                refine Sk.nm 74 (h := ?_)
                refine Sk.pq 38 75 impl_HouseOk.v39 HT_.out (h := ?_)
                refine Sk.pq 39 76 impl_HouseOk.v40 HT_.out (h := ?_)
                refine Sk.pq 40 77 impl_HouseOk.v41 HT_.out (h := ?_)
                refine Sk.pq 41 78 impl_HouseOk.v42 HT_.out (h := ?_)
                refine Sk.tk10 42 79 impl_HouseOk.v43 HT_.out HW_.out hHeld (h := ?_)
                refine one_ (i := 43) (N := some 80) impl_HouseOk.v44 rfl rfl (one_of HT_.out (by kernel_rfl)) (by decide) (fun K hK => ?_)
                refine goes_ Try.func54 (by kernel_rfl) rfl #[.int .i64 ((rd_T119 l0_0 x32_2).f5), .int .i64 1, .int .i64 5] (by rfl) rfl rfl (by (try simp only [List.map_toArray, List.map_cons, List.map_nil]); first | done | rfl | (simp only [List.length_drop, List.length_take]; rfl)) ?_
                with_reducible refine (impl_in.calls ((rd_T119 l0_0 x32_2).f5) 1 5 t187 _ A48.out).mono ?_
                rintro e w' ⟨rfl, ⟨nd, rfl⟩⟩
                refine ⟨_, rfl, ?_⟩
                refine hK.out _ _ ⟨(blk_cell BK179.out 0).trans rfl, (blk_cell BK179.out 1).trans rfl, (blk_cell BK179.out 2).trans rfl, (blk_cell BK179.out 3).trans rfl, (blk_cell BK179.out 4).trans rfl, (blk_cell BK179.out 5).trans rfl, (blk_cell BK179.out 6).trans rfl, (blk_cell BK173.out 0).trans rfl, (blk_cell BK173.out 1).trans rfl, (blk_cell BK173.out 2).trans rfl⟩ (fun hHeld => ?_)
                clear hK K
                refine Sk.nm 80 (h := ?_)
                refine Sk.pq 44 81 impl_HouseOk.v45 HT_.out (h := ?_)
                refine Sk.pq 45 82 impl_HouseOk.v46 HT_.out (h := ?_)
                refine done_ (done_of HT_.out (by kernel_rfl)) ?_
                try go_wp2
                go_meet
                case rel => exact ⟨_, (!t187), (by first | rfl | (simp; done) | (simp [*]; done)), H', ⟨by have := HJ1.out; have := HK2.out; first | omega | exact Nat.le_refl _⟩, ⟨by (with_reducible repeat (first | apply Kd.R_alloc | apply Kd.R_drewN | apply Kd.R_drew)); exact HO_3.out⟩, ⟨by (with_reducible repeat (first | refine blk_drewN ?_ _ | refine blk_drew ?_ | refine blk_alloc ?_ _)); exact BK173.out⟩, ⟨by (with_reducible repeat (first | refine blk_drewN ?_ _ | refine blk_drew ?_ | refine blk_alloc ?_ _)); exact BK179.out⟩, ⟨by repeat (first | (with_reducible first | exact HB.out | apply below_alloc | apply pw_below_drewN | apply below_drew1 | refine below_set ?_ GE173.out | refine below_set ?_ GE179.out) | exact HB.out)⟩⟩
               ·replace c47 := Bool.eq_false_iff.mpr c47
                subst c47
                rw [if_neg (show ¬ (false = true) by decide)] at H
                have H' := Aside0.mk H
                clear H
                try go_wp2
                have n0_ : Aside0 (Kd.R (Kd.int .i64) 3 (((((((w21.setCell ⟨gb179, 0, none⟩ (.int .i64 ((rd_T119 l0_0 x32_2).f0))).setCell ⟨gb179, 1, none⟩ (.int .i64 ((rd_T119 l0_0 x32_2).f1))).setCell ⟨gb179, 2, none⟩ (.int .i64 ((rd_T119 l0_0 x32_2).f2))).setCell ⟨gb179, 3, none⟩ (.int .i64 ((rd_T119 l0_0 x32_2).f3))).setCell ⟨gb179, 4, none⟩ (.int .i64 ((rd_T119 l0_0 x32_2).f4))).setCell ⟨gb179, 5, none⟩ (.int .i64 ((rd_T119 l0_0 x32_2).f5))).setCell ⟨gb179, 6, none⟩ (.int .i64 ((rd_T119 l0_0 x32_2).f6))) w.heap.size (fun _ => True) v176 x3_2) := ⟨by (with_reducible repeat (first | apply Kd.R_alloc | apply Kd.R_drewN | apply Kd.R_drew)); exact Kd.R_mono (Kd.R_far (p := ⟨gb179, 6, none⟩) (Kd.R_far (p := ⟨gb179, 5, none⟩) (Kd.R_far (p := ⟨gb179, 4, none⟩) (Kd.R_far (p := ⟨gb179, 3, none⟩) (Kd.R_far (p := ⟨gb179, 2, none⟩) (Kd.R_far (p := ⟨gb179, 1, none⟩) (Kd.R_far (p := ⟨gb179, 0, none⟩) (Kd.R_types HO_3.out BK179.out (by decide)) (fun _ hk => hk.2) (.int .i64 ((rd_T119 l0_0 x32_2).f0))) (fun _ hk => hk.2) (.int .i64 ((rd_T119 l0_0 x32_2).f1))) (fun _ hk => hk.2) (.int .i64 ((rd_T119 l0_0 x32_2).f2))) (fun _ hk => hk.2) (.int .i64 ((rd_T119 l0_0 x32_2).f3))) (fun _ hk => hk.2) (.int .i64 ((rd_T119 l0_0 x32_2).f4))) (fun _ hk => hk.2) (.int .i64 ((rd_T119 l0_0 x32_2).f5))) (fun _ hk => hk.2) (.int .i64 ((rd_T119 l0_0 x32_2).f6))) (fun _ hk => trivial)⟩
                have n1_ : Aside0 ((((((((w21.setCell ⟨gb179, 0, none⟩ (.int .i64 ((rd_T119 l0_0 x32_2).f0))).setCell ⟨gb179, 1, none⟩ (.int .i64 ((rd_T119 l0_0 x32_2).f1))).setCell ⟨gb179, 2, none⟩ (.int .i64 ((rd_T119 l0_0 x32_2).f2))).setCell ⟨gb179, 3, none⟩ (.int .i64 ((rd_T119 l0_0 x32_2).f3))).setCell ⟨gb179, 4, none⟩ (.int .i64 ((rd_T119 l0_0 x32_2).f4))).setCell ⟨gb179, 5, none⟩ (.int .i64 ((rd_T119 l0_0 x32_2).f5))).setCell ⟨gb179, 6, none⟩ (.int .i64 ((rd_T119 l0_0 x32_2).f6))).heap[gb173]? = some (.cells #[.slice (some ad178) l0_0.length c0_0, .slice A0_1 l0_1.length c0_1, .int .i64 a0_2] 75 (0, 0))) := ⟨by (with_reducible repeat (first | refine blk_drewN ?_ _ | refine blk_drew ?_ | refine blk_alloc ?_ _)); refine blk_far ?_ NB173_179.out _; (with_reducible repeat (first | refine blk_drewN ?_ _ | refine blk_drew ?_ | refine blk_alloc ?_ _)); refine blk_far ?_ NB173_179.out _; (with_reducible repeat (first | refine blk_drewN ?_ _ | refine blk_drew ?_ | refine blk_alloc ?_ _)); refine blk_far ?_ NB173_179.out _; (with_reducible repeat (first | refine blk_drewN ?_ _ | refine blk_drew ?_ | refine blk_alloc ?_ _)); refine blk_far ?_ NB173_179.out _; (with_reducible repeat (first | refine blk_drewN ?_ _ | refine blk_drew ?_ | refine blk_alloc ?_ _)); refine blk_far ?_ NB173_179.out _; (with_reducible repeat (first | refine blk_drewN ?_ _ | refine blk_drew ?_ | refine blk_alloc ?_ _)); refine blk_far ?_ NB173_179.out _; (with_reducible repeat (first | refine blk_drewN ?_ _ | refine blk_drew ?_ | refine blk_alloc ?_ _)); refine blk_far ?_ NB173_179.out _; (with_reducible repeat (first | refine blk_drewN ?_ _ | refine blk_drew ?_ | refine blk_alloc ?_ _)); exact BK173.out⟩
                have n2_ : Aside0 ((((((((w21.setCell ⟨gb179, 0, none⟩ (.int .i64 ((rd_T119 l0_0 x32_2).f0))).setCell ⟨gb179, 1, none⟩ (.int .i64 ((rd_T119 l0_0 x32_2).f1))).setCell ⟨gb179, 2, none⟩ (.int .i64 ((rd_T119 l0_0 x32_2).f2))).setCell ⟨gb179, 3, none⟩ (.int .i64 ((rd_T119 l0_0 x32_2).f3))).setCell ⟨gb179, 4, none⟩ (.int .i64 ((rd_T119 l0_0 x32_2).f4))).setCell ⟨gb179, 5, none⟩ (.int .i64 ((rd_T119 l0_0 x32_2).f5))).setCell ⟨gb179, 6, none⟩ (.int .i64 ((rd_T119 l0_0 x32_2).f6))).heap[gb179]? = some (.cells #[.int .i64 ((rd_T119 l0_0 x32_2).f0), .int .i64 ((rd_T119 l0_0 x32_2).f1), .int .i64 ((rd_T119 l0_0 x32_2).f2), .int .i64 ((rd_T119 l0_0 x32_2).f3), .int .i64 ((rd_T119 l0_0 x32_2).f4), .int .i64 ((rd_T119 l0_0 x32_2).f5), .int .i64 ((rd_T119 l0_0 x32_2).f6)] 119 (0, 0))) := ⟨by (with_reducible repeat (first | refine blk_drewN ?_ _ | refine blk_drew ?_ | refine blk_alloc ?_ _)); refine blk_put (cs := #[.int .i64 ((rd_T119 l0_0 x32_2).f0), .int .i64 ((rd_T119 l0_0 x32_2).f1), .int .i64 ((rd_T119 l0_0 x32_2).f2), .int .i64 ((rd_T119 l0_0 x32_2).f3), .int .i64 ((rd_T119 l0_0 x32_2).f4), .int .i64 ((rd_T119 l0_0 x32_2).f5), .int .i64 0]) ?_ 6 _ rfl; (with_reducible repeat (first | refine blk_drewN ?_ _ | refine blk_drew ?_ | refine blk_alloc ?_ _)); refine blk_put (cs := #[.int .i64 ((rd_T119 l0_0 x32_2).f0), .int .i64 ((rd_T119 l0_0 x32_2).f1), .int .i64 ((rd_T119 l0_0 x32_2).f2), .int .i64 ((rd_T119 l0_0 x32_2).f3), .int .i64 ((rd_T119 l0_0 x32_2).f4), .int .i64 0, .int .i64 0]) ?_ 5 _ rfl; (with_reducible repeat (first | refine blk_drewN ?_ _ | refine blk_drew ?_ | refine blk_alloc ?_ _)); refine blk_put (cs := #[.int .i64 ((rd_T119 l0_0 x32_2).f0), .int .i64 ((rd_T119 l0_0 x32_2).f1), .int .i64 ((rd_T119 l0_0 x32_2).f2), .int .i64 ((rd_T119 l0_0 x32_2).f3), .int .i64 0, .int .i64 0, .int .i64 0]) ?_ 4 _ rfl; (with_reducible repeat (first | refine blk_drewN ?_ _ | refine blk_drew ?_ | refine blk_alloc ?_ _)); refine blk_put (cs := #[.int .i64 ((rd_T119 l0_0 x32_2).f0), .int .i64 ((rd_T119 l0_0 x32_2).f1), .int .i64 ((rd_T119 l0_0 x32_2).f2), .int .i64 0, .int .i64 0, .int .i64 0, .int .i64 0]) ?_ 3 _ rfl; (with_reducible repeat (first | refine blk_drewN ?_ _ | refine blk_drew ?_ | refine blk_alloc ?_ _)); refine blk_put (cs := #[.int .i64 ((rd_T119 l0_0 x32_2).f0), .int .i64 ((rd_T119 l0_0 x32_2).f1), .int .i64 0, .int .i64 0, .int .i64 0, .int .i64 0, .int .i64 0]) ?_ 2 _ rfl; (with_reducible repeat (first | refine blk_drewN ?_ _ | refine blk_drew ?_ | refine blk_alloc ?_ _)); refine blk_put (cs := #[.int .i64 ((rd_T119 l0_0 x32_2).f0), .int .i64 0, .int .i64 0, .int .i64 0, .int .i64 0, .int .i64 0, .int .i64 0]) ?_ 1 _ rfl; (with_reducible repeat (first | refine blk_drewN ?_ _ | refine blk_drew ?_ | refine blk_alloc ?_ _)); refine blk_put (cs := #[.int .i64 0, .int .i64 0, .int .i64 0, .int .i64 0, .int .i64 0, .int .i64 0, .int .i64 0]) ?_ 0 _ rfl; (with_reducible repeat (first | refine blk_drewN ?_ _ | refine blk_drew ?_ | refine blk_alloc ?_ _)); exact BK179.out⟩
                have n3_ : Aside0 (Below w.heap.size w (((((((w21.setCell ⟨gb179, 0, none⟩ (.int .i64 ((rd_T119 l0_0 x32_2).f0))).setCell ⟨gb179, 1, none⟩ (.int .i64 ((rd_T119 l0_0 x32_2).f1))).setCell ⟨gb179, 2, none⟩ (.int .i64 ((rd_T119 l0_0 x32_2).f2))).setCell ⟨gb179, 3, none⟩ (.int .i64 ((rd_T119 l0_0 x32_2).f3))).setCell ⟨gb179, 4, none⟩ (.int .i64 ((rd_T119 l0_0 x32_2).f4))).setCell ⟨gb179, 5, none⟩ (.int .i64 ((rd_T119 l0_0 x32_2).f5))).setCell ⟨gb179, 6, none⟩ (.int .i64 ((rd_T119 l0_0 x32_2).f6)))) := ⟨by repeat (first | (with_reducible first | exact HB.out | apply below_alloc | apply pw_below_drewN | apply below_drew1 | refine below_set ?_ GE173.out | refine below_set ?_ GE179.out) | exact HB.out)⟩
                (try clear HO_3)
                (try clear BK173)
                (try clear BK179)
                (try clear HB)
                generalize (((((((w21.setCell ⟨gb179, 0, none⟩ (.int .i64 ((rd_T119 l0_0 x32_2).f0))).setCell ⟨gb179, 1, none⟩ (.int .i64 ((rd_T119 l0_0 x32_2).f1))).setCell ⟨gb179, 2, none⟩ (.int .i64 ((rd_T119 l0_0 x32_2).f2))).setCell ⟨gb179, 3, none⟩ (.int .i64 ((rd_T119 l0_0 x32_2).f3))).setCell ⟨gb179, 4, none⟩ (.int .i64 ((rd_T119 l0_0 x32_2).f4))).setCell ⟨gb179, 5, none⟩ (.int .i64 ((rd_T119 l0_0 x32_2).f5))).setCell ⟨gb179, 6, none⟩ (.int .i64 ((rd_T119 l0_0 x32_2).f6))) = w51 at n0_ n1_ n2_ n3_ ⊢
                try replace n0_ := Aside0.mk (by first | exact Kd.R_drewN n0_.out nd | exact blk_drewN n0_.out nd | exact pw_below_drewN n0_.out nd)
                try replace n1_ := Aside0.mk (by first | exact Kd.R_drewN n1_.out nd | exact blk_drewN n1_.out nd | exact pw_below_drewN n1_.out nd)
                try replace n2_ := Aside0.mk (by first | exact Kd.R_drewN n2_.out nd | exact blk_drewN n2_.out nd | exact pw_below_drewN n2_.out nd)
                try replace n3_ := Aside0.mk (by first | exact Kd.R_drewN n3_.out nd | exact blk_drewN n3_.out nd | exact pw_below_drewN n3_.out nd)
                try generalize w51.drewN nd = w51 at n0_ n1_ n2_ n3_ ⊢
                have HO_3 := n0_
                have BK173 := n1_
                have BK179 := n2_
                have HB := n3_
                clear n0_ n1_ n2_ n3_
                have n0_ := Aside0.mk (Kd.R_drew HO_3.out)
                have n1_ := Aside0.mk (blk_drew BK173.out)
                have n2_ := Aside0.mk (blk_drew BK179.out)
                have n3_ := Aside0.mk (below_drew1 HB.out)
                clear HO_3
                clear BK173
                clear BK179
                clear HB
                have HO_3 := n0_
                have BK173 := n1_
                have BK179 := n2_
                have HB := n3_
                clear n0_ n1_ n2_ n3_
                refine start_ (n := 46) (S := fun w' => w'.cell? ⟨gb179, 0, none⟩ = some (.int .i64 ((rd_T119 l0_0 x32_2).f0)) ∧ w'.cell? ⟨gb179, 1, none⟩ = some (.int .i64 ((rd_T119 l0_0 x32_2).f1)) ∧ w'.cell? ⟨gb179, 2, none⟩ = some (.int .i64 ((rd_T119 l0_0 x32_2).f2)) ∧ w'.cell? ⟨gb179, 3, none⟩ = some (.int .i64 ((rd_T119 l0_0 x32_2).f3)) ∧ w'.cell? ⟨gb179, 4, none⟩ = some (.int .i64 ((rd_T119 l0_0 x32_2).f4)) ∧ w'.cell? ⟨gb179, 5, none⟩ = some (.int .i64 ((rd_T119 l0_0 x32_2).f5)) ∧ w'.cell? ⟨gb179, 6, none⟩ = some (.int .i64 ((rd_T119 l0_0 x32_2).f6)) ∧ w'.cell? ⟨gb173, 0, none⟩ = some (.slice (some ad178) l0_0.length c0_0) ∧ w'.cell? ⟨gb173, 1, none⟩ = some (.slice A0_1 l0_1.length c0_1) ∧ w'.cell? ⟨gb173, 2, none⟩ = some (.int .i64 a0_2)) (ds := []) impl_HouseOk.v0 (by kernel_rfl) rfl rfl ⟨(blk_cell BK179.out 0).trans rfl, (blk_cell BK179.out 1).trans rfl, (blk_cell BK179.out 2).trans rfl, (blk_cell BK179.out 3).trans rfl, (blk_cell BK179.out 4).trans rfl, (blk_cell BK179.out 5).trans rfl, (blk_cell BK179.out 6).trans rfl, (blk_cell BK173.out 0).trans rfl, (blk_cell BK173.out 1).trans rfl, (blk_cell BK173.out 2).trans rfl⟩ (fun hHeld => ?_); refine with_tabW impl_HouseOk.tab7 impl_HouseOk.bits7 (fun HT_ HW_ => ?_)
                generalize w51.drew = w52 at HO_3 BK173 BK179 HB hHeld ⊢
                refine Sk.pq 0 37 impl_HouseOk.v1 HT_.out (h := ?_)
                refine Sk.tk10 1 38 impl_HouseOk.v2 HT_.out HW_.out hHeld (h := ?_)
                refine one_ (i := 2) (N := some 39) impl_HouseOk.v3 rfl rfl (one_of HT_.out (by kernel_rfl)) (by decide) (fun K hK => ?_)
                refine goes_ Try.func87 (by kernel_rfl) rfl #[.int .i64 ((rd_T119 l0_0 x32_2).f0)] (by rfl) rfl rfl (by (try simp only [List.map_toArray, List.map_cons, List.map_nil]); first | done | rfl | (simp only [List.length_drop, List.length_take]; rfl)) ?_
                with_reducible refine (impl_idRight.calls ((rd_T119 l0_0 x32_2).f0) true _ A24.out).mono ?_
                rintro e w' ⟨rfl, ⟨nd, rfl⟩⟩
                refine ⟨_, rfl, ?_⟩
                refine hK.out _ _ ⟨(blk_cell BK179.out 0).trans rfl, (blk_cell BK179.out 1).trans rfl, (blk_cell BK179.out 2).trans rfl, (blk_cell BK179.out 3).trans rfl, (blk_cell BK179.out 4).trans rfl, (blk_cell BK179.out 5).trans rfl, (blk_cell BK179.out 6).trans rfl, (blk_cell BK173.out 0).trans rfl, (blk_cell BK173.out 1).trans rfl, (blk_cell BK173.out 2).trans rfl⟩ (fun hHeld => ?_)
                clear hK K
                refine Sk.nm 39 (h := ?_)
                refine Sk.pq 3 40 impl_HouseOk.v4 HT_.out (h := ?_)
                refine Sk.pq 4 41 impl_HouseOk.v5 HT_.out (h := ?_)
                refine Sk.pq 5 42 impl_HouseOk.v6 HT_.out (h := ?_)
                refine Sk.pq 6 43 impl_HouseOk.v7 HT_.out (h := ?_)
                refine Sk.pq 7 44 impl_HouseOk.v8 HT_.out (h := ?_)
                refine Sk.pu 8 45 impl_HouseOk.v9 HT_.out (h := ?_)
                refine Sk.pu 9 46 impl_HouseOk.v51 HT_.out (h := ?_)
                refine Sk.pu 10 47 impl_HouseOk.v52 HT_.out (h := ?_)
                refine Sk.pu 11 48 impl_HouseOk.v53 HT_.out (h := ?_)
                refine Sk.pu 12 49 impl_HouseOk.v54 HT_.out (h := ?_)
                refine Sk.pu 13 50 impl_HouseOk.v55 HT_.out (h := ?_)
                refine Sk.pu 14 51 impl_HouseOk.v56 HT_.out (h := ?_)
                refine Sk.pu 15 52 impl_HouseOk.v16 HT_.out (h := ?_)
                refine Sk.pu 16 53 impl_HouseOk.v17 HT_.out (h := ?_)
                refine Sk.pu 17 54 impl_HouseOk.v18 HT_.out (h := ?_)
                refine Sk.pq 18 55 impl_HouseOk.v19 HT_.out (h := ?_)
                refine Sk.pq 19 56 impl_HouseOk.v20 HT_.out (h := ?_)
                refine Sk.pq 20 57 impl_HouseOk.v21 HT_.out (h := ?_)
                refine Sk.pq 21 58 impl_HouseOk.v22 HT_.out (h := ?_)
                refine Sk.pq 23 60 impl_HouseOk.v47 HT_.out (h := ?_)
                refine Sk.tk10 22 59 impl_HouseOk.v24 HT_.out HW_.out hHeld (h := ?_)
                refine Sk.tk10 24 61 impl_HouseOk.v25 HT_.out HW_.out hHeld (h := ?_)
                refine Sk.pq 25 62 impl_HouseOk.v26 HT_.out (h := ?_)
                refine Sk.pq 26 63 impl_HouseOk.v27 HT_.out (h := ?_)
                refine one_ (i := 27) (N := some 64) impl_HouseOk.v28 rfl rfl (one_of HT_.out (by kernel_rfl)) (by decide) (fun K hK => ?_)
                refine goes_ Try.func54 (by kernel_rfl) rfl #[.int .i64 ((rd_T119 l0_0 x32_2).f1), .int .i64 0, .int .i64 (wrap64 ((l0_1.length : Int) - 1))] (by rfl) rfl rfl (by (try simp only [List.map_toArray, List.map_cons, List.map_nil]); first | done | rfl | (simp only [List.length_drop, List.length_take]; rfl)) ?_
                with_reducible refine (impl_in.calls ((rd_T119 l0_0 x32_2).f1) 0 (wrap64 ((l0_1.length : Int) - 1)) true _ A44.out).mono ?_
                rintro e w' ⟨rfl, ⟨nd, rfl⟩⟩
                refine ⟨_, rfl, ?_⟩
                refine hK.out _ _ ⟨(blk_cell BK179.out 0).trans rfl, (blk_cell BK179.out 1).trans rfl, (blk_cell BK179.out 2).trans rfl, (blk_cell BK179.out 3).trans rfl, (blk_cell BK179.out 4).trans rfl, (blk_cell BK179.out 5).trans rfl, (blk_cell BK179.out 6).trans rfl, (blk_cell BK173.out 0).trans rfl, (blk_cell BK173.out 1).trans rfl, (blk_cell BK173.out 2).trans rfl⟩ (fun hHeld => ?_)
                clear hK K
                refine Sk.nm 64 (h := ?_)
                refine Sk.pq 28 65 impl_HouseOk.v29 HT_.out (h := ?_)
                refine Sk.pq 29 66 impl_HouseOk.v30 HT_.out (h := ?_)
                refine Sk.pq 30 67 impl_HouseOk.v31 HT_.out (h := ?_)
                refine Sk.pq 31 68 impl_HouseOk.v32 HT_.out (h := ?_)
                refine Sk.pq 33 70 impl_HouseOk.v48 HT_.out (h := ?_)
                refine Sk.pq 35 72 impl_HouseOk.v49 HT_.out (h := ?_)
                refine Sk.tk10 32 69 impl_HouseOk.v50 HT_.out HW_.out hHeld (h := ?_)
                refine Sk.tk10 34 71 impl_HouseOk.v36 HT_.out HW_.out hHeld (h := ?_)
                refine Sk.tk10 36 73 impl_HouseOk.v37 HT_.out HW_.out hHeld (h := ?_)
                refine one_ (i := 37) (N := some 74) impl_HouseOk.v38 rfl rfl (one_of HT_.out (by kernel_rfl)) (by decide) (fun K hK => ?_)
                refine goes_ Try.func88 (by kernel_rfl) rfl #[.int .i64 ((rd_T119 l0_0 x32_2).f2), .int .i64 ((rd_T119 l0_0 x32_2).f3), .int .i64 ((rd_T119 l0_0 x32_2).f4)] (by rfl) rfl rfl (by (try simp only [List.map_toArray, List.map_cons, List.map_nil]); first | done | rfl | (simp only [List.length_drop, List.length_take]; rfl)) ?_
                with_reducible refine (impl_lotRight.calls ((rd_T119 l0_0 x32_2).f2) ((rd_T119 l0_0 x32_2).f3) ((rd_T119 l0_0 x32_2).f4) false _ A46.out).mono ?_
                rintro e w' ⟨rfl, ⟨nd, rfl⟩⟩
                refine ⟨_, rfl, ?_⟩
                refine hK.out _ _ ⟨(blk_cell BK179.out 0).trans rfl, (blk_cell BK179.out 1).trans rfl, (blk_cell BK179.out 2).trans rfl, (blk_cell BK179.out 3).trans rfl, (blk_cell BK179.out 4).trans rfl, (blk_cell BK179.out 5).trans rfl, (blk_cell BK179.out 6).trans rfl, (blk_cell BK173.out 0).trans rfl, (blk_cell BK173.out 1).trans rfl, (blk_cell BK173.out 2).trans rfl⟩ (fun hHeld => ?_)
                clear hK K
                refine Sk.nm 74 (h := ?_)
                refine Sk.pq 38 75 impl_HouseOk.v39 HT_.out (h := ?_)
                refine Sk.pq 39 76 impl_HouseOk.v40 HT_.out (h := ?_)
                refine Sk.pq 40 77 impl_HouseOk.v41 HT_.out (h := ?_)
                refine Sk.pu 41 78 impl_HouseOk.v42 HT_.out (h := ?_)
                refine Sk.pu 42 79 impl_HouseOk.v43 HT_.out (h := ?_)
                refine Sk.pu 43 80 impl_HouseOk.v44 HT_.out (h := ?_)
                refine Sk.pu 44 81 impl_HouseOk.v45 HT_.out (h := ?_)
                refine Sk.pq 45 82 impl_HouseOk.v46 HT_.out (h := ?_)
                refine done_ (done_of HT_.out (by kernel_rfl)) ?_
                try go_wp2
                go_meet
                case rel => exact ⟨_, (true), (by first | rfl | (simp; done) | (simp [*]; done)), H', ⟨by have := HJ1.out; have := HK2.out; first | omega | exact Nat.le_refl _⟩, ⟨by (with_reducible repeat (first | apply Kd.R_alloc | apply Kd.R_drewN | apply Kd.R_drew)); exact HO_3.out⟩, ⟨by (with_reducible repeat (first | refine blk_drewN ?_ _ | refine blk_drew ?_ | refine blk_alloc ?_ _)); exact BK173.out⟩, ⟨by (with_reducible repeat (first | refine blk_drewN ?_ _ | refine blk_drew ?_ | refine blk_alloc ?_ _)); exact BK179.out⟩, ⟨by repeat (first | (with_reducible first | exact HB.out | apply below_alloc | apply pw_below_drewN | apply below_drew1 | refine below_set ?_ GE173.out | refine below_set ?_ GE179.out) | exact HB.out)⟩⟩
              ·replace c45 := Bool.eq_false_iff.mpr c45
               subst c45
               rw [if_neg (show ¬ (false = true) by decide)] at H
               have H' := Aside0.mk H
               clear H
               try go_wp2
               have n0_ : Aside0 (Kd.R (Kd.int .i64) 3 (((((((w21.setCell ⟨gb179, 0, none⟩ (.int .i64 ((rd_T119 l0_0 x32_2).f0))).setCell ⟨gb179, 1, none⟩ (.int .i64 ((rd_T119 l0_0 x32_2).f1))).setCell ⟨gb179, 2, none⟩ (.int .i64 ((rd_T119 l0_0 x32_2).f2))).setCell ⟨gb179, 3, none⟩ (.int .i64 ((rd_T119 l0_0 x32_2).f3))).setCell ⟨gb179, 4, none⟩ (.int .i64 ((rd_T119 l0_0 x32_2).f4))).setCell ⟨gb179, 5, none⟩ (.int .i64 ((rd_T119 l0_0 x32_2).f5))).setCell ⟨gb179, 6, none⟩ (.int .i64 ((rd_T119 l0_0 x32_2).f6))) w.heap.size (fun _ => True) v176 x3_2) := ⟨by (with_reducible repeat (first | apply Kd.R_alloc | apply Kd.R_drewN | apply Kd.R_drew)); exact Kd.R_mono (Kd.R_far (p := ⟨gb179, 6, none⟩) (Kd.R_far (p := ⟨gb179, 5, none⟩) (Kd.R_far (p := ⟨gb179, 4, none⟩) (Kd.R_far (p := ⟨gb179, 3, none⟩) (Kd.R_far (p := ⟨gb179, 2, none⟩) (Kd.R_far (p := ⟨gb179, 1, none⟩) (Kd.R_far (p := ⟨gb179, 0, none⟩) (Kd.R_types HO_3.out BK179.out (by decide)) (fun _ hk => hk.2) (.int .i64 ((rd_T119 l0_0 x32_2).f0))) (fun _ hk => hk.2) (.int .i64 ((rd_T119 l0_0 x32_2).f1))) (fun _ hk => hk.2) (.int .i64 ((rd_T119 l0_0 x32_2).f2))) (fun _ hk => hk.2) (.int .i64 ((rd_T119 l0_0 x32_2).f3))) (fun _ hk => hk.2) (.int .i64 ((rd_T119 l0_0 x32_2).f4))) (fun _ hk => hk.2) (.int .i64 ((rd_T119 l0_0 x32_2).f5))) (fun _ hk => hk.2) (.int .i64 ((rd_T119 l0_0 x32_2).f6))) (fun _ hk => trivial)⟩
               have n1_ : Aside0 ((((((((w21.setCell ⟨gb179, 0, none⟩ (.int .i64 ((rd_T119 l0_0 x32_2).f0))).setCell ⟨gb179, 1, none⟩ (.int .i64 ((rd_T119 l0_0 x32_2).f1))).setCell ⟨gb179, 2, none⟩ (.int .i64 ((rd_T119 l0_0 x32_2).f2))).setCell ⟨gb179, 3, none⟩ (.int .i64 ((rd_T119 l0_0 x32_2).f3))).setCell ⟨gb179, 4, none⟩ (.int .i64 ((rd_T119 l0_0 x32_2).f4))).setCell ⟨gb179, 5, none⟩ (.int .i64 ((rd_T119 l0_0 x32_2).f5))).setCell ⟨gb179, 6, none⟩ (.int .i64 ((rd_T119 l0_0 x32_2).f6))).heap[gb173]? = some (.cells #[.slice (some ad178) l0_0.length c0_0, .slice A0_1 l0_1.length c0_1, .int .i64 a0_2] 75 (0, 0))) := ⟨by (with_reducible repeat (first | refine blk_drewN ?_ _ | refine blk_drew ?_ | refine blk_alloc ?_ _)); refine blk_far ?_ NB173_179.out _; (with_reducible repeat (first | refine blk_drewN ?_ _ | refine blk_drew ?_ | refine blk_alloc ?_ _)); refine blk_far ?_ NB173_179.out _; (with_reducible repeat (first | refine blk_drewN ?_ _ | refine blk_drew ?_ | refine blk_alloc ?_ _)); refine blk_far ?_ NB173_179.out _; (with_reducible repeat (first | refine blk_drewN ?_ _ | refine blk_drew ?_ | refine blk_alloc ?_ _)); refine blk_far ?_ NB173_179.out _; (with_reducible repeat (first | refine blk_drewN ?_ _ | refine blk_drew ?_ | refine blk_alloc ?_ _)); refine blk_far ?_ NB173_179.out _; (with_reducible repeat (first | refine blk_drewN ?_ _ | refine blk_drew ?_ | refine blk_alloc ?_ _)); refine blk_far ?_ NB173_179.out _; (with_reducible repeat (first | refine blk_drewN ?_ _ | refine blk_drew ?_ | refine blk_alloc ?_ _)); refine blk_far ?_ NB173_179.out _; (with_reducible repeat (first | refine blk_drewN ?_ _ | refine blk_drew ?_ | refine blk_alloc ?_ _)); exact BK173.out⟩
               have n2_ : Aside0 ((((((((w21.setCell ⟨gb179, 0, none⟩ (.int .i64 ((rd_T119 l0_0 x32_2).f0))).setCell ⟨gb179, 1, none⟩ (.int .i64 ((rd_T119 l0_0 x32_2).f1))).setCell ⟨gb179, 2, none⟩ (.int .i64 ((rd_T119 l0_0 x32_2).f2))).setCell ⟨gb179, 3, none⟩ (.int .i64 ((rd_T119 l0_0 x32_2).f3))).setCell ⟨gb179, 4, none⟩ (.int .i64 ((rd_T119 l0_0 x32_2).f4))).setCell ⟨gb179, 5, none⟩ (.int .i64 ((rd_T119 l0_0 x32_2).f5))).setCell ⟨gb179, 6, none⟩ (.int .i64 ((rd_T119 l0_0 x32_2).f6))).heap[gb179]? = some (.cells #[.int .i64 ((rd_T119 l0_0 x32_2).f0), .int .i64 ((rd_T119 l0_0 x32_2).f1), .int .i64 ((rd_T119 l0_0 x32_2).f2), .int .i64 ((rd_T119 l0_0 x32_2).f3), .int .i64 ((rd_T119 l0_0 x32_2).f4), .int .i64 ((rd_T119 l0_0 x32_2).f5), .int .i64 ((rd_T119 l0_0 x32_2).f6)] 119 (0, 0))) := ⟨by (with_reducible repeat (first | refine blk_drewN ?_ _ | refine blk_drew ?_ | refine blk_alloc ?_ _)); refine blk_put (cs := #[.int .i64 ((rd_T119 l0_0 x32_2).f0), .int .i64 ((rd_T119 l0_0 x32_2).f1), .int .i64 ((rd_T119 l0_0 x32_2).f2), .int .i64 ((rd_T119 l0_0 x32_2).f3), .int .i64 ((rd_T119 l0_0 x32_2).f4), .int .i64 ((rd_T119 l0_0 x32_2).f5), .int .i64 0]) ?_ 6 _ rfl; (with_reducible repeat (first | refine blk_drewN ?_ _ | refine blk_drew ?_ | refine blk_alloc ?_ _)); refine blk_put (cs := #[.int .i64 ((rd_T119 l0_0 x32_2).f0), .int .i64 ((rd_T119 l0_0 x32_2).f1), .int .i64 ((rd_T119 l0_0 x32_2).f2), .int .i64 ((rd_T119 l0_0 x32_2).f3), .int .i64 ((rd_T119 l0_0 x32_2).f4), .int .i64 0, .int .i64 0]) ?_ 5 _ rfl; (with_reducible repeat (first | refine blk_drewN ?_ _ | refine blk_drew ?_ | refine blk_alloc ?_ _)); refine blk_put (cs := #[.int .i64 ((rd_T119 l0_0 x32_2).f0), .int .i64 ((rd_T119 l0_0 x32_2).f1), .int .i64 ((rd_T119 l0_0 x32_2).f2), .int .i64 ((rd_T119 l0_0 x32_2).f3), .int .i64 0, .int .i64 0, .int .i64 0]) ?_ 4 _ rfl; (with_reducible repeat (first | refine blk_drewN ?_ _ | refine blk_drew ?_ | refine blk_alloc ?_ _)); refine blk_put (cs := #[.int .i64 ((rd_T119 l0_0 x32_2).f0), .int .i64 ((rd_T119 l0_0 x32_2).f1), .int .i64 ((rd_T119 l0_0 x32_2).f2), .int .i64 0, .int .i64 0, .int .i64 0, .int .i64 0]) ?_ 3 _ rfl; (with_reducible repeat (first | refine blk_drewN ?_ _ | refine blk_drew ?_ | refine blk_alloc ?_ _)); refine blk_put (cs := #[.int .i64 ((rd_T119 l0_0 x32_2).f0), .int .i64 ((rd_T119 l0_0 x32_2).f1), .int .i64 0, .int .i64 0, .int .i64 0, .int .i64 0, .int .i64 0]) ?_ 2 _ rfl; (with_reducible repeat (first | refine blk_drewN ?_ _ | refine blk_drew ?_ | refine blk_alloc ?_ _)); refine blk_put (cs := #[.int .i64 ((rd_T119 l0_0 x32_2).f0), .int .i64 0, .int .i64 0, .int .i64 0, .int .i64 0, .int .i64 0, .int .i64 0]) ?_ 1 _ rfl; (with_reducible repeat (first | refine blk_drewN ?_ _ | refine blk_drew ?_ | refine blk_alloc ?_ _)); refine blk_put (cs := #[.int .i64 0, .int .i64 0, .int .i64 0, .int .i64 0, .int .i64 0, .int .i64 0, .int .i64 0]) ?_ 0 _ rfl; (with_reducible repeat (first | refine blk_drewN ?_ _ | refine blk_drew ?_ | refine blk_alloc ?_ _)); exact BK179.out⟩
               have n3_ : Aside0 (Below w.heap.size w (((((((w21.setCell ⟨gb179, 0, none⟩ (.int .i64 ((rd_T119 l0_0 x32_2).f0))).setCell ⟨gb179, 1, none⟩ (.int .i64 ((rd_T119 l0_0 x32_2).f1))).setCell ⟨gb179, 2, none⟩ (.int .i64 ((rd_T119 l0_0 x32_2).f2))).setCell ⟨gb179, 3, none⟩ (.int .i64 ((rd_T119 l0_0 x32_2).f3))).setCell ⟨gb179, 4, none⟩ (.int .i64 ((rd_T119 l0_0 x32_2).f4))).setCell ⟨gb179, 5, none⟩ (.int .i64 ((rd_T119 l0_0 x32_2).f5))).setCell ⟨gb179, 6, none⟩ (.int .i64 ((rd_T119 l0_0 x32_2).f6)))) := ⟨by repeat (first | (with_reducible first | exact HB.out | apply below_alloc | apply pw_below_drewN | apply below_drew1 | refine below_set ?_ GE173.out | refine below_set ?_ GE179.out) | exact HB.out)⟩
               (try clear HO_3)
               (try clear BK173)
               (try clear BK179)
               (try clear HB)
               generalize (((((((w21.setCell ⟨gb179, 0, none⟩ (.int .i64 ((rd_T119 l0_0 x32_2).f0))).setCell ⟨gb179, 1, none⟩ (.int .i64 ((rd_T119 l0_0 x32_2).f1))).setCell ⟨gb179, 2, none⟩ (.int .i64 ((rd_T119 l0_0 x32_2).f2))).setCell ⟨gb179, 3, none⟩ (.int .i64 ((rd_T119 l0_0 x32_2).f3))).setCell ⟨gb179, 4, none⟩ (.int .i64 ((rd_T119 l0_0 x32_2).f4))).setCell ⟨gb179, 5, none⟩ (.int .i64 ((rd_T119 l0_0 x32_2).f5))).setCell ⟨gb179, 6, none⟩ (.int .i64 ((rd_T119 l0_0 x32_2).f6))) = w53 at n0_ n1_ n2_ n3_ ⊢
               try replace n0_ := Aside0.mk (by first | exact Kd.R_drewN n0_.out nd | exact blk_drewN n0_.out nd | exact pw_below_drewN n0_.out nd)
               try replace n1_ := Aside0.mk (by first | exact Kd.R_drewN n1_.out nd | exact blk_drewN n1_.out nd | exact pw_below_drewN n1_.out nd)
               try replace n2_ := Aside0.mk (by first | exact Kd.R_drewN n2_.out nd | exact blk_drewN n2_.out nd | exact pw_below_drewN n2_.out nd)
               try replace n3_ := Aside0.mk (by first | exact Kd.R_drewN n3_.out nd | exact blk_drewN n3_.out nd | exact pw_below_drewN n3_.out nd)
               try generalize w53.drewN nd = w53 at n0_ n1_ n2_ n3_ ⊢
               have HO_3 := n0_
               have BK173 := n1_
               have BK179 := n2_
               have HB := n3_
               clear n0_ n1_ n2_ n3_
               have n0_ := Aside0.mk (Kd.R_drew HO_3.out)
               have n1_ := Aside0.mk (blk_drew BK173.out)
               have n2_ := Aside0.mk (blk_drew BK179.out)
               have n3_ := Aside0.mk (below_drew1 HB.out)
               clear HO_3
               clear BK173
               clear BK179
               clear HB
               have HO_3 := n0_
               have BK173 := n1_
               have BK179 := n2_
               have HB := n3_
               clear n0_ n1_ n2_ n3_
               refine start_ (n := 46) (S := fun w' => w'.cell? ⟨gb179, 0, none⟩ = some (.int .i64 ((rd_T119 l0_0 x32_2).f0)) ∧ w'.cell? ⟨gb179, 1, none⟩ = some (.int .i64 ((rd_T119 l0_0 x32_2).f1)) ∧ w'.cell? ⟨gb179, 2, none⟩ = some (.int .i64 ((rd_T119 l0_0 x32_2).f2)) ∧ w'.cell? ⟨gb179, 3, none⟩ = some (.int .i64 ((rd_T119 l0_0 x32_2).f3)) ∧ w'.cell? ⟨gb179, 4, none⟩ = some (.int .i64 ((rd_T119 l0_0 x32_2).f4)) ∧ w'.cell? ⟨gb179, 5, none⟩ = some (.int .i64 ((rd_T119 l0_0 x32_2).f5)) ∧ w'.cell? ⟨gb179, 6, none⟩ = some (.int .i64 ((rd_T119 l0_0 x32_2).f6)) ∧ w'.cell? ⟨gb173, 0, none⟩ = some (.slice (some ad178) l0_0.length c0_0) ∧ w'.cell? ⟨gb173, 1, none⟩ = some (.slice A0_1 l0_1.length c0_1) ∧ w'.cell? ⟨gb173, 2, none⟩ = some (.int .i64 a0_2)) (ds := []) impl_HouseOk.v0 (by kernel_rfl) rfl rfl ⟨(blk_cell BK179.out 0).trans rfl, (blk_cell BK179.out 1).trans rfl, (blk_cell BK179.out 2).trans rfl, (blk_cell BK179.out 3).trans rfl, (blk_cell BK179.out 4).trans rfl, (blk_cell BK179.out 5).trans rfl, (blk_cell BK179.out 6).trans rfl, (blk_cell BK173.out 0).trans rfl, (blk_cell BK173.out 1).trans rfl, (blk_cell BK173.out 2).trans rfl⟩ (fun hHeld => ?_); refine with_tabW impl_HouseOk.tab7 impl_HouseOk.bits7 (fun HT_ HW_ => ?_)
               generalize w53.drew = w54 at HO_3 BK173 BK179 HB hHeld ⊢
               refine Sk.pq 0 37 impl_HouseOk.v1 HT_.out (h := ?_)
               refine Sk.tk10 1 38 impl_HouseOk.v2 HT_.out HW_.out hHeld (h := ?_)
               refine one_ (i := 2) (N := some 39) impl_HouseOk.v3 rfl rfl (one_of HT_.out (by kernel_rfl)) (by decide) (fun K hK => ?_)
               refine goes_ Try.func87 (by kernel_rfl) rfl #[.int .i64 ((rd_T119 l0_0 x32_2).f0)] (by rfl) rfl rfl (by (try simp only [List.map_toArray, List.map_cons, List.map_nil]); first | done | rfl | (simp only [List.length_drop, List.length_take]; rfl)) ?_
               with_reducible refine (impl_idRight.calls ((rd_T119 l0_0 x32_2).f0) true _ A24.out).mono ?_
               rintro e w' ⟨rfl, ⟨nd, rfl⟩⟩
               refine ⟨_, rfl, ?_⟩
               refine hK.out _ _ ⟨(blk_cell BK179.out 0).trans rfl, (blk_cell BK179.out 1).trans rfl, (blk_cell BK179.out 2).trans rfl, (blk_cell BK179.out 3).trans rfl, (blk_cell BK179.out 4).trans rfl, (blk_cell BK179.out 5).trans rfl, (blk_cell BK179.out 6).trans rfl, (blk_cell BK173.out 0).trans rfl, (blk_cell BK173.out 1).trans rfl, (blk_cell BK173.out 2).trans rfl⟩ (fun hHeld => ?_)
               clear hK K
               refine Sk.nm 39 (h := ?_)
               refine Sk.pq 3 40 impl_HouseOk.v4 HT_.out (h := ?_)
               refine Sk.pq 4 41 impl_HouseOk.v5 HT_.out (h := ?_)
               refine Sk.pq 5 42 impl_HouseOk.v6 HT_.out (h := ?_)
               refine Sk.pq 6 43 impl_HouseOk.v7 HT_.out (h := ?_)
               refine Sk.pq 7 44 impl_HouseOk.v8 HT_.out (h := ?_)
               refine Sk.pu 8 45 impl_HouseOk.v9 HT_.out (h := ?_)
               refine Sk.pu 9 46 impl_HouseOk.v51 HT_.out (h := ?_)
               refine Sk.pu 10 47 impl_HouseOk.v52 HT_.out (h := ?_)
               refine Sk.pu 11 48 impl_HouseOk.v53 HT_.out (h := ?_)
               refine Sk.pu 12 49 impl_HouseOk.v54 HT_.out (h := ?_)
               refine Sk.pu 13 50 impl_HouseOk.v55 HT_.out (h := ?_)
               refine Sk.pu 14 51 impl_HouseOk.v56 HT_.out (h := ?_)
               refine Sk.pu 15 52 impl_HouseOk.v16 HT_.out (h := ?_)
               refine Sk.pu 16 53 impl_HouseOk.v17 HT_.out (h := ?_)
               refine Sk.pu 17 54 impl_HouseOk.v18 HT_.out (h := ?_)
               refine Sk.pq 18 55 impl_HouseOk.v19 HT_.out (h := ?_)
               refine Sk.pq 19 56 impl_HouseOk.v20 HT_.out (h := ?_)
               refine Sk.pq 20 57 impl_HouseOk.v21 HT_.out (h := ?_)
               refine Sk.pq 21 58 impl_HouseOk.v22 HT_.out (h := ?_)
               refine Sk.pq 23 60 impl_HouseOk.v47 HT_.out (h := ?_)
               refine Sk.tk10 22 59 impl_HouseOk.v24 HT_.out HW_.out hHeld (h := ?_)
               refine Sk.tk10 24 61 impl_HouseOk.v25 HT_.out HW_.out hHeld (h := ?_)
               refine Sk.pq 25 62 impl_HouseOk.v26 HT_.out (h := ?_)
               refine Sk.pq 26 63 impl_HouseOk.v27 HT_.out (h := ?_)
               refine one_ (i := 27) (N := some 64) impl_HouseOk.v28 rfl rfl (one_of HT_.out (by kernel_rfl)) (by decide) (fun K hK => ?_)
               refine goes_ Try.func54 (by kernel_rfl) rfl #[.int .i64 ((rd_T119 l0_0 x32_2).f1), .int .i64 0, .int .i64 (wrap64 ((l0_1.length : Int) - 1))] (by rfl) rfl rfl (by (try simp only [List.map_toArray, List.map_cons, List.map_nil]); first | done | rfl | (simp only [List.length_drop, List.length_take]; rfl)) ?_
               with_reducible refine (impl_in.calls ((rd_T119 l0_0 x32_2).f1) 0 (wrap64 ((l0_1.length : Int) - 1)) false _ A44.out).mono ?_
               rintro e w' ⟨rfl, ⟨nd, rfl⟩⟩
               refine ⟨_, rfl, ?_⟩
               refine hK.out _ _ ⟨(blk_cell BK179.out 0).trans rfl, (blk_cell BK179.out 1).trans rfl, (blk_cell BK179.out 2).trans rfl, (blk_cell BK179.out 3).trans rfl, (blk_cell BK179.out 4).trans rfl, (blk_cell BK179.out 5).trans rfl, (blk_cell BK179.out 6).trans rfl, (blk_cell BK173.out 0).trans rfl, (blk_cell BK173.out 1).trans rfl, (blk_cell BK173.out 2).trans rfl⟩ (fun hHeld => ?_)
               clear hK K
               refine Sk.nm 64 (h := ?_)
               refine Sk.pq 28 65 impl_HouseOk.v29 HT_.out (h := ?_)
               refine Sk.pq 29 66 impl_HouseOk.v30 HT_.out (h := ?_)
               refine Sk.pq 30 67 impl_HouseOk.v31 HT_.out (h := ?_)
               refine Sk.pu 31 68 impl_HouseOk.v32 HT_.out (h := ?_)
               refine Sk.pu 32 69 impl_HouseOk.v33 HT_.out (h := ?_)
               refine Sk.pu 33 70 impl_HouseOk.v34 HT_.out (h := ?_)
               refine Sk.pu 34 71 impl_HouseOk.v35 HT_.out (h := ?_)
               refine Sk.pu 35 72 impl_HouseOk.v36 HT_.out (h := ?_)
               refine Sk.pu 36 73 impl_HouseOk.v37 HT_.out (h := ?_)
               refine Sk.pu 37 74 impl_HouseOk.v38 HT_.out (h := ?_)
               refine Sk.pu 38 75 impl_HouseOk.v39 HT_.out (h := ?_)
               refine Sk.pq 39 76 impl_HouseOk.v40 HT_.out (h := ?_)
               refine Sk.pq 40 77 impl_HouseOk.v41 HT_.out (h := ?_)
               refine Sk.pu 41 78 impl_HouseOk.v42 HT_.out (h := ?_)
               refine Sk.pu 42 79 impl_HouseOk.v43 HT_.out (h := ?_)
               refine Sk.pu 43 80 impl_HouseOk.v44 HT_.out (h := ?_)
               refine Sk.pu 44 81 impl_HouseOk.v45 HT_.out (h := ?_)
               refine Sk.pq 45 82 impl_HouseOk.v46 HT_.out (h := ?_)
               refine done_ (done_of HT_.out (by kernel_rfl)) ?_
               try go_wp2
               go_meet
               case rel => exact ⟨_, (true), (by first | rfl | (simp; done) | (simp [*]; done)), H', ⟨by have := HJ1.out; have := HK2.out; first | omega | exact Nat.le_refl _⟩, ⟨by (with_reducible repeat (first | apply Kd.R_alloc | apply Kd.R_drewN | apply Kd.R_drew)); exact HO_3.out⟩, ⟨by (with_reducible repeat (first | refine blk_drewN ?_ _ | refine blk_drew ?_ | refine blk_alloc ?_ _)); exact BK173.out⟩, ⟨by (with_reducible repeat (first | refine blk_drewN ?_ _ | refine blk_drew ?_ | refine blk_alloc ?_ _)); exact BK179.out⟩, ⟨by repeat (first | (with_reducible first | exact HB.out | apply below_alloc | apply pw_below_drewN | apply below_drew1 | refine below_set ?_ GE173.out | refine below_set ?_ GE179.out) | exact HB.out)⟩⟩
            ·replace c25 := Bool.eq_false_iff.mpr c25
             subst c25
             rw [if_neg (show ¬ (false = true) by decide)] at H
             have H' := Aside0.mk H
             clear H
             try go_wp2
             have n0_ : Aside0 (Kd.R (Kd.int .i64) 3 (((((((w21.setCell ⟨gb179, 0, none⟩ (.int .i64 ((rd_T119 l0_0 x32_2).f0))).setCell ⟨gb179, 1, none⟩ (.int .i64 ((rd_T119 l0_0 x32_2).f1))).setCell ⟨gb179, 2, none⟩ (.int .i64 ((rd_T119 l0_0 x32_2).f2))).setCell ⟨gb179, 3, none⟩ (.int .i64 ((rd_T119 l0_0 x32_2).f3))).setCell ⟨gb179, 4, none⟩ (.int .i64 ((rd_T119 l0_0 x32_2).f4))).setCell ⟨gb179, 5, none⟩ (.int .i64 ((rd_T119 l0_0 x32_2).f5))).setCell ⟨gb179, 6, none⟩ (.int .i64 ((rd_T119 l0_0 x32_2).f6))) w.heap.size (fun _ => True) v176 x3_2) := ⟨by (with_reducible repeat (first | apply Kd.R_alloc | apply Kd.R_drewN | apply Kd.R_drew)); exact Kd.R_mono (Kd.R_far (p := ⟨gb179, 6, none⟩) (Kd.R_far (p := ⟨gb179, 5, none⟩) (Kd.R_far (p := ⟨gb179, 4, none⟩) (Kd.R_far (p := ⟨gb179, 3, none⟩) (Kd.R_far (p := ⟨gb179, 2, none⟩) (Kd.R_far (p := ⟨gb179, 1, none⟩) (Kd.R_far (p := ⟨gb179, 0, none⟩) (Kd.R_types HO_3.out BK179.out (by decide)) (fun _ hk => hk.2) (.int .i64 ((rd_T119 l0_0 x32_2).f0))) (fun _ hk => hk.2) (.int .i64 ((rd_T119 l0_0 x32_2).f1))) (fun _ hk => hk.2) (.int .i64 ((rd_T119 l0_0 x32_2).f2))) (fun _ hk => hk.2) (.int .i64 ((rd_T119 l0_0 x32_2).f3))) (fun _ hk => hk.2) (.int .i64 ((rd_T119 l0_0 x32_2).f4))) (fun _ hk => hk.2) (.int .i64 ((rd_T119 l0_0 x32_2).f5))) (fun _ hk => hk.2) (.int .i64 ((rd_T119 l0_0 x32_2).f6))) (fun _ hk => trivial)⟩
             have n1_ : Aside0 ((((((((w21.setCell ⟨gb179, 0, none⟩ (.int .i64 ((rd_T119 l0_0 x32_2).f0))).setCell ⟨gb179, 1, none⟩ (.int .i64 ((rd_T119 l0_0 x32_2).f1))).setCell ⟨gb179, 2, none⟩ (.int .i64 ((rd_T119 l0_0 x32_2).f2))).setCell ⟨gb179, 3, none⟩ (.int .i64 ((rd_T119 l0_0 x32_2).f3))).setCell ⟨gb179, 4, none⟩ (.int .i64 ((rd_T119 l0_0 x32_2).f4))).setCell ⟨gb179, 5, none⟩ (.int .i64 ((rd_T119 l0_0 x32_2).f5))).setCell ⟨gb179, 6, none⟩ (.int .i64 ((rd_T119 l0_0 x32_2).f6))).heap[gb173]? = some (.cells #[.slice (some ad178) l0_0.length c0_0, .slice A0_1 l0_1.length c0_1, .int .i64 a0_2] 75 (0, 0))) := ⟨by (with_reducible repeat (first | refine blk_drewN ?_ _ | refine blk_drew ?_ | refine blk_alloc ?_ _)); refine blk_far ?_ NB173_179.out _; (with_reducible repeat (first | refine blk_drewN ?_ _ | refine blk_drew ?_ | refine blk_alloc ?_ _)); refine blk_far ?_ NB173_179.out _; (with_reducible repeat (first | refine blk_drewN ?_ _ | refine blk_drew ?_ | refine blk_alloc ?_ _)); refine blk_far ?_ NB173_179.out _; (with_reducible repeat (first | refine blk_drewN ?_ _ | refine blk_drew ?_ | refine blk_alloc ?_ _)); refine blk_far ?_ NB173_179.out _; (with_reducible repeat (first | refine blk_drewN ?_ _ | refine blk_drew ?_ | refine blk_alloc ?_ _)); refine blk_far ?_ NB173_179.out _; (with_reducible repeat (first | refine blk_drewN ?_ _ | refine blk_drew ?_ | refine blk_alloc ?_ _)); refine blk_far ?_ NB173_179.out _; (with_reducible repeat (first | refine blk_drewN ?_ _ | refine blk_drew ?_ | refine blk_alloc ?_ _)); refine blk_far ?_ NB173_179.out _; (with_reducible repeat (first | refine blk_drewN ?_ _ | refine blk_drew ?_ | refine blk_alloc ?_ _)); exact BK173.out⟩
             have n2_ : Aside0 ((((((((w21.setCell ⟨gb179, 0, none⟩ (.int .i64 ((rd_T119 l0_0 x32_2).f0))).setCell ⟨gb179, 1, none⟩ (.int .i64 ((rd_T119 l0_0 x32_2).f1))).setCell ⟨gb179, 2, none⟩ (.int .i64 ((rd_T119 l0_0 x32_2).f2))).setCell ⟨gb179, 3, none⟩ (.int .i64 ((rd_T119 l0_0 x32_2).f3))).setCell ⟨gb179, 4, none⟩ (.int .i64 ((rd_T119 l0_0 x32_2).f4))).setCell ⟨gb179, 5, none⟩ (.int .i64 ((rd_T119 l0_0 x32_2).f5))).setCell ⟨gb179, 6, none⟩ (.int .i64 ((rd_T119 l0_0 x32_2).f6))).heap[gb179]? = some (.cells #[.int .i64 ((rd_T119 l0_0 x32_2).f0), .int .i64 ((rd_T119 l0_0 x32_2).f1), .int .i64 ((rd_T119 l0_0 x32_2).f2), .int .i64 ((rd_T119 l0_0 x32_2).f3), .int .i64 ((rd_T119 l0_0 x32_2).f4), .int .i64 ((rd_T119 l0_0 x32_2).f5), .int .i64 ((rd_T119 l0_0 x32_2).f6)] 119 (0, 0))) := ⟨by (with_reducible repeat (first | refine blk_drewN ?_ _ | refine blk_drew ?_ | refine blk_alloc ?_ _)); refine blk_put (cs := #[.int .i64 ((rd_T119 l0_0 x32_2).f0), .int .i64 ((rd_T119 l0_0 x32_2).f1), .int .i64 ((rd_T119 l0_0 x32_2).f2), .int .i64 ((rd_T119 l0_0 x32_2).f3), .int .i64 ((rd_T119 l0_0 x32_2).f4), .int .i64 ((rd_T119 l0_0 x32_2).f5), .int .i64 0]) ?_ 6 _ rfl; (with_reducible repeat (first | refine blk_drewN ?_ _ | refine blk_drew ?_ | refine blk_alloc ?_ _)); refine blk_put (cs := #[.int .i64 ((rd_T119 l0_0 x32_2).f0), .int .i64 ((rd_T119 l0_0 x32_2).f1), .int .i64 ((rd_T119 l0_0 x32_2).f2), .int .i64 ((rd_T119 l0_0 x32_2).f3), .int .i64 ((rd_T119 l0_0 x32_2).f4), .int .i64 0, .int .i64 0]) ?_ 5 _ rfl; (with_reducible repeat (first | refine blk_drewN ?_ _ | refine blk_drew ?_ | refine blk_alloc ?_ _)); refine blk_put (cs := #[.int .i64 ((rd_T119 l0_0 x32_2).f0), .int .i64 ((rd_T119 l0_0 x32_2).f1), .int .i64 ((rd_T119 l0_0 x32_2).f2), .int .i64 ((rd_T119 l0_0 x32_2).f3), .int .i64 0, .int .i64 0, .int .i64 0]) ?_ 4 _ rfl; (with_reducible repeat (first | refine blk_drewN ?_ _ | refine blk_drew ?_ | refine blk_alloc ?_ _)); refine blk_put (cs := #[.int .i64 ((rd_T119 l0_0 x32_2).f0), .int .i64 ((rd_T119 l0_0 x32_2).f1), .int .i64 ((rd_T119 l0_0 x32_2).f2), .int .i64 0, .int .i64 0, .int .i64 0, .int .i64 0]) ?_ 3 _ rfl; (with_reducible repeat (first | refine blk_drewN ?_ _ | refine blk_drew ?_ | refine blk_alloc ?_ _)); refine blk_put (cs := #[.int .i64 ((rd_T119 l0_0 x32_2).f0), .int .i64 ((rd_T119 l0_0 x32_2).f1), .int .i64 0, .int .i64 0, .int .i64 0, .int .i64 0, .int .i64 0]) ?_ 2 _ rfl; (with_reducible repeat (first | refine blk_drewN ?_ _ | refine blk_drew ?_ | refine blk_alloc ?_ _)); refine blk_put (cs := #[.int .i64 ((rd_T119 l0_0 x32_2).f0), .int .i64 0, .int .i64 0, .int .i64 0, .int .i64 0, .int .i64 0, .int .i64 0]) ?_ 1 _ rfl; (with_reducible repeat (first | refine blk_drewN ?_ _ | refine blk_drew ?_ | refine blk_alloc ?_ _)); refine blk_put (cs := #[.int .i64 0, .int .i64 0, .int .i64 0, .int .i64 0, .int .i64 0, .int .i64 0, .int .i64 0]) ?_ 0 _ rfl; (with_reducible repeat (first | refine blk_drewN ?_ _ | refine blk_drew ?_ | refine blk_alloc ?_ _)); exact BK179.out⟩
             have n3_ : Aside0 (Below w.heap.size w (((((((w21.setCell ⟨gb179, 0, none⟩ (.int .i64 ((rd_T119 l0_0 x32_2).f0))).setCell ⟨gb179, 1, none⟩ (.int .i64 ((rd_T119 l0_0 x32_2).f1))).setCell ⟨gb179, 2, none⟩ (.int .i64 ((rd_T119 l0_0 x32_2).f2))).setCell ⟨gb179, 3, none⟩ (.int .i64 ((rd_T119 l0_0 x32_2).f3))).setCell ⟨gb179, 4, none⟩ (.int .i64 ((rd_T119 l0_0 x32_2).f4))).setCell ⟨gb179, 5, none⟩ (.int .i64 ((rd_T119 l0_0 x32_2).f5))).setCell ⟨gb179, 6, none⟩ (.int .i64 ((rd_T119 l0_0 x32_2).f6)))) := ⟨by repeat (first | (with_reducible first | exact HB.out | apply below_alloc | apply pw_below_drewN | apply below_drew1 | refine below_set ?_ GE173.out | refine below_set ?_ GE179.out) | exact HB.out)⟩
             (try clear HO_3)
             (try clear BK173)
             (try clear BK179)
             (try clear HB)
             generalize (((((((w21.setCell ⟨gb179, 0, none⟩ (.int .i64 ((rd_T119 l0_0 x32_2).f0))).setCell ⟨gb179, 1, none⟩ (.int .i64 ((rd_T119 l0_0 x32_2).f1))).setCell ⟨gb179, 2, none⟩ (.int .i64 ((rd_T119 l0_0 x32_2).f2))).setCell ⟨gb179, 3, none⟩ (.int .i64 ((rd_T119 l0_0 x32_2).f3))).setCell ⟨gb179, 4, none⟩ (.int .i64 ((rd_T119 l0_0 x32_2).f4))).setCell ⟨gb179, 5, none⟩ (.int .i64 ((rd_T119 l0_0 x32_2).f5))).setCell ⟨gb179, 6, none⟩ (.int .i64 ((rd_T119 l0_0 x32_2).f6))) = w55 at n0_ n1_ n2_ n3_ ⊢
             try replace n0_ := Aside0.mk (by first | exact Kd.R_drewN n0_.out nd | exact blk_drewN n0_.out nd | exact pw_below_drewN n0_.out nd)
             try replace n1_ := Aside0.mk (by first | exact Kd.R_drewN n1_.out nd | exact blk_drewN n1_.out nd | exact pw_below_drewN n1_.out nd)
             try replace n2_ := Aside0.mk (by first | exact Kd.R_drewN n2_.out nd | exact blk_drewN n2_.out nd | exact pw_below_drewN n2_.out nd)
             try replace n3_ := Aside0.mk (by first | exact Kd.R_drewN n3_.out nd | exact blk_drewN n3_.out nd | exact pw_below_drewN n3_.out nd)
             try generalize w55.drewN nd = w55 at n0_ n1_ n2_ n3_ ⊢
             have HO_3 := n0_
             have BK173 := n1_
             have BK179 := n2_
             have HB := n3_
             clear n0_ n1_ n2_ n3_
             have n0_ := Aside0.mk (Kd.R_drew HO_3.out)
             have n1_ := Aside0.mk (blk_drew BK173.out)
             have n2_ := Aside0.mk (blk_drew BK179.out)
             have n3_ := Aside0.mk (below_drew1 HB.out)
             clear HO_3
             clear BK173
             clear BK179
             clear HB
             have HO_3 := n0_
             have BK173 := n1_
             have BK179 := n2_
             have HB := n3_
             clear n0_ n1_ n2_ n3_
             refine start_ (n := 46) (S := fun w' => w'.cell? ⟨gb179, 0, none⟩ = some (.int .i64 ((rd_T119 l0_0 x32_2).f0)) ∧ w'.cell? ⟨gb179, 1, none⟩ = some (.int .i64 ((rd_T119 l0_0 x32_2).f1)) ∧ w'.cell? ⟨gb179, 2, none⟩ = some (.int .i64 ((rd_T119 l0_0 x32_2).f2)) ∧ w'.cell? ⟨gb179, 3, none⟩ = some (.int .i64 ((rd_T119 l0_0 x32_2).f3)) ∧ w'.cell? ⟨gb179, 4, none⟩ = some (.int .i64 ((rd_T119 l0_0 x32_2).f4)) ∧ w'.cell? ⟨gb179, 5, none⟩ = some (.int .i64 ((rd_T119 l0_0 x32_2).f5)) ∧ w'.cell? ⟨gb179, 6, none⟩ = some (.int .i64 ((rd_T119 l0_0 x32_2).f6))) (ds := []) impl_HouseOk.v0 (by kernel_rfl) rfl rfl ⟨(blk_cell BK179.out 0).trans rfl, (blk_cell BK179.out 1).trans rfl, (blk_cell BK179.out 2).trans rfl, (blk_cell BK179.out 3).trans rfl, (blk_cell BK179.out 4).trans rfl, (blk_cell BK179.out 5).trans rfl, (blk_cell BK179.out 6).trans rfl⟩ (fun hHeld => ?_); refine with_tabW impl_HouseOk.tab7 impl_HouseOk.bits7 (fun HT_ HW_ => ?_)
             generalize w55.drew = w56 at HO_3 BK173 BK179 HB hHeld ⊢
             refine Sk.pq 0 37 impl_HouseOk.v1 HT_.out (h := ?_)
             refine Sk.tk7 1 38 impl_HouseOk.v2 HT_.out HW_.out hHeld (h := ?_)
             refine one_ (i := 2) (N := some 39) impl_HouseOk.v3 rfl rfl (one_of HT_.out (by kernel_rfl)) (by decide) (fun K hK => ?_)
             refine goes_ Try.func87 (by kernel_rfl) rfl #[.int .i64 ((rd_T119 l0_0 x32_2).f0)] (by rfl) rfl rfl (by (try simp only [List.map_toArray, List.map_cons, List.map_nil]); first | done | rfl | (simp only [List.length_drop, List.length_take]; rfl)) ?_
             with_reducible refine (impl_idRight.calls ((rd_T119 l0_0 x32_2).f0) false _ A24.out).mono ?_
             rintro e w' ⟨rfl, ⟨nd, rfl⟩⟩
             refine ⟨_, rfl, ?_⟩
             refine hK.out _ _ ⟨(blk_cell BK179.out 0).trans rfl, (blk_cell BK179.out 1).trans rfl, (blk_cell BK179.out 2).trans rfl, (blk_cell BK179.out 3).trans rfl, (blk_cell BK179.out 4).trans rfl, (blk_cell BK179.out 5).trans rfl, (blk_cell BK179.out 6).trans rfl⟩ (fun hHeld => ?_)
             clear hK K
             refine Sk.nm 39 (h := ?_)
             refine Sk.pq 3 40 impl_HouseOk.v4 HT_.out (h := ?_)
             refine Sk.pq 4 41 impl_HouseOk.v5 HT_.out (h := ?_)
             refine Sk.pu 5 42 impl_HouseOk.v6 HT_.out (h := ?_)
             refine Sk.pu 6 43 impl_HouseOk.v7 HT_.out (h := ?_)
             refine Sk.pu 7 44 impl_HouseOk.v8 HT_.out (h := ?_)
             refine Sk.pu 8 45 impl_HouseOk.v9 HT_.out (h := ?_)
             refine Sk.pu 9 46 impl_HouseOk.v51 HT_.out (h := ?_)
             refine Sk.pu 10 47 impl_HouseOk.v52 HT_.out (h := ?_)
             refine Sk.pu 11 48 impl_HouseOk.v53 HT_.out (h := ?_)
             refine Sk.pu 12 49 impl_HouseOk.v54 HT_.out (h := ?_)
             refine Sk.pu 13 50 impl_HouseOk.v55 HT_.out (h := ?_)
             refine Sk.pu 14 51 impl_HouseOk.v56 HT_.out (h := ?_)
             refine Sk.pu 15 52 impl_HouseOk.v16 HT_.out (h := ?_)
             refine Sk.pu 16 53 impl_HouseOk.v17 HT_.out (h := ?_)
             refine Sk.pu 17 54 impl_HouseOk.v18 HT_.out (h := ?_)
             refine Sk.pu 18 55 impl_HouseOk.v19 HT_.out (h := ?_)
             refine Sk.pq 19 56 impl_HouseOk.v20 HT_.out (h := ?_)
             refine Sk.pq 20 57 impl_HouseOk.v21 HT_.out (h := ?_)
             refine Sk.pu 21 58 impl_HouseOk.v22 HT_.out (h := ?_)
             refine Sk.pu 22 59 impl_HouseOk.v23 HT_.out (h := ?_)
             refine Sk.pu 23 60 impl_HouseOk.v24 HT_.out (h := ?_)
             refine Sk.pu 24 61 impl_HouseOk.v25 HT_.out (h := ?_)
             refine Sk.pu 25 62 impl_HouseOk.v26 HT_.out (h := ?_)
             refine Sk.pu 26 63 impl_HouseOk.v27 HT_.out (h := ?_)
             refine Sk.pu 27 64 impl_HouseOk.v28 HT_.out (h := ?_)
             refine Sk.pu 28 65 impl_HouseOk.v29 HT_.out (h := ?_)
             refine Sk.pq 29 66 impl_HouseOk.v30 HT_.out (h := ?_)
             refine Sk.pq 30 67 impl_HouseOk.v31 HT_.out (h := ?_)
             refine Sk.pu 31 68 impl_HouseOk.v32 HT_.out (h := ?_)
             refine Sk.pu 32 69 impl_HouseOk.v33 HT_.out (h := ?_)
             refine Sk.pu 33 70 impl_HouseOk.v34 HT_.out (h := ?_)
             refine Sk.pu 34 71 impl_HouseOk.v35 HT_.out (h := ?_)
             refine Sk.pu 35 72 impl_HouseOk.v36 HT_.out (h := ?_)
             refine Sk.pu 36 73 impl_HouseOk.v37 HT_.out (h := ?_)
             refine Sk.pu 37 74 impl_HouseOk.v38 HT_.out (h := ?_)
             refine Sk.pu 38 75 impl_HouseOk.v39 HT_.out (h := ?_)
             refine Sk.pq 39 76 impl_HouseOk.v40 HT_.out (h := ?_)
             refine Sk.pq 40 77 impl_HouseOk.v41 HT_.out (h := ?_)
             refine Sk.pu 41 78 impl_HouseOk.v42 HT_.out (h := ?_)
             refine Sk.pu 42 79 impl_HouseOk.v43 HT_.out (h := ?_)
             refine Sk.pu 43 80 impl_HouseOk.v44 HT_.out (h := ?_)
             refine Sk.pu 44 81 impl_HouseOk.v45 HT_.out (h := ?_)
             refine Sk.pq 45 82 impl_HouseOk.v46 HT_.out (h := ?_)
             refine done_ (done_of HT_.out (by kernel_rfl)) ?_
             try go_wp2
             go_meet
             case rel => exact ⟨_, (true), (by first | rfl | (simp; done) | (simp [*]; done)), H', ⟨by have := HJ1.out; have := HK2.out; first | omega | exact Nat.le_refl _⟩, ⟨by (with_reducible repeat (first | apply Kd.R_alloc | apply Kd.R_drewN | apply Kd.R_drew)); exact HO_3.out⟩, ⟨by (with_reducible repeat (first | refine blk_drewN ?_ _ | refine blk_drew ?_ | refine blk_alloc ?_ _)); exact BK173.out⟩, ⟨by (with_reducible repeat (first | refine blk_drewN ?_ _ | refine blk_drew ?_ | refine blk_alloc ?_ _)); exact BK179.out⟩, ⟨by repeat (first | (with_reducible first | exact HB.out | apply below_alloc | apply pw_below_drewN | apply below_drew1 | refine below_set ?_ GE173.out | refine below_set ?_ GE179.out) | exact HB.out)⟩⟩
           case rest =>
            clear HC20
            obtain ⟨kq, x82_19, rfl, HA, HJ19, HO_3, BK173, BK179, HB⟩ := hcut
            cases kq with
            | zero => exact absurd HA.out (by simp [impl_HouseOk.j2])
            | succ kj19 =>
             have H := HA.out
             clear HA
             simp only [impl_HouseOk.j2] at H
             by_cases c57 : x82_19 = true
             ·subst c57
              rw [if_pos rfl] at H
              obtain rfl := Option.some.inj H
              go_wp2
              go_ret
              exact ⟨by first | rfl | (simp [errW_none, errW_some] <;> rfl) | (simp [*, errW_none, errW_some] <;> rfl), by repeat (first | (with_reducible first | exact HB.out | apply below_alloc | apply pw_below_drewN | apply below_drew1 | refine below_set ?_ GE173.out | refine below_set ?_ GE179.out) | exact HB.out)⟩
             ·replace c57 := Bool.eq_false_iff.mpr c57
              subst c57
              rw [if_neg (show ¬ (false = true) by decide)] at H
              have HC58 := Aside0.mk H
              clear H
              have hnb59 := NB179_173.out
              have hnc59 := NB173_179.out
              obtain ⟨hcz60_0, hcz60_1, hcz60_2, hcz60_3, hcz60_4, hcz60_5, hcz60_6⟩ := impl_HouseOk.cl7 BK179.out
              obtain ⟨hfz60_0, hfz60_1, hfz60_2, hfz60_3, hfz60_4, hfz60_5, hfz60_6⟩ := impl_HouseOk.fz7 BK179.out
              go_upto_if 85 with (fail)
              go_cut [6] (fun v6 wc => ∃ (kq : Nat) (x6_57 : Int), v6 = .int .i64 x6_57 ∧ Aside0 (impl_HouseOk.j3 kq x3_2 x6_57 l0_0 (l0_0.length : Int) x32_2 l0_0 l0_1 a0_2 ((rd_T119 l0_0 x32_2).f0) ((rd_T119 l0_0 x32_2).f1) ((rd_T119 l0_0 x32_2).f2) ((rd_T119 l0_0 x32_2).f3) ((rd_T119 l0_0 x32_2).f4) ((rd_T119 l0_0 x32_2).f5) ((rd_T119 l0_0 x32_2).f6) = some r) ∧ Aside0 (kq ≤ kj19) ∧ Aside0 (Kd.R (Kd.int .i64) 3 wc w.heap.size (fun _ => True) v176 x3_2) ∧ Aside0 (wc.heap[gb173]? = some (.cells #[(.slice (some ad178) l0_0.length c0_0), (.slice A0_1 l0_1.length c0_1), .int .i64 a0_2] 75 (0, 0))) ∧ Aside0 (wc.heap[gb179]? = some (.cells #[.int .i64 ((rd_T119 l0_0 x32_2).f0), .int .i64 ((rd_T119 l0_0 x32_2).f1), .int .i64 ((rd_T119 l0_0 x32_2).f2), .int .i64 ((rd_T119 l0_0 x32_2).f3), .int .i64 ((rd_T119 l0_0 x32_2).f4), .int .i64 ((rd_T119 l0_0 x32_2).f5), .int .i64 ((rd_T119 l0_0 x32_2).f6)] 119 (0, 0))) ∧ Aside0 (Below w.heap.size w wc))
              case first =>
               have H := HC58.out
               clear HC58
               by_cases c61 : ((rd_T119 l0_0 x32_2).f5) = 3
               ·rw [if_pos c61] at H
                have c61b0 : (((rd_T119 l0_0 x32_2).f5) == 3) = true := beq_iff_eq.mpr c61
                have c61b1 : (((rd_T119 l0_0 x32_2).f5) != 3) = false := bne_eq_false_iff_eq.mpr c61
                clear c61
                (first | rw [c61b0] | (simp only [i64_w, i32_w]; rw [c61b0]) | skip)
                replace H := Option.bind_eq_some_iff.mp H
                obtain ⟨t188, A620, H⟩ := H
                (try dsimp only at H)
                have A62 := Aside0.mk A620
                clear A620
                have H' := Aside0.mk H
                clear H
                have hnb63 := NB179_173.out
                have hnc63 := NB173_179.out
                obtain ⟨hcz64_0, hcz64_1, hcz64_2, hcz64_3, hcz64_4, hcz64_5, hcz64_6⟩ := impl_HouseOk.cl7 BK179.out
                obtain ⟨hfz64_0, hfz64_1, hfz64_2, hfz64_3, hfz64_4, hfz64_5, hfz64_6⟩ := impl_HouseOk.fz7 BK179.out
                go_wp2_with (first | ((with_reducible refine gate_callee (f := 89) rfl ?_); refine goesL_ (some 87) rfl rfl Try.func89 (by kernel_rfl) rfl #[.agg #[.int .i64 ((rd_T119 l0_0 x32_2).f0), .int .i64 ((rd_T119 l0_0 x32_2).f1), .int .i64 ((rd_T119 l0_0 x32_2).f2), .int .i64 ((rd_T119 l0_0 x32_2).f3), .int .i64 ((rd_T119 l0_0 x32_2).f4), .int .i64 ((rd_T119 l0_0 x32_2).f5), .int .i64 ((rd_T119 l0_0 x32_2).f6)]] rfl (by (try simp only [List.map_toArray, List.map_cons, List.map_nil]); first | done | rfl | (simp only [List.length_drop, List.length_take]; rfl)) ?_; (with_reducible refine (impl_Lot_duty.calls ((rd_T119 l0_0 x32_2).f0) ((rd_T119 l0_0 x32_2).f1) ((rd_T119 l0_0 x32_2).f2) ((rd_T119 l0_0 x32_2).f3) ((rd_T119 l0_0 x32_2).f4) ((rd_T119 l0_0 x32_2).f5) ((rd_T119 l0_0 x32_2).f6) t188 _ A62.out).mono ?_); rintro e w65 ⟨rfl, hb⟩; refine ⟨_, rfl, ?_⟩; have n0_ := Aside0.mk (Kd.R_below (by (with_reducible repeat (first | apply Kd.R_alloc | apply Kd.R_drewN | apply Kd.R_drew)); exact HO_3.out) hb); have n1_ := Aside0.mk (blk_below (g := gb173) (by (with_reducible repeat (first | refine blk_drewN ?_ _ | refine blk_drew ?_ | refine blk_alloc ?_ _)); exact BK173.out) hb); have n2_ := Aside0.mk (blk_below (g := gb179) (by (with_reducible repeat (first | refine blk_drewN ?_ _ | refine blk_drew ?_ | refine blk_alloc ?_ _)); exact BK179.out) hb); have n3_ := Aside0.mk (below_step (by repeat (first | (with_reducible first | exact HB.out | apply below_alloc | apply pw_below_drewN | apply below_drew1 | refine below_set ?_ GE173.out | refine below_set ?_ GE179.out) | exact HB.out)) hb); clear HO_3; clear BK173; clear BK179; clear HB; have HO_3 := n0_; have BK173 := n1_; have BK179 := n2_; have HB := n3_; clear n0_ n1_ n2_ n3_; (try clear hb); (try clear hb2); (try clear hk); (try clear hi)))
                go_meet
                case rel => exact ⟨_, (t188), (by first | rfl | (simp; done) | (simp [*]; done)), H', ⟨by have := HJ1.out; have := HK2.out; have := HJ19.out; first | omega | exact Nat.le_refl _⟩, ⟨by (with_reducible repeat (first | apply Kd.R_alloc | apply Kd.R_drewN | apply Kd.R_drew)); exact HO_3.out⟩, ⟨by (with_reducible repeat (first | refine blk_drewN ?_ _ | refine blk_drew ?_ | refine blk_alloc ?_ _)); exact BK173.out⟩, ⟨by (with_reducible repeat (first | refine blk_drewN ?_ _ | refine blk_drew ?_ | refine blk_alloc ?_ _)); exact BK179.out⟩, ⟨by repeat (first | (with_reducible first | exact HB.out | apply below_alloc | apply pw_below_drewN | apply below_drew1 | refine below_set ?_ GE173.out | refine below_set ?_ GE179.out) | exact HB.out)⟩⟩
               ·rw [if_neg c61] at H
                have c61b0 : (((rd_T119 l0_0 x32_2).f5) == 3) = false := beq_eq_false_iff_ne.mpr c61
                have c61b1 : (((rd_T119 l0_0 x32_2).f5) != 3) = true := bne_iff_ne.mpr c61
                (first | rw [c61b0] | (simp only [i64_w, i32_w]; rw [c61b0]) | skip)
                have H' := Aside0.mk H
                clear H
                go_wp2
                go_meet
                case rel => exact ⟨_, (0), (by first | rfl | (simp; done) | (simp [*]; done)), H', ⟨by have := HJ1.out; have := HK2.out; have := HJ19.out; first | omega | exact Nat.le_refl _⟩, ⟨by (with_reducible repeat (first | apply Kd.R_alloc | apply Kd.R_drewN | apply Kd.R_drew)); exact HO_3.out⟩, ⟨by (with_reducible repeat (first | refine blk_drewN ?_ _ | refine blk_drew ?_ | refine blk_alloc ?_ _)); exact BK173.out⟩, ⟨by (with_reducible repeat (first | refine blk_drewN ?_ _ | refine blk_drew ?_ | refine blk_alloc ?_ _)); exact BK179.out⟩, ⟨by repeat (first | (with_reducible first | exact HB.out | apply below_alloc | apply pw_below_drewN | apply below_drew1 | refine below_set ?_ GE173.out | refine below_set ?_ GE179.out) | exact HB.out)⟩⟩
              case rest =>
               clear HC58
               (try clear c57); (try clear hcz60_0); (try clear hcz60_1); (try clear hcz60_2); (try clear hcz60_3); (try clear hcz60_4); (try clear hcz60_5); (try clear hcz60_6); (try clear hfz60_0); (try clear hfz60_1); (try clear hfz60_2); (try clear hfz60_3); (try clear hfz60_4); (try clear hfz60_5); (try clear hfz60_6)
               obtain ⟨kq, x6_57, rfl, HA, HJ57, HO_3, BK173, BK179, HB⟩ := hcut
               cases kq with
               | zero => exact absurd HA.out (by simp [impl_HouseOk.j3])
               | succ kj57 =>
                have H := HA.out
                clear HA
                simp only [impl_HouseOk.j3] at H
                by_cases c66 : ((rd_T119 l0_0 x32_2).f6) = x6_57
                ·rw [if_pos c66] at H
                 have c66b0 : (((rd_T119 l0_0 x32_2).f6) == x6_57) = true := beq_iff_eq.mpr c66
                 have c66b1 : (((rd_T119 l0_0 x32_2).f6) != x6_57) = false := bne_eq_false_iff_eq.mpr c66
                 clear c66
                 by_cases c67 : 0 ≤ ((rd_T119 l0_0 x32_2).f1)
                 ·rw [if_pos c67] at H
                  have c67b0 : decide (0 ≤ ((rd_T119 l0_0 x32_2).f1)) = true := decide_eq_true c67
                  clear c67
                  by_cases c68 : ((rd_T119 l0_0 x32_2).f1) < (x3_2.length : Int)
                  ·rw [if_pos c68] at H
                   have c68b0 : decide (((rd_T119 l0_0 x32_2).f1) < (x3_2.length : Int)) = true := decide_eq_true c68
                   clear c68
                   obtain ⟨y190, hy190⟩ : ∃ y_ : List Int, y_ = (x3_2.set (((rd_T119 l0_0 x32_2).f1) : Int).toNat (wrap64 ((rd x3_2 ((rd_T119 l0_0 x32_2).f1)) + ((rd_T119 l0_0 x32_2).f6)))) := ⟨_, rfl⟩
                   replace H : (impl_HouseOk.l0 kj57 y190 l0_0 (l0_0.length : Int) (wrap64 (x32_2 + 1)) l0_0 l0_1 a0_2) = some r := by first | (rw [hy190]; with_reducible exact H) | (have H2_ := (Option.bind_some _ _).symm.trans H; rw [hy190]; with_reducible exact H2_) | (have H2_ := (Option.bind_some _ _).symm.trans H; with_reducible exact H2_) | with_reducible exact H | (rw [hy190]; exact H) | exact H
                   have Ny190 := Aside0.mk hy190
                   clear hy190
                   have H' := Aside0.mk H
                   clear H
                   have hnb70 := NB179_173.out
                   have hnc70 := NB173_179.out
                   obtain ⟨hcz71_0, hcz71_1, hcz71_2, hcz71_3, hcz71_4, hcz71_5, hcz71_6⟩ := impl_HouseOk.cl7 BK179.out
                   obtain ⟨hfz71_0, hfz71_1, hfz71_2, hfz71_3, hfz71_4, hfz71_5, hfz71_6⟩ := impl_HouseOk.fz7 BK179.out
                   try go_wp2
                   have n0_ := Aside0.mk (Kd.R_drew HO_3.out)
                   have n1_ := Aside0.mk (blk_drew BK173.out)
                   have n2_ := Aside0.mk (blk_drew BK179.out)
                   have n3_ := Aside0.mk (below_drew1 HB.out)
                   clear HO_3
                   clear BK173
                   clear BK179
                   clear HB
                   have HO_3 := n0_
                   have BK173 := n1_
                   have BK179 := n2_
                   have HB := n3_
                   clear n0_ n1_ n2_ n3_
                   obtain ⟨Ao73, co73, eo73⟩ := Kd.R_slice HO_3.out
                   (first | subst eo73 | (injection eo73 with f1_ f2_ f3_; have f4_ := f1_.symm; have f5_ := f3_.symm; clear f1_ f2_ f3_; subst f4_; subst f5_))
                   have p189 : 0 ≤ (((rd_T119 l0_0 x32_2).f1) : Int) := of_decide_eq_true (by first | (with_reducible assumption) | assumption)
                   have q189 : ((rd_T119 l0_0 x32_2).f1) < (x3_2.length : Int) := of_decide_eq_true (by first | (with_reducible assumption) | assumption)
                   obtain ⟨ad189, e189, hx189_0⟩ := Kd.at_int (Kd.R_reads' HO_3.out).2.2 ((rd_T119 l0_0 x32_2).f1) p189 q189
                   cases e189
                   replace p189 := eq_true p189
                   replace q189 := eq_true q189
                   have p69 : 0 ≤ (((rd_T119 l0_0 x32_2).f1) : Int) := of_decide_eq_true (by first | (with_reducible assumption) | assumption)
                   have q69 : (((rd_T119 l0_0 x32_2).f1) : Int) < ((x3_2.length : Int) : Int) := of_decide_eq_true (by first | (with_reducible assumption) | assumption)
                   obtain ⟨go69, co69, eo69, gb69, gl69, cl69, HG69⟩ := Kd.R_form HO_3.out (by omega)
                   (first | cases eo69 | (injection eo69 with ea_ en_ ec_; (first | subst ea_ | (injection ea_ with ea_; subst ea_)); subst ec_; clear en_))
                   have GB69 := Aside0.mk gb69
                   have GG69 := Aside0.mk HG69
                   clear gb69 gl69 HG69
                   (first | simp only [add_plain] at hx189_0 | skip)
                   obtain ⟨hx69_0, hf69_0⟩ := Kd.R_celln 0 HO_3.out (((rd_T119 l0_0 x32_2).f1) : Int) p69 q69
                   replace p69 := eq_true p69
                   replace q69 := eq_true q69
                   have HP74 := Kd.R_putn HO_3.out (((rd_T119 l0_0 x32_2).f1) : Int) (wrap64 ((rd x3_2 ((rd_T119 l0_0 x32_2).f1)) + ((rd_T119 l0_0 x32_2).f6)))
                   rw [← Ny190.out] at HP74
                   have HQ74 := Aside0.mk HP74
                   clear HP74
                   refine start_ (n := 10) (S := fun w' => w'.cell? ⟨gb179, 0, none⟩ = some (.int .i64 ((rd_T119 l0_0 x32_2).f0)) ∧ w'.cell? ⟨gb179, 1, none⟩ = some (.int .i64 ((rd_T119 l0_0 x32_2).f1)) ∧ w'.cell? ⟨gb179, 2, none⟩ = some (.int .i64 ((rd_T119 l0_0 x32_2).f2)) ∧ w'.cell? ⟨gb179, 3, none⟩ = some (.int .i64 ((rd_T119 l0_0 x32_2).f3)) ∧ w'.cell? ⟨gb179, 4, none⟩ = some (.int .i64 ((rd_T119 l0_0 x32_2).f4)) ∧ w'.cell? ⟨gb179, 5, none⟩ = some (.int .i64 ((rd_T119 l0_0 x32_2).f5)) ∧ w'.cell? ⟨gb179, 6, none⟩ = some (.int .i64 ((rd_T119 l0_0 x32_2).f6)) ∧ w'.cell? ⟨go69, (((rd_T119 l0_0 x32_2).f1)).toNat, none⟩ = some (.int .i64 (rd x3_2 ((rd_T119 l0_0 x32_2).f1)))) (ds := [9]) #[false, false, false, false, false, false, false, false, false, false] (by kernel_rfl) rfl rfl ⟨(blk_cell BK179.out 0).trans rfl, (blk_cell BK179.out 1).trans rfl, (blk_cell BK179.out 2).trans rfl, (blk_cell BK179.out 3).trans rfl, (blk_cell BK179.out 4).trans rfl, (blk_cell BK179.out 5).trans rfl, (blk_cell BK179.out 6).trans rfl, hx189_0⟩ (fun hHeld => ?_); refine with_tabW impl_HouseOk.tab14 impl_HouseOk.bits14 (fun HT_ HW_ => ?_)
                   generalize wc.drew = w72 at HO_3 BK173 BK179 HB GG69 HQ74 hf69_0 hx189_0 hx69_0 hHeld ⊢
                   refine Sk.pq 0 92 #[true, false, false, false, false, false, false, false, false, false] HT_.out (h := ?_)
                   refine Sk.pq 1 93 #[true, true, false, false, false, false, false, false, false, false] HT_.out (h := ?_)
                   refine Sk.pq 5 97 #[true, true, false, false, false, true, false, false, false, false] HT_.out (h := ?_)
                   refine Sk.tk8 2 94 #[true, true, true, false, false, true, false, false, false, false] HT_.out HW_.out hHeld (h := ?_)
                   refine Sk.pq 3 95 #[true, true, true, true, false, true, false, false, false, false] HT_.out (h := ?_)
                   refine Sk.tk8 4 96 #[true, true, true, true, true, true, false, false, false, false] HT_.out HW_.out hHeld (h := ?_)
                   refine Sk.tk8 6 98 #[true, true, true, true, true, true, true, false, false, false] HT_.out HW_.out hHeld (h := ?_)
                   refine Sk.pq 7 99 #[true, true, true, true, true, true, true, true, false, false] HT_.out (h := ?_)
                   refine Sk.pq 8 100 #[true, true, true, true, true, true, true, true, true, false] HT_.out (h := ?_)
                   refine last_ (i := 9) (N := none) #[true, true, true, true, true, true, true, true, true, true] rfl rfl (one_of HT_.out (by kernel_rfl)) (by decide) (fun K hK => ?_)
                   refine skip_ (w1 := ?_) (by rfl) rfl ?_ ?_
                   rotate_left
                   ·go_simp
                    rfl
                   refine hK.out _ _ ?_
                   clear hK K
                   refine done_ (done_of HT_.out (by kernel_rfl)) ?_
                   try go_wp2
                   go_roundg kj57
                   case measure => have := HJ1.out; have := HK2.out; have := HJ19.out; have := HJ57.out; omega
                   case rel => exact ⟨(y190), (wrap64 (x32_2 + 1)), (by first | rfl | (simp; done) | (simp [*]; done)), H', ⟨by have := HJ1.out; have := HK2.out; have := HJ19.out; have := HJ57.out; omega⟩, ⟨by (with_reducible repeat (first | apply Kd.R_alloc | apply Kd.R_drewN | apply Kd.R_drew)); exact HQ74.out⟩, ⟨by (with_reducible repeat (first | refine blk_drewN ?_ _ | refine blk_drew ?_ | refine blk_alloc ?_ _)); refine blk_far ?_ (by have h_ := Kd.R_ne HO_3.out BK173.out (by decide); intro e_; exact h_ (by rw [e_]; rfl)) _; (with_reducible repeat (first | refine blk_drewN ?_ _ | refine blk_drew ?_ | refine blk_alloc ?_ _)); exact BK173.out⟩, ⟨by repeat (first | (with_reducible first | exact HB.out | apply below_alloc | apply pw_below_drewN | apply below_drew1 | refine below_set ?_ GB69.out | refine below_set ?_ GE173.out | refine below_set ?_ GE179.out) | exact HB.out)⟩⟩
                  ·rw [if_neg c68] at H
                   exact absurd H (by simp)
                 ·rw [if_neg c67] at H
                  exact absurd H (by simp)
                ·rw [if_neg c66] at H
                 have c66b0 : (((rd_T119 l0_0 x32_2).f6) == x6_57) = false := beq_eq_false_iff_ne.mpr c66
                 have c66b1 : (((rd_T119 l0_0 x32_2).f6) != x6_57) = true := bne_iff_ne.mpr c66
                 obtain rfl := Option.some.inj H
                 have hnb75 := NB179_173.out
                 have hnc75 := NB173_179.out
                 obtain ⟨hcz76_0, hcz76_1, hcz76_2, hcz76_3, hcz76_4, hcz76_5, hcz76_6⟩ := impl_HouseOk.cl7 BK179.out
                 obtain ⟨hfz76_0, hfz76_1, hfz76_2, hfz76_3, hfz76_4, hfz76_5, hfz76_6⟩ := impl_HouseOk.fz7 BK179.out
                 go_wp2
                 go_ret
                 exact ⟨by first | rfl | (simp [errW_none, errW_some] <;> rfl) | (simp [*, errW_none, errW_some] <;> rfl), by repeat (first | (with_reducible first | exact HB.out | apply below_alloc | apply pw_below_drewN | apply below_drew1 | refine below_set ?_ GE173.out | refine below_set ?_ GE179.out) | exact HB.out)⟩
          ·rw [if_neg c19] at H
           exact absurd H (by simp)
         ·rw [if_neg c18] at H
          exact absurd H (by simp)
        ·rw [if_neg c17] at H
         have c17b0 : decide (x32_2 < (l0_0.length : Int)) = false := decide_eq_false c17
         clear c17
         have H' := Aside0.mk H
         clear H
         obtain ⟨hcz77_0, hcz77_1, hcz77_2⟩ := impl_HouseOk.cl3 BK173.out
         obtain ⟨hfz77_0, hfz77_1, hfz77_2⟩ := impl_HouseOk.fz3 BK173.out
         go_wp2
         go_loopg [105] k2 (fun kq v105 w' => ∃ (x105_3 : Int), v105 = .int .i64 x105_3 ∧ Aside0 (impl_HouseOk.l1 kq x3_2 l0_1 (l0_1.length : Int) x105_3 = some r) ∧ Aside0 (kq ≤ k2) ∧ Aside0 (Kd.R (Kd.int .i64) 3 w' w.heap.size (fun _ => True) v176 x3_2) ∧ Aside0 (w'.heap[gb173]? = some (.cells #[(.slice A0_0 l0_0.length c0_0), (.slice A0_1 l0_1.length c0_1), .int .i64 a0_2] 75 (0, 0))) ∧ Aside0 (Below w.heap.size w w'))
         case atStart => exact ⟨(0), (by first | rfl | (simp; done) | (simp [*]; done)), H', ⟨Nat.le_refl _⟩, ⟨by (with_reducible repeat (first | apply Kd.R_alloc | apply Kd.R_drewN | apply Kd.R_drew)); exact HO_3.out⟩, ⟨by (with_reducible repeat (first | refine blk_drewN ?_ _ | refine blk_drew ?_ | refine blk_alloc ?_ _)); exact BK173.out⟩, ⟨by repeat (first | (with_reducible first | exact HB.out | apply below_alloc | apply pw_below_drewN | apply below_drew1 | refine below_set ?_ GE173.out) | exact HB.out)⟩⟩
         case round =>
          clear H'
          (try clear c17); (try clear c17b0); (try clear hcz77_0); (try clear hcz77_1); (try clear hcz77_2); (try clear hfz77_0); (try clear hfz77_1); (try clear hfz77_2)
          obtain ⟨x105_3, rfl, HA, HK3, HO_3, BK173, HB⟩ := hrel
          cases gk with
          | zero => exact absurd HA.out (by simp [impl_HouseOk.l1])
          | succ k3 =>
           have H := HA.out
           clear HA
           simp only [impl_HouseOk.l1] at H
           by_cases c78 : x105_3 < (l0_1.length : Int)
           ·rw [if_pos c78] at H
            have c78b0 : decide (x105_3 < (l0_1.length : Int)) = true := decide_eq_true c78
            clear c78
            by_cases c79 : 0 ≤ x105_3
            ·rw [if_pos c79] at H
             have c79b0 : decide (0 ≤ x105_3) = true := decide_eq_true c79
             clear c79
             by_cases c80 : x105_3 < (l0_1.length : Int)
             ·rw [if_pos c80] at H
              have c80b0 : decide (x105_3 < (l0_1.length : Int)) = true := decide_eq_true c80
              clear c80
              have HC81 := Aside0.mk H
              clear H
              have p191 : 0 ≤ (x105_3 : Int) := of_decide_eq_true (by first | (with_reducible assumption) | assumption)
              have q191 : x105_3 < (l0_1.length : Int) := of_decide_eq_true (by first | (with_reducible assumption) | assumption)
              obtain ⟨ad191, e191, hx191_0, hx191_1, hx191_2⟩ := at_T122 HR0_1.out x105_3 p191 q191
              cases e191
              replace hx191_0 := (HB.out.cell (World.block_lt_of_cell? w _ hx191_0)).trans hx191_0
              replace hx191_1 := (HB.out.cell (World.block_lt_of_cell? w _ hx191_1)).trans hx191_1
              replace hx191_2 := (HB.out.cell (World.block_lt_of_cell? w _ hx191_2)).trans hx191_2
              replace p191 := eq_true p191
              replace q191 := eq_true q191
              go_upto_region 19 with (first | ((with_reducible refine gate_dst (N := 8) rfl ?_); (try (refine gate_guard (by rfl) ?_; dsimp only)); refine box_event ?hg (N := 8) ?hd (cs := #[.int .i64 0, .int .i64 0, .int .i64 0]) (t := 122) ?hr ?_; (case hd => rfl); (case hg => rfl); (case hr => first | (go_simp; done) | (go_simp; rfl)); intro gb192 hg w82 hbox hb; have n0_ := Aside0.mk (Kd.R_below (by (with_reducible repeat (first | apply Kd.R_alloc | apply Kd.R_drewN | apply Kd.R_drew)); exact HO_3.out) hb); have n1_ := Aside0.mk (blk_below (g := gb173) (by (with_reducible repeat (first | refine blk_drewN ?_ _ | refine blk_drew ?_ | refine blk_alloc ?_ _)); exact BK173.out) hb); have n2_ := Aside0.mk (below_step (by repeat (first | (with_reducible first | exact HB.out | apply below_alloc | apply pw_below_drewN | apply below_drew1 | refine below_set ?_ GE173.out) | exact HB.out)) hb); have n3_ := Aside0.mk (hbox); have n4_ := Aside0.mk ((by rw [hg]; exact (below_size (by repeat (first | (with_reducible first | exact HB.out | apply below_alloc | apply pw_below_drewN | apply below_drew1 | refine below_set ?_ GE173.out) | exact HB.out))) : w.heap.size ≤ gb192)); have n5_ := Aside0.mk ((by rw [hg]; exact (below_size (by repeat (first | (with_reducible first | exact HB.out | apply below_alloc | apply pw_below_drewN | apply below_drew1 | refine below_set ?_ GE173.out) | exact HB.out))) : w.heap.size ≤ gb192)); have n6_ := Aside0.mk ((by rw [hg]; exact Nat.ne_of_lt (blk_lt (g := gb173) (by (with_reducible repeat (first | refine blk_drewN ?_ _ | refine blk_drew ?_ | refine blk_alloc ?_ _)); exact BK173.out)) : gb173 ≠ gb192)); have n7_ := Aside0.mk ((by rw [hg]; exact Nat.ne_of_gt (blk_lt (g := gb173) (by (with_reducible repeat (first | refine blk_drewN ?_ _ | refine blk_drew ?_ | refine blk_alloc ?_ _)); exact BK173.out)) : gb192 ≠ gb173)); clear HO_3; clear BK173; clear HB; have HO_3 := n0_; have BK173 := n1_; have HB := n2_; have BK192 := n3_; have GW192 := n4_; have GE192 := n5_; have NB173_192 := n6_; have NB192_173 := n7_; clear n0_ n1_ n2_ n3_ n4_ n5_ n6_ n7_; clear hb hbox hg; have hnb83 := NB192_173.out; have hnc83 := NB173_192.out; obtain ⟨hcz84_0, hcz84_1, hcz84_2⟩ := impl_HouseOk.cl3 BK192.out; obtain ⟨hfz84_0, hfz84_1, hfz84_2⟩ := impl_HouseOk.fz3 BK192.out))
              (try simp only [Act.put, List.setIfInBounds_toArray, List.set_cons_zero, List.set_cons_succ])
              go_cut [136] (fun v136 wc => ∃ (kq : Nat) (x136_80 : Bool), v136 = .bool x136_80 ∧ Aside0 (impl_HouseOk.j5 kq x3_2 l0_1 (l0_1.length : Int) x105_3 x136_80 = some r) ∧ Aside0 (kq ≤ k3) ∧ Aside0 (Kd.R (Kd.int .i64) 3 wc w.heap.size (fun _ => True) v176 x3_2) ∧ Aside0 (wc.heap[gb173]? = some (.cells #[(.slice A0_0 l0_0.length c0_0), (.slice (some ad191) l0_1.length c0_1), .int .i64 a0_2] 75 (0, 0))) ∧ Aside0 (wc.heap[gb192]? = some (.cells #[.int .i64 ((rd_T122 l0_1 x105_3).f0), .int .i64 ((rd_T122 l0_1 x105_3).f1), .int .i64 ((rd_T122 l0_1 x105_3).f2)] 122 (0, 0))) ∧ Aside0 (Below w.heap.size w wc))
              case first =>
               have H := HC81.out
               clear HC81
               replace H := Option.bind_eq_some_iff.mp H
               obtain ⟨t193, A850, H⟩ := H
               (try dsimp only at H)
               have A85 := Aside0.mk A850
               clear A850
               by_cases c86 : t193 = true
               ·subst c86
                rw [if_pos rfl] at H
                replace H := Option.bind_eq_some_iff.mp H
                obtain ⟨t194, A870, H⟩ := H
                (try dsimp only at H)
                have A87 := Aside0.mk A870
                clear A870
                by_cases c88 : t194 = true
                ·subst c88
                 rw [if_pos rfl] at H
                 replace H := Option.bind_eq_some_iff.mp H
                 obtain ⟨t195, A890, H⟩ := H
                 (try dsimp only at H)
                 have A89 := Aside0.mk A890
                 clear A890
                 by_cases c90 : t195 = true
                 ·subst c90
                  rw [if_pos rfl] at H
                  by_cases c91 : x105_3 < (x3_2.length : Int)
                  ·rw [if_pos c91] at H
                   have c91b0 : decide (x105_3 < (x3_2.length : Int)) = true := decide_eq_true c91
                   clear c91
                   (first | rw [c91b0] | (simp only [i64_w, i32_w]; rw [c91b0]) | skip)
                   have H' := Aside0.mk H
                   clear H
                   try go_wp2
                   have n0_ : Aside0 (Kd.R (Kd.int .i64) 3 (((w82.setCell ⟨gb192, 0, none⟩ (.int .i64 ((rd_T122 l0_1 x105_3).f0))).setCell ⟨gb192, 1, none⟩ (.int .i64 ((rd_T122 l0_1 x105_3).f1))).setCell ⟨gb192, 2, none⟩ (.int .i64 ((rd_T122 l0_1 x105_3).f2))) w.heap.size (fun _ => True) v176 x3_2) := ⟨by (with_reducible repeat (first | apply Kd.R_alloc | apply Kd.R_drewN | apply Kd.R_drew)); exact Kd.R_mono (Kd.R_far (p := ⟨gb192, 2, none⟩) (Kd.R_far (p := ⟨gb192, 1, none⟩) (Kd.R_far (p := ⟨gb192, 0, none⟩) (Kd.R_types HO_3.out BK192.out (by decide)) (fun _ hk => hk.2) (.int .i64 ((rd_T122 l0_1 x105_3).f0))) (fun _ hk => hk.2) (.int .i64 ((rd_T122 l0_1 x105_3).f1))) (fun _ hk => hk.2) (.int .i64 ((rd_T122 l0_1 x105_3).f2))) (fun _ hk => trivial)⟩
                   have n1_ : Aside0 ((((w82.setCell ⟨gb192, 0, none⟩ (.int .i64 ((rd_T122 l0_1 x105_3).f0))).setCell ⟨gb192, 1, none⟩ (.int .i64 ((rd_T122 l0_1 x105_3).f1))).setCell ⟨gb192, 2, none⟩ (.int .i64 ((rd_T122 l0_1 x105_3).f2))).heap[gb173]? = some (.cells #[.slice A0_0 l0_0.length c0_0, .slice (some ad191) l0_1.length c0_1, .int .i64 a0_2] 75 (0, 0))) := ⟨by (with_reducible repeat (first | refine blk_drewN ?_ _ | refine blk_drew ?_ | refine blk_alloc ?_ _)); refine blk_far ?_ NB173_192.out _; (with_reducible repeat (first | refine blk_drewN ?_ _ | refine blk_drew ?_ | refine blk_alloc ?_ _)); refine blk_far ?_ NB173_192.out _; (with_reducible repeat (first | refine blk_drewN ?_ _ | refine blk_drew ?_ | refine blk_alloc ?_ _)); refine blk_far ?_ NB173_192.out _; (with_reducible repeat (first | refine blk_drewN ?_ _ | refine blk_drew ?_ | refine blk_alloc ?_ _)); exact BK173.out⟩
                   have n2_ : Aside0 ((((w82.setCell ⟨gb192, 0, none⟩ (.int .i64 ((rd_T122 l0_1 x105_3).f0))).setCell ⟨gb192, 1, none⟩ (.int .i64 ((rd_T122 l0_1 x105_3).f1))).setCell ⟨gb192, 2, none⟩ (.int .i64 ((rd_T122 l0_1 x105_3).f2))).heap[gb192]? = some (.cells #[.int .i64 ((rd_T122 l0_1 x105_3).f0), .int .i64 ((rd_T122 l0_1 x105_3).f1), .int .i64 ((rd_T122 l0_1 x105_3).f2)] 122 (0, 0))) := ⟨by (with_reducible repeat (first | refine blk_drewN ?_ _ | refine blk_drew ?_ | refine blk_alloc ?_ _)); refine blk_put (cs := #[.int .i64 ((rd_T122 l0_1 x105_3).f0), .int .i64 ((rd_T122 l0_1 x105_3).f1), .int .i64 0]) ?_ 2 _ rfl; (with_reducible repeat (first | refine blk_drewN ?_ _ | refine blk_drew ?_ | refine blk_alloc ?_ _)); refine blk_put (cs := #[.int .i64 ((rd_T122 l0_1 x105_3).f0), .int .i64 0, .int .i64 0]) ?_ 1 _ rfl; (with_reducible repeat (first | refine blk_drewN ?_ _ | refine blk_drew ?_ | refine blk_alloc ?_ _)); refine blk_put (cs := #[.int .i64 0, .int .i64 0, .int .i64 0]) ?_ 0 _ rfl; (with_reducible repeat (first | refine blk_drewN ?_ _ | refine blk_drew ?_ | refine blk_alloc ?_ _)); exact BK192.out⟩
                   have n3_ : Aside0 (Below w.heap.size w (((w82.setCell ⟨gb192, 0, none⟩ (.int .i64 ((rd_T122 l0_1 x105_3).f0))).setCell ⟨gb192, 1, none⟩ (.int .i64 ((rd_T122 l0_1 x105_3).f1))).setCell ⟨gb192, 2, none⟩ (.int .i64 ((rd_T122 l0_1 x105_3).f2)))) := ⟨by repeat (first | (with_reducible first | exact HB.out | apply below_alloc | apply pw_below_drewN | apply below_drew1 | refine below_set ?_ GE173.out | refine below_set ?_ GE192.out) | exact HB.out)⟩
                   (try clear HO_3)
                   (try clear BK173)
                   (try clear BK192)
                   (try clear HB)
                   generalize (((w82.setCell ⟨gb192, 0, none⟩ (.int .i64 ((rd_T122 l0_1 x105_3).f0))).setCell ⟨gb192, 1, none⟩ (.int .i64 ((rd_T122 l0_1 x105_3).f1))).setCell ⟨gb192, 2, none⟩ (.int .i64 ((rd_T122 l0_1 x105_3).f2))) = w92 at n0_ n1_ n2_ n3_ ⊢
                   try replace n0_ := Aside0.mk (by first | exact Kd.R_drewN n0_.out nd | exact blk_drewN n0_.out nd | exact pw_below_drewN n0_.out nd)
                   try replace n1_ := Aside0.mk (by first | exact Kd.R_drewN n1_.out nd | exact blk_drewN n1_.out nd | exact pw_below_drewN n1_.out nd)
                   try replace n2_ := Aside0.mk (by first | exact Kd.R_drewN n2_.out nd | exact blk_drewN n2_.out nd | exact pw_below_drewN n2_.out nd)
                   try replace n3_ := Aside0.mk (by first | exact Kd.R_drewN n3_.out nd | exact blk_drewN n3_.out nd | exact pw_below_drewN n3_.out nd)
                   try generalize w92.drewN nd = w92 at n0_ n1_ n2_ n3_ ⊢
                   have HO_3 := n0_
                   have BK173 := n1_
                   have BK192 := n2_
                   have HB := n3_
                   clear n0_ n1_ n2_ n3_
                   have n0_ := Aside0.mk (Kd.R_drew HO_3.out)
                   have n1_ := Aside0.mk (blk_drew BK173.out)
                   have n2_ := Aside0.mk (blk_drew BK192.out)
                   have n3_ := Aside0.mk (below_drew1 HB.out)
                   clear HO_3
                   clear BK173
                   clear BK192
                   clear HB
                   have HO_3 := n0_
                   have BK173 := n1_
                   have BK192 := n2_
                   have HB := n3_
                   clear n0_ n1_ n2_ n3_
                   obtain ⟨Az196, cz196, ez196⟩ := Kd.R_slice HO_3.out
                   (first | subst ez196 | (injection ez196 with f1_ f2_ f3_; have f4_ := f1_.symm; have f5_ := f3_.symm; clear f1_ f2_ f3_; subst f4_; subst f5_))
                   have p196 : 0 ≤ (x105_3 : Int) := of_decide_eq_true (by first | (with_reducible assumption) | assumption)
                   have q196 : x105_3 < (x3_2.length : Int) := of_decide_eq_true (by first | (with_reducible assumption) | assumption)
                   obtain ⟨ad196, e196, hx196_0⟩ := Kd.at_int (Kd.R_reads' HO_3.out).2.2 x105_3 p196 q196
                   cases e196
                   replace p196 := eq_true p196
                   replace q196 := eq_true q196
                   refine start_ (n := 27) (S := fun w' => w'.cell? ⟨gb192, 0, none⟩ = some (.int .i64 ((rd_T122 l0_1 x105_3).f0)) ∧ w'.cell? ⟨gb192, 1, none⟩ = some (.int .i64 ((rd_T122 l0_1 x105_3).f1)) ∧ w'.cell? ⟨gb192, 2, none⟩ = some (.int .i64 ((rd_T122 l0_1 x105_3).f2)) ∧ w'.cell? (ad196.add (x105_3).toNat) = some (.int .i64 (rd x3_2 x105_3))) (ds := []) impl_HouseOk.v57 (by kernel_rfl) rfl rfl ⟨(blk_cell BK192.out 0).trans rfl, (blk_cell BK192.out 1).trans rfl, (blk_cell BK192.out 2).trans rfl, hx196_0⟩ (fun hHeld => ?_); refine with_tabW impl_HouseOk.tab19 impl_HouseOk.bits19 (fun HT_ HW_ => ?_)
                   generalize w92.drew = w93 at HO_3 BK173 BK192 HB hx196_0 hHeld ⊢
                   refine Sk.pq 0 110 impl_HouseOk.v58 HT_.out (h := ?_)
                   refine Sk.tk4 1 111 impl_HouseOk.v59 HT_.out HW_.out hHeld (h := ?_)
                   refine one_ (i := 2) (N := some 112) impl_HouseOk.v60 rfl rfl (one_of HT_.out (by kernel_rfl)) (by decide) (fun K hK => ?_)
                   refine goes_ Try.func54 (by kernel_rfl) rfl #[.int .i64 ((rd_T122 l0_1 x105_3).f0), .int .i64 0, .int .i64 1000000000000000] (by rfl) rfl rfl (by (try simp only [List.map_toArray, List.map_cons, List.map_nil]); first | done | rfl | (simp only [List.length_drop, List.length_take]; rfl)) ?_
                   with_reducible refine (impl_in.calls ((rd_T122 l0_1 x105_3).f0) 0 1000000000000000 true _ A85.out).mono ?_
                   rintro e w' ⟨rfl, ⟨nd, rfl⟩⟩
                   refine ⟨_, rfl, ?_⟩
                   refine hK.out _ _ ⟨(blk_cell BK192.out 0).trans rfl, (blk_cell BK192.out 1).trans rfl, (blk_cell BK192.out 2).trans rfl, hHeld.2.2.2⟩ (fun hHeld => ?_)
                   clear hK K
                   refine Sk.nm 112 (h := ?_)
                   refine Sk.pq 3 113 impl_HouseOk.v61 HT_.out (h := ?_)
                   refine Sk.pq 4 114 impl_HouseOk.v62 HT_.out (h := ?_)
                   refine Sk.pq 5 115 impl_HouseOk.v63 HT_.out (h := ?_)
                   refine Sk.tk4 6 116 impl_HouseOk.v64 HT_.out HW_.out hHeld (h := ?_)
                   refine one_ (i := 7) (N := some 117) impl_HouseOk.v65 rfl rfl (one_of HT_.out (by kernel_rfl)) (by decide) (fun K hK => ?_)
                   refine goes_ Try.func54 (by kernel_rfl) rfl #[.int .i64 ((rd_T122 l0_1 x105_3).f1), .int .i64 0, .int .i64 1000000000000000] (by rfl) rfl rfl (by (try simp only [List.map_toArray, List.map_cons, List.map_nil]); first | done | rfl | (simp only [List.length_drop, List.length_take]; rfl)) ?_
                   with_reducible refine (impl_in.calls ((rd_T122 l0_1 x105_3).f1) 0 1000000000000000 true _ A87.out).mono ?_
                   rintro e w' ⟨rfl, ⟨nd, rfl⟩⟩
                   refine ⟨_, rfl, ?_⟩
                   refine hK.out _ _ ⟨(blk_cell BK192.out 0).trans rfl, (blk_cell BK192.out 1).trans rfl, (blk_cell BK192.out 2).trans rfl, hHeld.2.2.2⟩ (fun hHeld => ?_)
                   clear hK K
                   refine Sk.nm 117 (h := ?_)
                   refine Sk.pq 8 118 impl_HouseOk.v66 HT_.out (h := ?_)
                   refine Sk.pq 9 119 impl_HouseOk.v67 HT_.out (h := ?_)
                   refine Sk.pq 10 120 impl_HouseOk.v68 HT_.out (h := ?_)
                   refine Sk.pq 11 121 impl_HouseOk.v69 HT_.out (h := ?_)
                   refine Sk.pq 13 123 impl_HouseOk.v70 HT_.out (h := ?_)
                   refine Sk.tk4 12 122 impl_HouseOk.v71 HT_.out HW_.out hHeld (h := ?_)
                   refine Sk.tk4 14 124 impl_HouseOk.v72 HT_.out HW_.out hHeld (h := ?_)
                   refine one_ (i := 15) (N := some 125) impl_HouseOk.v73 rfl rfl (one_of HT_.out (by kernel_rfl)) (by decide) (fun K hK => ?_)
                   refine goes_ Try.func54 (by kernel_rfl) rfl #[.int .i64 ((rd_T122 l0_1 x105_3).f2), .int .i64 0, .int .i64 ((rd_T122 l0_1 x105_3).f1)] (by rfl) rfl rfl (by (try simp only [List.map_toArray, List.map_cons, List.map_nil]); first | done | rfl | (simp only [List.length_drop, List.length_take]; rfl)) ?_
                   with_reducible refine (impl_in.calls ((rd_T122 l0_1 x105_3).f2) 0 ((rd_T122 l0_1 x105_3).f1) true _ A89.out).mono ?_
                   rintro e w' ⟨rfl, ⟨nd, rfl⟩⟩
                   refine ⟨_, rfl, ?_⟩
                   obtain ⟨Ao94, co94, eo94⟩ := Kd.R_slice HO_3.out
                   (first | subst eo94 | (injection eo94 with f1_ f2_ f3_; have f4_ := f1_.symm; have f5_ := f3_.symm; clear f1_ f2_ f3_; subst f4_; subst f5_))
                   refine hK.out _ _ ⟨(blk_cell BK192.out 0).trans rfl, (blk_cell BK192.out 1).trans rfl, (blk_cell BK192.out 2).trans rfl, hHeld.2.2.2⟩ (fun hHeld => ?_)
                   clear hK K
                   refine Sk.nm 125 (h := ?_)
                   refine Sk.pq 16 126 impl_HouseOk.v74 HT_.out (h := ?_)
                   refine Sk.pq 17 127 impl_HouseOk.v75 HT_.out (h := ?_)
                   refine Sk.pq 18 128 impl_HouseOk.v76 HT_.out (h := ?_)
                   refine Sk.pq 19 129 impl_HouseOk.v77 HT_.out (h := ?_)
                   refine Sk.pq 21 131 impl_HouseOk.v78 HT_.out (h := ?_)
                   refine Sk.pq 22 132 impl_HouseOk.v79 HT_.out (h := ?_)
                   refine Sk.pq 23 133 impl_HouseOk.v80 HT_.out (h := ?_)
                   refine Sk.tk4 20 130 impl_HouseOk.v81 HT_.out HW_.out hHeld (h := ?_)
                   refine Sk.tk4 24 134 impl_HouseOk.v82 HT_.out HW_.out hHeld (h := ?_)
                   refine Sk.pq 25 135 impl_HouseOk.v83 HT_.out (h := ?_)
                   refine Sk.pq 26 136 impl_HouseOk.v84 HT_.out (h := ?_)
                   refine done_ (done_of HT_.out (by kernel_rfl)) ?_
                   try go_wp2
                   go_meet
                   case rel => exact ⟨_, ((((rd_T122 l0_1 x105_3).f2) != (rd x3_2 x105_3))), (by first | rfl | (simp; done) | (simp [*]; done)), H', ⟨by have := HJ1.out; have := HK2.out; have := HK3.out; first | omega | exact Nat.le_refl _⟩, ⟨by (with_reducible repeat (first | apply Kd.R_alloc | apply Kd.R_drewN | apply Kd.R_drew)); exact HO_3.out⟩, ⟨by (with_reducible repeat (first | refine blk_drewN ?_ _ | refine blk_drew ?_ | refine blk_alloc ?_ _)); exact BK173.out⟩, ⟨by (with_reducible repeat (first | refine blk_drewN ?_ _ | refine blk_drew ?_ | refine blk_alloc ?_ _)); exact BK192.out⟩, ⟨by repeat (first | (with_reducible first | exact HB.out | apply below_alloc | apply pw_below_drewN | apply below_drew1 | refine below_set ?_ GE173.out | refine below_set ?_ GE192.out) | exact HB.out)⟩⟩
                  ·rw [if_neg c91] at H
                   exact absurd H (by simp)
                 ·replace c90 := Bool.eq_false_iff.mpr c90
                  subst c90
                  rw [if_neg (show ¬ (false = true) by decide)] at H
                  have H' := Aside0.mk H
                  clear H
                  try go_wp2
                  have n0_ : Aside0 (Kd.R (Kd.int .i64) 3 (((w82.setCell ⟨gb192, 0, none⟩ (.int .i64 ((rd_T122 l0_1 x105_3).f0))).setCell ⟨gb192, 1, none⟩ (.int .i64 ((rd_T122 l0_1 x105_3).f1))).setCell ⟨gb192, 2, none⟩ (.int .i64 ((rd_T122 l0_1 x105_3).f2))) w.heap.size (fun _ => True) v176 x3_2) := ⟨by (with_reducible repeat (first | apply Kd.R_alloc | apply Kd.R_drewN | apply Kd.R_drew)); exact Kd.R_mono (Kd.R_far (p := ⟨gb192, 2, none⟩) (Kd.R_far (p := ⟨gb192, 1, none⟩) (Kd.R_far (p := ⟨gb192, 0, none⟩) (Kd.R_types HO_3.out BK192.out (by decide)) (fun _ hk => hk.2) (.int .i64 ((rd_T122 l0_1 x105_3).f0))) (fun _ hk => hk.2) (.int .i64 ((rd_T122 l0_1 x105_3).f1))) (fun _ hk => hk.2) (.int .i64 ((rd_T122 l0_1 x105_3).f2))) (fun _ hk => trivial)⟩
                  have n1_ : Aside0 ((((w82.setCell ⟨gb192, 0, none⟩ (.int .i64 ((rd_T122 l0_1 x105_3).f0))).setCell ⟨gb192, 1, none⟩ (.int .i64 ((rd_T122 l0_1 x105_3).f1))).setCell ⟨gb192, 2, none⟩ (.int .i64 ((rd_T122 l0_1 x105_3).f2))).heap[gb173]? = some (.cells #[.slice A0_0 l0_0.length c0_0, .slice (some ad191) l0_1.length c0_1, .int .i64 a0_2] 75 (0, 0))) := ⟨by (with_reducible repeat (first | refine blk_drewN ?_ _ | refine blk_drew ?_ | refine blk_alloc ?_ _)); refine blk_far ?_ NB173_192.out _; (with_reducible repeat (first | refine blk_drewN ?_ _ | refine blk_drew ?_ | refine blk_alloc ?_ _)); refine blk_far ?_ NB173_192.out _; (with_reducible repeat (first | refine blk_drewN ?_ _ | refine blk_drew ?_ | refine blk_alloc ?_ _)); refine blk_far ?_ NB173_192.out _; (with_reducible repeat (first | refine blk_drewN ?_ _ | refine blk_drew ?_ | refine blk_alloc ?_ _)); exact BK173.out⟩
                  have n2_ : Aside0 ((((w82.setCell ⟨gb192, 0, none⟩ (.int .i64 ((rd_T122 l0_1 x105_3).f0))).setCell ⟨gb192, 1, none⟩ (.int .i64 ((rd_T122 l0_1 x105_3).f1))).setCell ⟨gb192, 2, none⟩ (.int .i64 ((rd_T122 l0_1 x105_3).f2))).heap[gb192]? = some (.cells #[.int .i64 ((rd_T122 l0_1 x105_3).f0), .int .i64 ((rd_T122 l0_1 x105_3).f1), .int .i64 ((rd_T122 l0_1 x105_3).f2)] 122 (0, 0))) := ⟨by (with_reducible repeat (first | refine blk_drewN ?_ _ | refine blk_drew ?_ | refine blk_alloc ?_ _)); refine blk_put (cs := #[.int .i64 ((rd_T122 l0_1 x105_3).f0), .int .i64 ((rd_T122 l0_1 x105_3).f1), .int .i64 0]) ?_ 2 _ rfl; (with_reducible repeat (first | refine blk_drewN ?_ _ | refine blk_drew ?_ | refine blk_alloc ?_ _)); refine blk_put (cs := #[.int .i64 ((rd_T122 l0_1 x105_3).f0), .int .i64 0, .int .i64 0]) ?_ 1 _ rfl; (with_reducible repeat (first | refine blk_drewN ?_ _ | refine blk_drew ?_ | refine blk_alloc ?_ _)); refine blk_put (cs := #[.int .i64 0, .int .i64 0, .int .i64 0]) ?_ 0 _ rfl; (with_reducible repeat (first | refine blk_drewN ?_ _ | refine blk_drew ?_ | refine blk_alloc ?_ _)); exact BK192.out⟩
                  have n3_ : Aside0 (Below w.heap.size w (((w82.setCell ⟨gb192, 0, none⟩ (.int .i64 ((rd_T122 l0_1 x105_3).f0))).setCell ⟨gb192, 1, none⟩ (.int .i64 ((rd_T122 l0_1 x105_3).f1))).setCell ⟨gb192, 2, none⟩ (.int .i64 ((rd_T122 l0_1 x105_3).f2)))) := ⟨by repeat (first | (with_reducible first | exact HB.out | apply below_alloc | apply pw_below_drewN | apply below_drew1 | refine below_set ?_ GE173.out | refine below_set ?_ GE192.out) | exact HB.out)⟩
                  (try clear HO_3)
                  (try clear BK173)
                  (try clear BK192)
                  (try clear HB)
                  generalize (((w82.setCell ⟨gb192, 0, none⟩ (.int .i64 ((rd_T122 l0_1 x105_3).f0))).setCell ⟨gb192, 1, none⟩ (.int .i64 ((rd_T122 l0_1 x105_3).f1))).setCell ⟨gb192, 2, none⟩ (.int .i64 ((rd_T122 l0_1 x105_3).f2))) = w95 at n0_ n1_ n2_ n3_ ⊢
                  try replace n0_ := Aside0.mk (by first | exact Kd.R_drewN n0_.out nd | exact blk_drewN n0_.out nd | exact pw_below_drewN n0_.out nd)
                  try replace n1_ := Aside0.mk (by first | exact Kd.R_drewN n1_.out nd | exact blk_drewN n1_.out nd | exact pw_below_drewN n1_.out nd)
                  try replace n2_ := Aside0.mk (by first | exact Kd.R_drewN n2_.out nd | exact blk_drewN n2_.out nd | exact pw_below_drewN n2_.out nd)
                  try replace n3_ := Aside0.mk (by first | exact Kd.R_drewN n3_.out nd | exact blk_drewN n3_.out nd | exact pw_below_drewN n3_.out nd)
                  try generalize w95.drewN nd = w95 at n0_ n1_ n2_ n3_ ⊢
                  have HO_3 := n0_
                  have BK173 := n1_
                  have BK192 := n2_
                  have HB := n3_
                  clear n0_ n1_ n2_ n3_
                  have n0_ := Aside0.mk (Kd.R_drew HO_3.out)
                  have n1_ := Aside0.mk (blk_drew BK173.out)
                  have n2_ := Aside0.mk (blk_drew BK192.out)
                  have n3_ := Aside0.mk (below_drew1 HB.out)
                  clear HO_3
                  clear BK173
                  clear BK192
                  clear HB
                  have HO_3 := n0_
                  have BK173 := n1_
                  have BK192 := n2_
                  have HB := n3_
                  clear n0_ n1_ n2_ n3_
                  refine start_ (n := 27) (S := fun w' => w'.cell? ⟨gb192, 0, none⟩ = some (.int .i64 ((rd_T122 l0_1 x105_3).f0)) ∧ w'.cell? ⟨gb192, 1, none⟩ = some (.int .i64 ((rd_T122 l0_1 x105_3).f1)) ∧ w'.cell? ⟨gb192, 2, none⟩ = some (.int .i64 ((rd_T122 l0_1 x105_3).f2))) (ds := []) impl_HouseOk.v57 (by kernel_rfl) rfl rfl ⟨(blk_cell BK192.out 0).trans rfl, (blk_cell BK192.out 1).trans rfl, (blk_cell BK192.out 2).trans rfl⟩ (fun hHeld => ?_); refine with_tabW impl_HouseOk.tab19 impl_HouseOk.bits19 (fun HT_ HW_ => ?_)
                  generalize w95.drew = w96 at HO_3 BK173 BK192 HB hHeld ⊢
                  refine Sk.pq 0 110 impl_HouseOk.v58 HT_.out (h := ?_)
                  refine Sk.tk3 1 111 impl_HouseOk.v59 HT_.out HW_.out hHeld (h := ?_)
                  refine one_ (i := 2) (N := some 112) impl_HouseOk.v60 rfl rfl (one_of HT_.out (by kernel_rfl)) (by decide) (fun K hK => ?_)
                  refine goes_ Try.func54 (by kernel_rfl) rfl #[.int .i64 ((rd_T122 l0_1 x105_3).f0), .int .i64 0, .int .i64 1000000000000000] (by rfl) rfl rfl (by (try simp only [List.map_toArray, List.map_cons, List.map_nil]); first | done | rfl | (simp only [List.length_drop, List.length_take]; rfl)) ?_
                  with_reducible refine (impl_in.calls ((rd_T122 l0_1 x105_3).f0) 0 1000000000000000 true _ A85.out).mono ?_
                  rintro e w' ⟨rfl, ⟨nd, rfl⟩⟩
                  refine ⟨_, rfl, ?_⟩
                  refine hK.out _ _ ⟨(blk_cell BK192.out 0).trans rfl, (blk_cell BK192.out 1).trans rfl, (blk_cell BK192.out 2).trans rfl⟩ (fun hHeld => ?_)
                  clear hK K
                  refine Sk.nm 112 (h := ?_)
                  refine Sk.pq 3 113 impl_HouseOk.v61 HT_.out (h := ?_)
                  refine Sk.pq 4 114 impl_HouseOk.v62 HT_.out (h := ?_)
                  refine Sk.pq 5 115 impl_HouseOk.v63 HT_.out (h := ?_)
                  refine Sk.tk3 6 116 impl_HouseOk.v64 HT_.out HW_.out hHeld (h := ?_)
                  refine one_ (i := 7) (N := some 117) impl_HouseOk.v65 rfl rfl (one_of HT_.out (by kernel_rfl)) (by decide) (fun K hK => ?_)
                  refine goes_ Try.func54 (by kernel_rfl) rfl #[.int .i64 ((rd_T122 l0_1 x105_3).f1), .int .i64 0, .int .i64 1000000000000000] (by rfl) rfl rfl (by (try simp only [List.map_toArray, List.map_cons, List.map_nil]); first | done | rfl | (simp only [List.length_drop, List.length_take]; rfl)) ?_
                  with_reducible refine (impl_in.calls ((rd_T122 l0_1 x105_3).f1) 0 1000000000000000 true _ A87.out).mono ?_
                  rintro e w' ⟨rfl, ⟨nd, rfl⟩⟩
                  refine ⟨_, rfl, ?_⟩
                  refine hK.out _ _ ⟨(blk_cell BK192.out 0).trans rfl, (blk_cell BK192.out 1).trans rfl, (blk_cell BK192.out 2).trans rfl⟩ (fun hHeld => ?_)
                  clear hK K
                  refine Sk.nm 117 (h := ?_)
                  refine Sk.pq 8 118 impl_HouseOk.v66 HT_.out (h := ?_)
                  refine Sk.pq 9 119 impl_HouseOk.v67 HT_.out (h := ?_)
                  refine Sk.pq 10 120 impl_HouseOk.v68 HT_.out (h := ?_)
                  refine Sk.pq 11 121 impl_HouseOk.v69 HT_.out (h := ?_)
                  refine Sk.pq 13 123 impl_HouseOk.v70 HT_.out (h := ?_)
                  refine Sk.tk3 12 122 impl_HouseOk.v71 HT_.out HW_.out hHeld (h := ?_)
                  refine Sk.tk3 14 124 impl_HouseOk.v72 HT_.out HW_.out hHeld (h := ?_)
                  refine one_ (i := 15) (N := some 125) impl_HouseOk.v73 rfl rfl (one_of HT_.out (by kernel_rfl)) (by decide) (fun K hK => ?_)
                  refine goes_ Try.func54 (by kernel_rfl) rfl #[.int .i64 ((rd_T122 l0_1 x105_3).f2), .int .i64 0, .int .i64 ((rd_T122 l0_1 x105_3).f1)] (by rfl) rfl rfl (by (try simp only [List.map_toArray, List.map_cons, List.map_nil]); first | done | rfl | (simp only [List.length_drop, List.length_take]; rfl)) ?_
                  with_reducible refine (impl_in.calls ((rd_T122 l0_1 x105_3).f2) 0 ((rd_T122 l0_1 x105_3).f1) false _ A89.out).mono ?_
                  rintro e w' ⟨rfl, ⟨nd, rfl⟩⟩
                  refine ⟨_, rfl, ?_⟩
                  refine hK.out _ _ ⟨(blk_cell BK192.out 0).trans rfl, (blk_cell BK192.out 1).trans rfl, (blk_cell BK192.out 2).trans rfl⟩ (fun hHeld => ?_)
                  clear hK K
                  refine Sk.nm 125 (h := ?_)
                  refine Sk.pq 16 126 impl_HouseOk.v74 HT_.out (h := ?_)
                  refine Sk.pq 17 127 impl_HouseOk.v75 HT_.out (h := ?_)
                  refine Sk.pq 18 128 impl_HouseOk.v76 HT_.out (h := ?_)
                  refine Sk.pu 19 129 impl_HouseOk.v77 HT_.out (h := ?_)
                  refine Sk.pu 20 130 impl_HouseOk.v85 HT_.out (h := ?_)
                  refine Sk.pu 21 131 impl_HouseOk.v86 HT_.out (h := ?_)
                  refine Sk.pu 22 132 impl_HouseOk.v87 HT_.out (h := ?_)
                  refine Sk.pu 23 133 impl_HouseOk.v81 HT_.out (h := ?_)
                  refine Sk.pu 24 134 impl_HouseOk.v82 HT_.out (h := ?_)
                  refine Sk.pu 25 135 impl_HouseOk.v83 HT_.out (h := ?_)
                  refine Sk.pq 26 136 impl_HouseOk.v84 HT_.out (h := ?_)
                  refine done_ (done_of HT_.out (by kernel_rfl)) ?_
                  try go_wp2
                  go_meet
                  case rel => exact ⟨_, (true), (by first | rfl | (simp; done) | (simp [*]; done)), H', ⟨by have := HJ1.out; have := HK2.out; have := HK3.out; first | omega | exact Nat.le_refl _⟩, ⟨by (with_reducible repeat (first | apply Kd.R_alloc | apply Kd.R_drewN | apply Kd.R_drew)); exact HO_3.out⟩, ⟨by (with_reducible repeat (first | refine blk_drewN ?_ _ | refine blk_drew ?_ | refine blk_alloc ?_ _)); exact BK173.out⟩, ⟨by (with_reducible repeat (first | refine blk_drewN ?_ _ | refine blk_drew ?_ | refine blk_alloc ?_ _)); exact BK192.out⟩, ⟨by repeat (first | (with_reducible first | exact HB.out | apply below_alloc | apply pw_below_drewN | apply below_drew1 | refine below_set ?_ GE173.out | refine below_set ?_ GE192.out) | exact HB.out)⟩⟩
                ·replace c88 := Bool.eq_false_iff.mpr c88
                 subst c88
                 rw [if_neg (show ¬ (false = true) by decide)] at H
                 have H' := Aside0.mk H
                 clear H
                 try go_wp2
                 have n0_ : Aside0 (Kd.R (Kd.int .i64) 3 (((w82.setCell ⟨gb192, 0, none⟩ (.int .i64 ((rd_T122 l0_1 x105_3).f0))).setCell ⟨gb192, 1, none⟩ (.int .i64 ((rd_T122 l0_1 x105_3).f1))).setCell ⟨gb192, 2, none⟩ (.int .i64 ((rd_T122 l0_1 x105_3).f2))) w.heap.size (fun _ => True) v176 x3_2) := ⟨by (with_reducible repeat (first | apply Kd.R_alloc | apply Kd.R_drewN | apply Kd.R_drew)); exact Kd.R_mono (Kd.R_far (p := ⟨gb192, 2, none⟩) (Kd.R_far (p := ⟨gb192, 1, none⟩) (Kd.R_far (p := ⟨gb192, 0, none⟩) (Kd.R_types HO_3.out BK192.out (by decide)) (fun _ hk => hk.2) (.int .i64 ((rd_T122 l0_1 x105_3).f0))) (fun _ hk => hk.2) (.int .i64 ((rd_T122 l0_1 x105_3).f1))) (fun _ hk => hk.2) (.int .i64 ((rd_T122 l0_1 x105_3).f2))) (fun _ hk => trivial)⟩
                 have n1_ : Aside0 ((((w82.setCell ⟨gb192, 0, none⟩ (.int .i64 ((rd_T122 l0_1 x105_3).f0))).setCell ⟨gb192, 1, none⟩ (.int .i64 ((rd_T122 l0_1 x105_3).f1))).setCell ⟨gb192, 2, none⟩ (.int .i64 ((rd_T122 l0_1 x105_3).f2))).heap[gb173]? = some (.cells #[.slice A0_0 l0_0.length c0_0, .slice (some ad191) l0_1.length c0_1, .int .i64 a0_2] 75 (0, 0))) := ⟨by (with_reducible repeat (first | refine blk_drewN ?_ _ | refine blk_drew ?_ | refine blk_alloc ?_ _)); refine blk_far ?_ NB173_192.out _; (with_reducible repeat (first | refine blk_drewN ?_ _ | refine blk_drew ?_ | refine blk_alloc ?_ _)); refine blk_far ?_ NB173_192.out _; (with_reducible repeat (first | refine blk_drewN ?_ _ | refine blk_drew ?_ | refine blk_alloc ?_ _)); refine blk_far ?_ NB173_192.out _; (with_reducible repeat (first | refine blk_drewN ?_ _ | refine blk_drew ?_ | refine blk_alloc ?_ _)); exact BK173.out⟩
                 have n2_ : Aside0 ((((w82.setCell ⟨gb192, 0, none⟩ (.int .i64 ((rd_T122 l0_1 x105_3).f0))).setCell ⟨gb192, 1, none⟩ (.int .i64 ((rd_T122 l0_1 x105_3).f1))).setCell ⟨gb192, 2, none⟩ (.int .i64 ((rd_T122 l0_1 x105_3).f2))).heap[gb192]? = some (.cells #[.int .i64 ((rd_T122 l0_1 x105_3).f0), .int .i64 ((rd_T122 l0_1 x105_3).f1), .int .i64 ((rd_T122 l0_1 x105_3).f2)] 122 (0, 0))) := ⟨by (with_reducible repeat (first | refine blk_drewN ?_ _ | refine blk_drew ?_ | refine blk_alloc ?_ _)); refine blk_put (cs := #[.int .i64 ((rd_T122 l0_1 x105_3).f0), .int .i64 ((rd_T122 l0_1 x105_3).f1), .int .i64 0]) ?_ 2 _ rfl; (with_reducible repeat (first | refine blk_drewN ?_ _ | refine blk_drew ?_ | refine blk_alloc ?_ _)); refine blk_put (cs := #[.int .i64 ((rd_T122 l0_1 x105_3).f0), .int .i64 0, .int .i64 0]) ?_ 1 _ rfl; (with_reducible repeat (first | refine blk_drewN ?_ _ | refine blk_drew ?_ | refine blk_alloc ?_ _)); refine blk_put (cs := #[.int .i64 0, .int .i64 0, .int .i64 0]) ?_ 0 _ rfl; (with_reducible repeat (first | refine blk_drewN ?_ _ | refine blk_drew ?_ | refine blk_alloc ?_ _)); exact BK192.out⟩
                 have n3_ : Aside0 (Below w.heap.size w (((w82.setCell ⟨gb192, 0, none⟩ (.int .i64 ((rd_T122 l0_1 x105_3).f0))).setCell ⟨gb192, 1, none⟩ (.int .i64 ((rd_T122 l0_1 x105_3).f1))).setCell ⟨gb192, 2, none⟩ (.int .i64 ((rd_T122 l0_1 x105_3).f2)))) := ⟨by repeat (first | (with_reducible first | exact HB.out | apply below_alloc | apply pw_below_drewN | apply below_drew1 | refine below_set ?_ GE173.out | refine below_set ?_ GE192.out) | exact HB.out)⟩
                 (try clear HO_3)
                 (try clear BK173)
                 (try clear BK192)
                 (try clear HB)
                 generalize (((w82.setCell ⟨gb192, 0, none⟩ (.int .i64 ((rd_T122 l0_1 x105_3).f0))).setCell ⟨gb192, 1, none⟩ (.int .i64 ((rd_T122 l0_1 x105_3).f1))).setCell ⟨gb192, 2, none⟩ (.int .i64 ((rd_T122 l0_1 x105_3).f2))) = w97 at n0_ n1_ n2_ n3_ ⊢
                 try replace n0_ := Aside0.mk (by first | exact Kd.R_drewN n0_.out nd | exact blk_drewN n0_.out nd | exact pw_below_drewN n0_.out nd)
                 try replace n1_ := Aside0.mk (by first | exact Kd.R_drewN n1_.out nd | exact blk_drewN n1_.out nd | exact pw_below_drewN n1_.out nd)
                 try replace n2_ := Aside0.mk (by first | exact Kd.R_drewN n2_.out nd | exact blk_drewN n2_.out nd | exact pw_below_drewN n2_.out nd)
                 try replace n3_ := Aside0.mk (by first | exact Kd.R_drewN n3_.out nd | exact blk_drewN n3_.out nd | exact pw_below_drewN n3_.out nd)
                 try generalize w97.drewN nd = w97 at n0_ n1_ n2_ n3_ ⊢
                 have HO_3 := n0_
                 have BK173 := n1_
                 have BK192 := n2_
                 have HB := n3_
                 clear n0_ n1_ n2_ n3_
                 have n0_ := Aside0.mk (Kd.R_drew HO_3.out)
                 have n1_ := Aside0.mk (blk_drew BK173.out)
                 have n2_ := Aside0.mk (blk_drew BK192.out)
                 have n3_ := Aside0.mk (below_drew1 HB.out)
                 clear HO_3
                 clear BK173
                 clear BK192
                 clear HB
                 have HO_3 := n0_
                 have BK173 := n1_
                 have BK192 := n2_
                 have HB := n3_
                 clear n0_ n1_ n2_ n3_
                 refine start_ (n := 27) (S := fun w' => w'.cell? ⟨gb192, 0, none⟩ = some (.int .i64 ((rd_T122 l0_1 x105_3).f0)) ∧ w'.cell? ⟨gb192, 1, none⟩ = some (.int .i64 ((rd_T122 l0_1 x105_3).f1)) ∧ w'.cell? ⟨gb192, 2, none⟩ = some (.int .i64 ((rd_T122 l0_1 x105_3).f2))) (ds := []) impl_HouseOk.v57 (by kernel_rfl) rfl rfl ⟨(blk_cell BK192.out 0).trans rfl, (blk_cell BK192.out 1).trans rfl, (blk_cell BK192.out 2).trans rfl⟩ (fun hHeld => ?_); refine with_tabW impl_HouseOk.tab19 impl_HouseOk.bits19 (fun HT_ HW_ => ?_)
                 generalize w97.drew = w98 at HO_3 BK173 BK192 HB hHeld ⊢
                 refine Sk.pq 0 110 impl_HouseOk.v58 HT_.out (h := ?_)
                 refine Sk.tk3 1 111 impl_HouseOk.v59 HT_.out HW_.out hHeld (h := ?_)
                 refine one_ (i := 2) (N := some 112) impl_HouseOk.v60 rfl rfl (one_of HT_.out (by kernel_rfl)) (by decide) (fun K hK => ?_)
                 refine goes_ Try.func54 (by kernel_rfl) rfl #[.int .i64 ((rd_T122 l0_1 x105_3).f0), .int .i64 0, .int .i64 1000000000000000] (by rfl) rfl rfl (by (try simp only [List.map_toArray, List.map_cons, List.map_nil]); first | done | rfl | (simp only [List.length_drop, List.length_take]; rfl)) ?_
                 with_reducible refine (impl_in.calls ((rd_T122 l0_1 x105_3).f0) 0 1000000000000000 true _ A85.out).mono ?_
                 rintro e w' ⟨rfl, ⟨nd, rfl⟩⟩
                 refine ⟨_, rfl, ?_⟩
                 refine hK.out _ _ ⟨(blk_cell BK192.out 0).trans rfl, (blk_cell BK192.out 1).trans rfl, (blk_cell BK192.out 2).trans rfl⟩ (fun hHeld => ?_)
                 clear hK K
                 refine Sk.nm 112 (h := ?_)
                 refine Sk.pq 3 113 impl_HouseOk.v61 HT_.out (h := ?_)
                 refine Sk.pq 4 114 impl_HouseOk.v62 HT_.out (h := ?_)
                 refine Sk.pq 5 115 impl_HouseOk.v63 HT_.out (h := ?_)
                 refine Sk.tk3 6 116 impl_HouseOk.v64 HT_.out HW_.out hHeld (h := ?_)
                 refine one_ (i := 7) (N := some 117) impl_HouseOk.v65 rfl rfl (one_of HT_.out (by kernel_rfl)) (by decide) (fun K hK => ?_)
                 refine goes_ Try.func54 (by kernel_rfl) rfl #[.int .i64 ((rd_T122 l0_1 x105_3).f1), .int .i64 0, .int .i64 1000000000000000] (by rfl) rfl rfl (by (try simp only [List.map_toArray, List.map_cons, List.map_nil]); first | done | rfl | (simp only [List.length_drop, List.length_take]; rfl)) ?_
                 with_reducible refine (impl_in.calls ((rd_T122 l0_1 x105_3).f1) 0 1000000000000000 false _ A87.out).mono ?_
                 rintro e w' ⟨rfl, ⟨nd, rfl⟩⟩
                 refine ⟨_, rfl, ?_⟩
                 refine hK.out _ _ ⟨(blk_cell BK192.out 0).trans rfl, (blk_cell BK192.out 1).trans rfl, (blk_cell BK192.out 2).trans rfl⟩ (fun hHeld => ?_)
                 clear hK K
                 refine Sk.nm 117 (h := ?_)
                 refine Sk.pq 8 118 impl_HouseOk.v66 HT_.out (h := ?_)
                 refine Sk.pq 9 119 impl_HouseOk.v67 HT_.out (h := ?_)
                 refine Sk.pq 10 120 impl_HouseOk.v68 HT_.out (h := ?_)
                 refine Sk.pu 11 121 impl_HouseOk.v69 HT_.out (h := ?_)
                 refine Sk.pu 12 122 impl_HouseOk.v88 HT_.out (h := ?_)
                 refine Sk.pu 13 123 impl_HouseOk.v71 HT_.out (h := ?_)
                 refine Sk.pu 14 124 impl_HouseOk.v72 HT_.out (h := ?_)
                 refine Sk.pu 15 125 impl_HouseOk.v73 HT_.out (h := ?_)
                 refine Sk.pu 16 126 impl_HouseOk.v74 HT_.out (h := ?_)
                 refine Sk.pq 17 127 impl_HouseOk.v75 HT_.out (h := ?_)
                 refine Sk.pq 18 128 impl_HouseOk.v76 HT_.out (h := ?_)
                 refine Sk.pu 19 129 impl_HouseOk.v77 HT_.out (h := ?_)
                 refine Sk.pu 20 130 impl_HouseOk.v85 HT_.out (h := ?_)
                 refine Sk.pu 21 131 impl_HouseOk.v86 HT_.out (h := ?_)
                 refine Sk.pu 22 132 impl_HouseOk.v87 HT_.out (h := ?_)
                 refine Sk.pu 23 133 impl_HouseOk.v81 HT_.out (h := ?_)
                 refine Sk.pu 24 134 impl_HouseOk.v82 HT_.out (h := ?_)
                 refine Sk.pu 25 135 impl_HouseOk.v83 HT_.out (h := ?_)
                 refine Sk.pq 26 136 impl_HouseOk.v84 HT_.out (h := ?_)
                 refine done_ (done_of HT_.out (by kernel_rfl)) ?_
                 try go_wp2
                 go_meet
                 case rel => exact ⟨_, (true), (by first | rfl | (simp; done) | (simp [*]; done)), H', ⟨by have := HJ1.out; have := HK2.out; have := HK3.out; first | omega | exact Nat.le_refl _⟩, ⟨by (with_reducible repeat (first | apply Kd.R_alloc | apply Kd.R_drewN | apply Kd.R_drew)); exact HO_3.out⟩, ⟨by (with_reducible repeat (first | refine blk_drewN ?_ _ | refine blk_drew ?_ | refine blk_alloc ?_ _)); exact BK173.out⟩, ⟨by (with_reducible repeat (first | refine blk_drewN ?_ _ | refine blk_drew ?_ | refine blk_alloc ?_ _)); exact BK192.out⟩, ⟨by repeat (first | (with_reducible first | exact HB.out | apply below_alloc | apply pw_below_drewN | apply below_drew1 | refine below_set ?_ GE173.out | refine below_set ?_ GE192.out) | exact HB.out)⟩⟩
               ·replace c86 := Bool.eq_false_iff.mpr c86
                subst c86
                rw [if_neg (show ¬ (false = true) by decide)] at H
                have H' := Aside0.mk H
                clear H
                try go_wp2
                have n0_ : Aside0 (Kd.R (Kd.int .i64) 3 (((w82.setCell ⟨gb192, 0, none⟩ (.int .i64 ((rd_T122 l0_1 x105_3).f0))).setCell ⟨gb192, 1, none⟩ (.int .i64 ((rd_T122 l0_1 x105_3).f1))).setCell ⟨gb192, 2, none⟩ (.int .i64 ((rd_T122 l0_1 x105_3).f2))) w.heap.size (fun _ => True) v176 x3_2) := ⟨by (with_reducible repeat (first | apply Kd.R_alloc | apply Kd.R_drewN | apply Kd.R_drew)); exact Kd.R_mono (Kd.R_far (p := ⟨gb192, 2, none⟩) (Kd.R_far (p := ⟨gb192, 1, none⟩) (Kd.R_far (p := ⟨gb192, 0, none⟩) (Kd.R_types HO_3.out BK192.out (by decide)) (fun _ hk => hk.2) (.int .i64 ((rd_T122 l0_1 x105_3).f0))) (fun _ hk => hk.2) (.int .i64 ((rd_T122 l0_1 x105_3).f1))) (fun _ hk => hk.2) (.int .i64 ((rd_T122 l0_1 x105_3).f2))) (fun _ hk => trivial)⟩
                have n1_ : Aside0 ((((w82.setCell ⟨gb192, 0, none⟩ (.int .i64 ((rd_T122 l0_1 x105_3).f0))).setCell ⟨gb192, 1, none⟩ (.int .i64 ((rd_T122 l0_1 x105_3).f1))).setCell ⟨gb192, 2, none⟩ (.int .i64 ((rd_T122 l0_1 x105_3).f2))).heap[gb173]? = some (.cells #[.slice A0_0 l0_0.length c0_0, .slice (some ad191) l0_1.length c0_1, .int .i64 a0_2] 75 (0, 0))) := ⟨by (with_reducible repeat (first | refine blk_drewN ?_ _ | refine blk_drew ?_ | refine blk_alloc ?_ _)); refine blk_far ?_ NB173_192.out _; (with_reducible repeat (first | refine blk_drewN ?_ _ | refine blk_drew ?_ | refine blk_alloc ?_ _)); refine blk_far ?_ NB173_192.out _; (with_reducible repeat (first | refine blk_drewN ?_ _ | refine blk_drew ?_ | refine blk_alloc ?_ _)); refine blk_far ?_ NB173_192.out _; (with_reducible repeat (first | refine blk_drewN ?_ _ | refine blk_drew ?_ | refine blk_alloc ?_ _)); exact BK173.out⟩
                have n2_ : Aside0 ((((w82.setCell ⟨gb192, 0, none⟩ (.int .i64 ((rd_T122 l0_1 x105_3).f0))).setCell ⟨gb192, 1, none⟩ (.int .i64 ((rd_T122 l0_1 x105_3).f1))).setCell ⟨gb192, 2, none⟩ (.int .i64 ((rd_T122 l0_1 x105_3).f2))).heap[gb192]? = some (.cells #[.int .i64 ((rd_T122 l0_1 x105_3).f0), .int .i64 ((rd_T122 l0_1 x105_3).f1), .int .i64 ((rd_T122 l0_1 x105_3).f2)] 122 (0, 0))) := ⟨by (with_reducible repeat (first | refine blk_drewN ?_ _ | refine blk_drew ?_ | refine blk_alloc ?_ _)); refine blk_put (cs := #[.int .i64 ((rd_T122 l0_1 x105_3).f0), .int .i64 ((rd_T122 l0_1 x105_3).f1), .int .i64 0]) ?_ 2 _ rfl; (with_reducible repeat (first | refine blk_drewN ?_ _ | refine blk_drew ?_ | refine blk_alloc ?_ _)); refine blk_put (cs := #[.int .i64 ((rd_T122 l0_1 x105_3).f0), .int .i64 0, .int .i64 0]) ?_ 1 _ rfl; (with_reducible repeat (first | refine blk_drewN ?_ _ | refine blk_drew ?_ | refine blk_alloc ?_ _)); refine blk_put (cs := #[.int .i64 0, .int .i64 0, .int .i64 0]) ?_ 0 _ rfl; (with_reducible repeat (first | refine blk_drewN ?_ _ | refine blk_drew ?_ | refine blk_alloc ?_ _)); exact BK192.out⟩
                have n3_ : Aside0 (Below w.heap.size w (((w82.setCell ⟨gb192, 0, none⟩ (.int .i64 ((rd_T122 l0_1 x105_3).f0))).setCell ⟨gb192, 1, none⟩ (.int .i64 ((rd_T122 l0_1 x105_3).f1))).setCell ⟨gb192, 2, none⟩ (.int .i64 ((rd_T122 l0_1 x105_3).f2)))) := ⟨by repeat (first | (with_reducible first | exact HB.out | apply below_alloc | apply pw_below_drewN | apply below_drew1 | refine below_set ?_ GE173.out | refine below_set ?_ GE192.out) | exact HB.out)⟩
                (try clear HO_3)
                (try clear BK173)
                (try clear BK192)
                (try clear HB)
                generalize (((w82.setCell ⟨gb192, 0, none⟩ (.int .i64 ((rd_T122 l0_1 x105_3).f0))).setCell ⟨gb192, 1, none⟩ (.int .i64 ((rd_T122 l0_1 x105_3).f1))).setCell ⟨gb192, 2, none⟩ (.int .i64 ((rd_T122 l0_1 x105_3).f2))) = w99 at n0_ n1_ n2_ n3_ ⊢
                try replace n0_ := Aside0.mk (by first | exact Kd.R_drewN n0_.out nd | exact blk_drewN n0_.out nd | exact pw_below_drewN n0_.out nd)
                try replace n1_ := Aside0.mk (by first | exact Kd.R_drewN n1_.out nd | exact blk_drewN n1_.out nd | exact pw_below_drewN n1_.out nd)
                try replace n2_ := Aside0.mk (by first | exact Kd.R_drewN n2_.out nd | exact blk_drewN n2_.out nd | exact pw_below_drewN n2_.out nd)
                try replace n3_ := Aside0.mk (by first | exact Kd.R_drewN n3_.out nd | exact blk_drewN n3_.out nd | exact pw_below_drewN n3_.out nd)
                try generalize w99.drewN nd = w99 at n0_ n1_ n2_ n3_ ⊢
                have HO_3 := n0_
                have BK173 := n1_
                have BK192 := n2_
                have HB := n3_
                clear n0_ n1_ n2_ n3_
                have n0_ := Aside0.mk (Kd.R_drew HO_3.out)
                have n1_ := Aside0.mk (blk_drew BK173.out)
                have n2_ := Aside0.mk (blk_drew BK192.out)
                have n3_ := Aside0.mk (below_drew1 HB.out)
                clear HO_3
                clear BK173
                clear BK192
                clear HB
                have HO_3 := n0_
                have BK173 := n1_
                have BK192 := n2_
                have HB := n3_
                clear n0_ n1_ n2_ n3_
                refine start_ (n := 27) (S := fun w' => w'.cell? ⟨gb192, 0, none⟩ = some (.int .i64 ((rd_T122 l0_1 x105_3).f0)) ∧ w'.cell? ⟨gb192, 1, none⟩ = some (.int .i64 ((rd_T122 l0_1 x105_3).f1)) ∧ w'.cell? ⟨gb192, 2, none⟩ = some (.int .i64 ((rd_T122 l0_1 x105_3).f2))) (ds := []) impl_HouseOk.v57 (by kernel_rfl) rfl rfl ⟨(blk_cell BK192.out 0).trans rfl, (blk_cell BK192.out 1).trans rfl, (blk_cell BK192.out 2).trans rfl⟩ (fun hHeld => ?_); refine with_tabW impl_HouseOk.tab19 impl_HouseOk.bits19 (fun HT_ HW_ => ?_)
                generalize w99.drew = w100 at HO_3 BK173 BK192 HB hHeld ⊢
                refine Sk.pq 0 110 impl_HouseOk.v58 HT_.out (h := ?_)
                refine Sk.tk3 1 111 impl_HouseOk.v59 HT_.out HW_.out hHeld (h := ?_)
                refine one_ (i := 2) (N := some 112) impl_HouseOk.v60 rfl rfl (one_of HT_.out (by kernel_rfl)) (by decide) (fun K hK => ?_)
                refine goes_ Try.func54 (by kernel_rfl) rfl #[.int .i64 ((rd_T122 l0_1 x105_3).f0), .int .i64 0, .int .i64 1000000000000000] (by rfl) rfl rfl (by (try simp only [List.map_toArray, List.map_cons, List.map_nil]); first | done | rfl | (simp only [List.length_drop, List.length_take]; rfl)) ?_
                with_reducible refine (impl_in.calls ((rd_T122 l0_1 x105_3).f0) 0 1000000000000000 false _ A85.out).mono ?_
                rintro e w' ⟨rfl, ⟨nd, rfl⟩⟩
                refine ⟨_, rfl, ?_⟩
                refine hK.out _ _ ⟨(blk_cell BK192.out 0).trans rfl, (blk_cell BK192.out 1).trans rfl, (blk_cell BK192.out 2).trans rfl⟩ (fun hHeld => ?_)
                clear hK K
                refine Sk.nm 112 (h := ?_)
                refine Sk.pq 3 113 impl_HouseOk.v61 HT_.out (h := ?_)
                refine Sk.pq 4 114 impl_HouseOk.v62 HT_.out (h := ?_)
                refine Sk.pu 5 115 impl_HouseOk.v63 HT_.out (h := ?_)
                refine Sk.pu 6 116 impl_HouseOk.v64 HT_.out (h := ?_)
                refine Sk.pu 7 117 impl_HouseOk.v65 HT_.out (h := ?_)
                refine Sk.pu 8 118 impl_HouseOk.v66 HT_.out (h := ?_)
                refine Sk.pq 9 119 impl_HouseOk.v67 HT_.out (h := ?_)
                refine Sk.pq 10 120 impl_HouseOk.v68 HT_.out (h := ?_)
                refine Sk.pu 11 121 impl_HouseOk.v69 HT_.out (h := ?_)
                refine Sk.pu 12 122 impl_HouseOk.v88 HT_.out (h := ?_)
                refine Sk.pu 13 123 impl_HouseOk.v71 HT_.out (h := ?_)
                refine Sk.pu 14 124 impl_HouseOk.v72 HT_.out (h := ?_)
                refine Sk.pu 15 125 impl_HouseOk.v73 HT_.out (h := ?_)
                refine Sk.pu 16 126 impl_HouseOk.v74 HT_.out (h := ?_)
                refine Sk.pq 17 127 impl_HouseOk.v75 HT_.out (h := ?_)
                refine Sk.pq 18 128 impl_HouseOk.v76 HT_.out (h := ?_)
                refine Sk.pu 19 129 impl_HouseOk.v77 HT_.out (h := ?_)
                refine Sk.pu 20 130 impl_HouseOk.v85 HT_.out (h := ?_)
                refine Sk.pu 21 131 impl_HouseOk.v86 HT_.out (h := ?_)
                refine Sk.pu 22 132 impl_HouseOk.v87 HT_.out (h := ?_)
                refine Sk.pu 23 133 impl_HouseOk.v81 HT_.out (h := ?_)
                refine Sk.pu 24 134 impl_HouseOk.v82 HT_.out (h := ?_)
                refine Sk.pu 25 135 impl_HouseOk.v83 HT_.out (h := ?_)
                refine Sk.pq 26 136 impl_HouseOk.v84 HT_.out (h := ?_)
                refine done_ (done_of HT_.out (by kernel_rfl)) ?_
                try go_wp2
                go_meet
                case rel => exact ⟨_, (true), (by first | rfl | (simp; done) | (simp [*]; done)), H', ⟨by have := HJ1.out; have := HK2.out; have := HK3.out; first | omega | exact Nat.le_refl _⟩, ⟨by (with_reducible repeat (first | apply Kd.R_alloc | apply Kd.R_drewN | apply Kd.R_drew)); exact HO_3.out⟩, ⟨by (with_reducible repeat (first | refine blk_drewN ?_ _ | refine blk_drew ?_ | refine blk_alloc ?_ _)); exact BK173.out⟩, ⟨by (with_reducible repeat (first | refine blk_drewN ?_ _ | refine blk_drew ?_ | refine blk_alloc ?_ _)); exact BK192.out⟩, ⟨by repeat (first | (with_reducible first | exact HB.out | apply below_alloc | apply pw_below_drewN | apply below_drew1 | refine below_set ?_ GE173.out | refine below_set ?_ GE192.out) | exact HB.out)⟩⟩
              case rest =>
               clear HC81
               obtain ⟨kq, x136_80, rfl, HA, HJ80, HO_3, BK173, BK192, HB⟩ := hcut
               cases kq with
               | zero => exact absurd HA.out (by simp [impl_HouseOk.j5])
               | succ kj80 =>
                have H := HA.out
                clear HA
                simp only [impl_HouseOk.j5] at H
                by_cases c101 : x136_80 = true
                ·subst c101
                 rw [if_pos rfl] at H
                 obtain rfl := Option.some.inj H
                 go_wp2
                 go_ret
                 exact ⟨by first | rfl | (simp [errW_none, errW_some] <;> rfl) | (simp [*, errW_none, errW_some] <;> rfl), by repeat (first | (with_reducible first | exact HB.out | apply below_alloc | apply pw_below_drewN | apply below_drew1 | refine below_set ?_ GE173.out | refine below_set ?_ GE192.out) | exact HB.out)⟩
                ·replace c101 := Bool.eq_false_iff.mpr c101
                 subst c101
                 rw [if_neg (show ¬ (false = true) by decide)] at H
                 have H' := Aside0.mk H
                 clear H
                 go_wp2
                 go_roundg kj80
                 case measure => have := HJ1.out; have := HK2.out; have := HK3.out; have := HJ80.out; omega
                 case rel => exact ⟨(wrap64 (x105_3 + 1)), (by first | rfl | (simp; done) | (simp [*]; done)), H', ⟨by have := HJ1.out; have := HK2.out; have := HK3.out; have := HJ80.out; omega⟩, ⟨by (with_reducible repeat (first | apply Kd.R_alloc | apply Kd.R_drewN | apply Kd.R_drew)); exact HO_3.out⟩, ⟨by (with_reducible repeat (first | refine blk_drewN ?_ _ | refine blk_drew ?_ | refine blk_alloc ?_ _)); exact BK173.out⟩, ⟨by repeat (first | (with_reducible first | exact HB.out | apply below_alloc | apply pw_below_drewN | apply below_drew1 | refine below_set ?_ GE173.out | refine below_set ?_ GE192.out) | exact HB.out)⟩⟩
             ·rw [if_neg c80] at H
              exact absurd H (by simp)
            ·rw [if_neg c79] at H
             exact absurd H (by simp)
           ·rw [if_neg c78] at H
            have c78b0 : decide (x105_3 < (l0_1.length : Int)) = false := decide_eq_false c78
            clear c78
            obtain rfl := Option.some.inj H
            go_wp2
            go_ret
            exact ⟨by first | rfl | (simp [errW_none, errW_some] <;> rfl) | (simp [*, errW_none, errW_some] <;> rfl), by repeat (first | (with_reducible first | exact HB.out | apply below_alloc | apply pw_below_drewN | apply below_drew1 | refine below_set ?_ GE173.out) | exact HB.out)⟩
     ·rw [if_neg c12] at H
      exact absurd H (by simp)
    ·rw [if_neg c11] at H
     exact absurd H (by simp)

end Go.Proofs.Ytfeaabdighopbaa.PD
