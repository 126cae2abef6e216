/- What Go's functions that the laws reach come to: laid by a program of this session over the print's words. -/
import Derived.Test.YthbmpegaogfibaaPEx0
import Derived.Test.YthbmpegaogfibaaPEx1
import Derived.Test.YthbmpegaogfibaaPEx2
import Derived.Test.YthbmpegaogfibaaPEx3
namespace Go.Proofs.Ythbmpegaogfibaa.PE
open Go.RowKit Go.Proofs.YthbmpegaogfibaaW.PrintWords Go.Proofs.YthbmpegaogfibaaW.PrintLast Go.Proofs.YthbmpegaogfibaaW.PrintMore
attribute [local go_sem] max2_int min2_int max_two min_two max_three min_three max_four min_four   -- for this text's walks alone
set_option linter.unusedVariables false
set_option linter.unusedSimpArgs false

/-! ### spec_Quickest: function 5 -/
mutual
def spec_Quickest.j0 : Nat → Int → Int → Int → Bool → Int → Int → List Int → List (S52) → Option (Int × Bool)
  | 0, _, _, _, _, _, _, _, _ => none
  | k + 1, x1, x2, x3, x34, x172000, x172001, x172002, x172003 => if x34 = true then (some ((-1), false)) else (if 0 ≤ (x172002.length : Int) then (if ((x172002.length : Int) : Int).toNat ≤ 281474976710656 then ((some (List.replicate ((x172002.length : Int) : Int).toNat false : List Bool)).bind fun y176 => (if 0 ≤ x1 then (if x1 < (x172002.length : Int) then (if (rd x172002 x1) > 0 then ((spec_l7Shut.f k x172000 x172001 x172002 x172003 x1 0).bind fun t180 => (if x1 < (y176.length : Int) then (spec_Quickest.j1 k x2 x3 (y176.set (x1 : Int).toNat (!t180)) x172000 x172001 x172002 x172003) else (none))) else (if x1 < (y176.length : Int) then (spec_Quickest.j1 k x2 x3 (y176.set (x1 : Int).toNat false) x172000 x172001 x172002 x172003) else (none))) else (none)) else (none))) else (none)) else (none))
def spec_Quickest.j1 : Nat → Int → Int → List Bool → Int → Int → List Int → List (S52) → Option (Int × Bool)
  | 0, _, _, _, _, _, _, _ => none
  | k + 1, x2, x3, x10, x172000, x172001, x172002, x172003 => spec_Quickest.l0 k x2 x3 x10 0 x172000 x172001 x172002 x172003
def spec_Quickest.l0 : Nat → Int → Int → List Bool → Int → Int → Int → List Int → List (S52) → Option (Int × Bool)
  | 0, _, _, _, _, _, _, _, _ => none
  | k + 1, x2, x3, x10, x11, x172000, x172001, x172002, x172003 => if x11 ≤ x3 then (if 0 ≤ x2 then (if x2 < (x10.length : Int) then (if rdOf false x10 x2 = true then (some (x11, true)) else (if 0 ≤ (x10.length : Int) then (if ((x10.length : Int) : Int).toNat ≤ 281474976710656 then (spec_Quickest.l1 k x2 x3 x10 x11 (List.replicate ((x10.length : Int) : Int).toNat false) 0 x172000 x172001 x172002 x172003) else (none)) else (none))) else (none)) else (none)) else (some ((-1), false))
def spec_Quickest.l1 : Nat → Int → Int → List Bool → Int → List Bool → Int → Int → Int → List Int → List (S52) → Option (Int × Bool)
  | 0, _, _, _, _, _, _, _, _, _, _ => none
  | k + 1, x2, x3, x10, x11, x12, x13, x172000, x172001, x172002, x172003 => if x13 < (x10.length : Int) then (spec_Quickest.l2 k x2 x3 x10 x11 x12 x13 0 x172000 x172001 x172002 x172003) else (spec_Quickest.l0 k x2 x3 x12 (wrap64 (x11 + 1)) x172000 x172001 x172002 x172003)
def spec_Quickest.l2 : Nat → Int → Int → List Bool → Int → List Bool → Int → Int → Int → Int → List Int → List (S52) → Option (Int × Bool)
  | 0, _, _, _, _, _, _, _, _, _, _, _ => none
  | k + 1, x2, x3, x10, x11, x12, x13, x14, x172000, x172001, x172002, x172003 => if x14 < (x10.length : Int) then (if 0 ≤ x13 then (if x13 < (x10.length : Int) then (spec_Quickest.j5 k x2 x3 x10 x11 x12 x13 x14 (rdOf false x10 x13) x172000 x172001 x172002 x172003) else (none)) else (none)) else (spec_Quickest.j5 k x2 x3 x10 x11 x12 x13 x14 false x172000 x172001 x172002 x172003)
def spec_Quickest.j5 : Nat → Int → Int → List Bool → Int → List Bool → Int → Int → Bool → Int → Int → List Int → List (S52) → Option (Int × Bool)
  | 0, _, _, _, _, _, _, _, _, _, _, _, _ => none
  | k + 1, x2, x3, x10, x11, x12, x13, x14, x82, x172000, x172001, x172002, x172003 => if x82 = true then (if x14 = x13 then (if 0 ≤ x14 then (if x14 < (x172002.length : Int) then (if (rd x172002 x14) > 0 then ((spec_l7Shut.f k x172000 x172001 x172002 x172003 x14 (wrap64 (x11 + 1))).bind fun t189 => (if t189 = true then (spec_Quickest.l2 k x2 x3 x10 x11 x12 x13 (wrap64 (x14 + 1)) x172000 x172001 x172002 x172003) else (if x14 < (x12.length : Int) then (spec_Quickest.l2 k x2 x3 x10 x11 (x12.set (x14 : Int).toNat true) x13 (wrap64 (x14 + 1)) x172000 x172001 x172002 x172003) else (none)))) else (spec_Quickest.l2 k x2 x3 x10 x11 x12 x13 (wrap64 (x14 + 1)) x172000 x172001 x172002 x172003)) else (none)) else (none)) else ((spec_l7Next.f x172000 x172001 x172002 x172003 x13 x14).bind fun t191 => (if t191 = true then (if 0 ≤ x14 then (if x14 < (x172002.length : Int) then (if (rd x172002 x14) > 0 then ((spec_l7Shut.f k x172000 x172001 x172002 x172003 x14 (wrap64 (x11 + 1))).bind fun t193 => (if t193 = true then (spec_Quickest.l2 k x2 x3 x10 x11 x12 x13 (wrap64 (x14 + 1)) x172000 x172001 x172002 x172003) else (if x14 < (x12.length : Int) then (spec_Quickest.l2 k x2 x3 x10 x11 (x12.set (x14 : Int).toNat true) x13 (wrap64 (x14 + 1)) x172000 x172001 x172002 x172003) else (none)))) else (spec_Quickest.l2 k x2 x3 x10 x11 x12 x13 (wrap64 (x14 + 1)) x172000 x172001 x172002 x172003)) else (none)) else (none)) else (spec_Quickest.l2 k x2 x3 x10 x11 x12 x13 (wrap64 (x14 + 1)) x172000 x172001 x172002 x172003)))) else (spec_Quickest.l1 k x2 x3 x10 x11 x12 (wrap64 (x13 + 1)) x172000 x172001 x172002 x172003)
end
def spec_Quickest.f (k : Nat) (a0_0 : Int) (a0_1 : Int) (l0_2 : List Int) (l0_3 : List (S52)) (a1 : Int) (a2 : Int) (a3 : Int) : Option (Int × Bool) := (spec_SeaOk.f k a0_0 a0_1 l0_2 l0_3).bind fun t172 => (if t172 = true then ((spec_l7Place.f a0_0 a0_1 l0_2 l0_3 a1).bind fun t173 => (if t173 = true then ((spec_l7Place.f a0_0 a0_1 l0_2 l0_3 a2).bind fun t174 => (if t174 = true then ((spec_l1In.f a3 0 200).bind fun t175 => (spec_Quickest.j0 k a1 a2 a3 (!t175) a0_0 a0_1 l0_2 l0_3)) else (spec_Quickest.j0 k a1 a2 a3 true a0_0 a0_1 l0_2 l0_3))) else (spec_Quickest.j0 k a1 a2 a3 true a0_0 a0_1 l0_2 l0_3))) else (spec_Quickest.j0 k a1 a2 a3 true a0_0 a0_1 l0_2 l0_3))
theorem spec_Quickest.mono_l : ∀ k, (∀ y0 y1 y2 y3 y4 y5 y6 y7, LeO (spec_Quickest.j0 k y0 y1 y2 y3 y4 y5 y6 y7) (spec_Quickest.j0 (k + 1) y0 y1 y2 y3 y4 y5 y6 y7)) ∧ (∀ y0 y1 y2 y3 y4 y5 y6, LeO (spec_Quickest.j1 k y0 y1 y2 y3 y4 y5 y6) (spec_Quickest.j1 (k + 1) y0 y1 y2 y3 y4 y5 y6)) ∧ (∀ y0 y1 y2 y3 y4 y5 y6 y7, LeO (spec_Quickest.l0 k y0 y1 y2 y3 y4 y5 y6 y7) (spec_Quickest.l0 (k + 1) y0 y1 y2 y3 y4 y5 y6 y7)) ∧ (∀ y0 y1 y2 y3 y4 y5 y6 y7 y8 y9, LeO (spec_Quickest.l1 k y0 y1 y2 y3 y4 y5 y6 y7 y8 y9) (spec_Quickest.l1 (k + 1) y0 y1 y2 y3 y4 y5 y6 y7 y8 y9)) ∧ (∀ y0 y1 y2 y3 y4 y5 y6 y7 y8 y9 y10, LeO (spec_Quickest.l2 k y0 y1 y2 y3 y4 y5 y6 y7 y8 y9 y10) (spec_Quickest.l2 (k + 1) y0 y1 y2 y3 y4 y5 y6 y7 y8 y9 y10)) ∧ (∀ y0 y1 y2 y3 y4 y5 y6 y7 y8 y9 y10 y11, LeO (spec_Quickest.j5 k y0 y1 y2 y3 y4 y5 y6 y7 y8 y9 y10 y11) (spec_Quickest.j5 (k + 1) y0 y1 y2 y3 y4 y5 y6 y7 y8 y9 y10 y11))
  | 0 => ⟨fun _ _ _ _ _ _ _ _ r h => by simp [spec_Quickest.j0] at h, fun _ _ _ _ _ _ _ r h => by simp [spec_Quickest.j1] at h, fun _ _ _ _ _ _ _ _ r h => by simp [spec_Quickest.l0] at h, fun _ _ _ _ _ _ _ _ _ _ r h => by simp [spec_Quickest.l1] at h, fun _ _ _ _ _ _ _ _ _ _ _ r h => by simp [spec_Quickest.l2] at h, fun _ _ _ _ _ _ _ _ _ _ _ _ r h => by simp [spec_Quickest.j5] at h⟩
  | k + 1 => by
    obtain ⟨ih0, ih1, ih2, ih3, ih4, ih5⟩ := spec_Quickest.mono_l k
    refine ⟨?_, ?_, ?_, ?_, ?_, ?_⟩
    · intro y0 y1 y2 y3 y4 y5 y6 y7
      unfold spec_Quickest.j0
      repeat' first
      | (with_reducible exact ih0 _ _ _ _ _ _ _ _)
      | (with_reducible exact ih1 _ _ _ _ _ _ _)
      | (with_reducible exact ih2 _ _ _ _ _ _ _ _)
      | (with_reducible exact ih3 _ _ _ _ _ _ _ _ _ _)
      | (with_reducible exact ih4 _ _ _ _ _ _ _ _ _ _ _)
      | (with_reducible exact ih5 _ _ _ _ _ _ _ _ _ _ _ _)
      | (with_reducible exact spec_SeaOk.mono _ _ _ _ _)
      | (with_reducible exact spec_l7Shut.mono _ _ _ _ _ _ _)
      | (with_reducible exact LeO.refl _)
      | (with_reducible exact LeO.none _)
      | (with_reducible refine LeO.ite ?_ ?_)
      | (with_reducible refine LeO.bind ?_ (fun _ => ?_))
      | exact ih0 _ _ _ _ _ _ _ _
      | exact ih1 _ _ _ _ _ _ _
      | exact ih2 _ _ _ _ _ _ _ _
      | exact ih3 _ _ _ _ _ _ _ _ _ _
      | exact ih4 _ _ _ _ _ _ _ _ _ _ _
      | exact ih5 _ _ _ _ _ _ _ _ _ _ _ _
      | exact spec_SeaOk.mono _ _ _ _ _
      | exact spec_l7Shut.mono _ _ _ _ _ _ _
      | exact LeO.none _
      | refine LeO.ite ?_ ?_
      | refine LeO.bind ?_ (fun _ => ?_)
    · intro y0 y1 y2 y3 y4 y5 y6
      unfold spec_Quickest.j1
      repeat' first
      | (with_reducible exact ih0 _ _ _ _ _ _ _ _)
      | (with_reducible exact ih1 _ _ _ _ _ _ _)
      | (with_reducible exact ih2 _ _ _ _ _ _ _ _)
      | (with_reducible exact ih3 _ _ _ _ _ _ _ _ _ _)
      | (with_reducible exact ih4 _ _ _ _ _ _ _ _ _ _ _)
      | (with_reducible exact ih5 _ _ _ _ _ _ _ _ _ _ _ _)
      | (with_reducible exact spec_SeaOk.mono _ _ _ _ _)
      | (with_reducible exact spec_l7Shut.mono _ _ _ _ _ _ _)
      | (with_reducible exact LeO.refl _)
      | (with_reducible exact LeO.none _)
      | (with_reducible refine LeO.ite ?_ ?_)
      | (with_reducible refine LeO.bind ?_ (fun _ => ?_))
      | exact ih0 _ _ _ _ _ _ _ _
      | exact ih1 _ _ _ _ _ _ _
      | exact ih2 _ _ _ _ _ _ _ _
      | exact ih3 _ _ _ _ _ _ _ _ _ _
      | exact ih4 _ _ _ _ _ _ _ _ _ _ _
      | exact ih5 _ _ _ _ _ _ _ _ _ _ _ _
      | exact spec_SeaOk.mono _ _ _ _ _
      | exact spec_l7Shut.mono _ _ _ _ _ _ _
      | exact LeO.none _
      | refine LeO.ite ?_ ?_
      | refine LeO.bind ?_ (fun _ => ?_)
    · intro y0 y1 y2 y3 y4 y5 y6 y7
      unfold spec_Quickest.l0
      repeat' first
      | (with_reducible exact ih0 _ _ _ _ _ _ _ _)
      | (with_reducible exact ih1 _ _ _ _ _ _ _)
      | (with_reducible exact ih2 _ _ _ _ _ _ _ _)
      | (with_reducible exact ih3 _ _ _ _ _ _ _ _ _ _)
      | (with_reducible exact ih4 _ _ _ _ _ _ _ _ _ _ _)
      | (with_reducible exact ih5 _ _ _ _ _ _ _ _ _ _ _ _)
      | (with_reducible exact spec_SeaOk.mono _ _ _ _ _)
      | (with_reducible exact spec_l7Shut.mono _ _ _ _ _ _ _)
      | (with_reducible exact LeO.refl _)
      | (with_reducible exact LeO.none _)
      | (with_reducible refine LeO.ite ?_ ?_)
      | (with_reducible refine LeO.bind ?_ (fun _ => ?_))
      | exact ih0 _ _ _ _ _ _ _ _
      | exact ih1 _ _ _ _ _ _ _
      | exact ih2 _ _ _ _ _ _ _ _
      | exact ih3 _ _ _ _ _ _ _ _ _ _
      | exact ih4 _ _ _ _ _ _ _ _ _ _ _
      | exact ih5 _ _ _ _ _ _ _ _ _ _ _ _
      | exact spec_SeaOk.mono _ _ _ _ _
      | exact spec_l7Shut.mono _ _ _ _ _ _ _
      | exact LeO.none _
      | refine LeO.ite ?_ ?_
      | refine LeO.bind ?_ (fun _ => ?_)
    · intro y0 y1 y2 y3 y4 y5 y6 y7 y8 y9
      unfold spec_Quickest.l1
      repeat' first
      | (with_reducible exact ih0 _ _ _ _ _ _ _ _)
      | (with_reducible exact ih1 _ _ _ _ _ _ _)
      | (with_reducible exact ih2 _ _ _ _ _ _ _ _)
      | (with_reducible exact ih3 _ _ _ _ _ _ _ _ _ _)
      | (with_reducible exact ih4 _ _ _ _ _ _ _ _ _ _ _)
      | (with_reducible exact ih5 _ _ _ _ _ _ _ _ _ _ _ _)
      | (with_reducible exact spec_SeaOk.mono _ _ _ _ _)
      | (with_reducible exact spec_l7Shut.mono _ _ _ _ _ _ _)
      | (with_reducible exact LeO.refl _)
      | (with_reducible exact LeO.none _)
      | (with_reducible refine LeO.ite ?_ ?_)
      | (with_reducible refine LeO.bind ?_ (fun _ => ?_))
      | exact ih0 _ _ _ _ _ _ _ _
      | exact ih1 _ _ _ _ _ _ _
      | exact ih2 _ _ _ _ _ _ _ _
      | exact ih3 _ _ _ _ _ _ _ _ _ _
      | exact ih4 _ _ _ _ _ _ _ _ _ _ _
      | exact ih5 _ _ _ _ _ _ _ _ _ _ _ _
      | exact spec_SeaOk.mono _ _ _ _ _
      | exact spec_l7Shut.mono _ _ _ _ _ _ _
      | exact LeO.none _
      | refine LeO.ite ?_ ?_
      | refine LeO.bind ?_ (fun _ => ?_)
    · intro y0 y1 y2 y3 y4 y5 y6 y7 y8 y9 y10
      unfold spec_Quickest.l2
      repeat' first
      | (with_reducible exact ih0 _ _ _ _ _ _ _ _)
      | (with_reducible exact ih1 _ _ _ _ _ _ _)
      | (with_reducible exact ih2 _ _ _ _ _ _ _ _)
      | (with_reducible exact ih3 _ _ _ _ _ _ _ _ _ _)
      | (with_reducible exact ih4 _ _ _ _ _ _ _ _ _ _ _)
      | (with_reducible exact ih5 _ _ _ _ _ _ _ _ _ _ _ _)
      | (with_reducible exact spec_SeaOk.mono _ _ _ _ _)
      | (with_reducible exact spec_l7Shut.mono _ _ _ _ _ _ _)
      | (with_reducible exact LeO.refl _)
      | (with_reducible exact LeO.none _)
      | (with_reducible refine LeO.ite ?_ ?_)
      | (with_reducible refine LeO.bind ?_ (fun _ => ?_))
      | exact ih0 _ _ _ _ _ _ _ _
      | exact ih1 _ _ _ _ _ _ _
      | exact ih2 _ _ _ _ _ _ _ _
      | exact ih3 _ _ _ _ _ _ _ _ _ _
      | exact ih4 _ _ _ _ _ _ _ _ _ _ _
      | exact ih5 _ _ _ _ _ _ _ _ _ _ _ _
      | exact spec_SeaOk.mono _ _ _ _ _
      | exact spec_l7Shut.mono _ _ _ _ _ _ _
      | exact LeO.none _
      | refine LeO.ite ?_ ?_
      | refine LeO.bind ?_ (fun _ => ?_)
    · intro y0 y1 y2 y3 y4 y5 y6 y7 y8 y9 y10 y11
      unfold spec_Quickest.j5
      repeat' first
      | (with_reducible exact ih0 _ _ _ _ _ _ _ _)
      | (with_reducible exact ih1 _ _ _ _ _ _ _)
      | (with_reducible exact ih2 _ _ _ _ _ _ _ _)
      | (with_reducible exact ih3 _ _ _ _ _ _ _ _ _ _)
      | (with_reducible exact ih4 _ _ _ _ _ _ _ _ _ _ _)
      | (with_reducible exact ih5 _ _ _ _ _ _ _ _ _ _ _ _)
      | (with_reducible exact spec_SeaOk.mono _ _ _ _ _)
      | (with_reducible exact spec_l7Shut.mono _ _ _ _ _ _ _)
      | (with_reducible exact LeO.refl _)
      | (with_reducible exact LeO.none _)
      | (with_reducible refine LeO.ite ?_ ?_)
      | (with_reducible refine LeO.bind ?_ (fun _ => ?_))
      | exact ih0 _ _ _ _ _ _ _ _
      | exact ih1 _ _ _ _ _ _ _
      | exact ih2 _ _ _ _ _ _ _ _
      | exact ih3 _ _ _ _ _ _ _ _ _ _
      | exact ih4 _ _ _ _ _ _ _ _ _ _ _
      | exact ih5 _ _ _ _ _ _ _ _ _ _ _ _
      | exact spec_SeaOk.mono _ _ _ _ _
      | exact spec_l7Shut.mono _ _ _ _ _ _ _
      | exact LeO.none _
      | refine LeO.ite ?_ ?_
      | refine LeO.bind ?_ (fun _ => ?_)
theorem spec_Quickest.mono : ∀ a0 a1 a2 a3 a4 a5 a6 k, LeO (spec_Quickest.f k a0 a1 a2 a3 a4 a5 a6) (spec_Quickest.f (k + 1) a0 a1 a2 a3 a4 a5 a6) := by
  intro a0 a1 a2 a3 a4 a5 a6 k
  obtain ⟨ih0, ih1, ih2, ih3, ih4, ih5⟩ := spec_Quickest.mono_l k
  unfold spec_Quickest.f
  repeat' first
      | (with_reducible exact ih0 _ _ _ _ _ _ _ _)
      | (with_reducible exact ih1 _ _ _ _ _ _ _)
      | (with_reducible exact ih2 _ _ _ _ _ _ _ _)
      | (with_reducible exact ih3 _ _ _ _ _ _ _ _ _ _)
      | (with_reducible exact ih4 _ _ _ _ _ _ _ _ _ _ _)
      | (with_reducible exact ih5 _ _ _ _ _ _ _ _ _ _ _ _)
      | (with_reducible exact spec_SeaOk.mono _ _ _ _ _)
      | (with_reducible exact spec_l7Shut.mono _ _ _ _ _ _ _)
      | (with_reducible exact LeO.refl _)
      | (with_reducible exact LeO.none _)
      | (with_reducible refine LeO.ite ?_ ?_)
      | (with_reducible refine LeO.bind ?_ (fun _ => ?_))
      | exact ih0 _ _ _ _ _ _ _ _
      | exact ih1 _ _ _ _ _ _ _
      | exact ih2 _ _ _ _ _ _ _ _
      | exact ih3 _ _ _ _ _ _ _ _ _ _
      | exact ih4 _ _ _ _ _ _ _ _ _ _ _
      | exact ih5 _ _ _ _ _ _ _ _ _ _ _ _
      | exact spec_SeaOk.mono _ _ _ _ _
      | exact spec_l7Shut.mono _ _ _ _ _ _ _
      | exact LeO.none _
      | refine LeO.ite ?_ ?_
      | refine LeO.bind ?_ (fun _ => ?_)
set_option maxHeartbeats 8000000 in
set_option maxRecDepth 100000 in
theorem spec_Quickest.calls (k : Nat) (a0_0 : Int) (a0_1 : Int) (A0_2 : Option Addr) (c0_2 : Nat) (l0_2 : List Int) (A0_3 : Option Addr) (c0_3 : Nat) (l0_3 : List (S52)) (a1 : Int) (a2 : Int) (a3 : Int) (r1 : Int) (r2 : Bool) (w : World) (hr0_2 : Kd.C (Kd.int .i64) w A0_2 l0_2.length l0_2) (hc0_2 : l0_2.length ≤ c0_2) (hr0_3 : Kd.C k52 w A0_3 l0_3.length l0_3) (hc0_3 : l0_3.length ≤ c0_3) (h : spec_Quickest.f k a0_0 a0_1 l0_2 l0_3 a1 a2 a3 = some (r1, r2)) :
    Calls Try.prog 5 #[.agg #[.int .i64 a0_0, .int .i64 a0_1, .slice A0_2 l0_2.length c0_2, .slice A0_3 l0_3.length c0_3], .int .i64 a1, .int .i64 a2, .int .i64 a3] w fun e w' => e = .returned (.tuple #[.int .i64 r1, .bool r2]) ∧ Below w.heap.size w w' := by
  have hu31 := Try.underlying31
  have HR0_2 := Aside0.mk hr0_2
  have HC0_2 := Aside0.mk hc0_2
  clear hr0_2 hc0_2
  have HR0_3 := Aside0.mk hr0_3
  have HC0_3 := Aside0.mk hc0_3
  clear hr0_3 hc0_3
  have HB := Aside0.mk (Below.refl w.heap.size w)
  have H : ((spec_SeaOk.f k a0_0 a0_1 l0_2 l0_3).bind fun t172 => (if t172 = true then ((spec_l7Place.f a0_0 a0_1 l0_2 l0_3 a1).bind fun t173 => (if t173 = true then ((spec_l7Place.f a0_0 a0_1 l0_2 l0_3 a2).bind fun t174 => (if t174 = true then ((spec_l1In.f a3 0 200).bind fun t175 => (spec_Quickest.j0 k a1 a2 a3 (!t175) a0_0 a0_1 l0_2 l0_3)) else (spec_Quickest.j0 k a1 a2 a3 true a0_0 a0_1 l0_2 l0_3))) else (spec_Quickest.j0 k a1 a2 a3 true a0_0 a0_1 l0_2 l0_3))) else (spec_Quickest.j0 k a1 a2 a3 true a0_0 a0_1 l0_2 l0_3))) = some (r1, r2) := h
  clear h
  have HC5 := Aside0.mk H
  clear H
  go_enter Try.func5, Try.ntmps5
  go_upto_region 1 with (first | ((with_reducible refine gate_dst (N := 4) rfl ?_); refine box_event ?hg (N := 4) ?hd (cs := #[.int .i64 a0_0, .int .i64 a0_1, .slice A0_2 l0_2.length c0_2, .slice A0_3 l0_3.length c0_3]) (t := 31) ?hr ?_; (case hd => rfl); (case hg => rfl); (case hr => first | (go_simp; done) | (go_simp; rfl)); intro gb171 hg w6 hbox hb; have n0_ := Aside0.mk (below_step (by repeat (first | (with_reducible first | exact HB.out | apply below_alloc | apply pw_below_drewN | apply below_drew1) | exact HB.out)) hb); have n1_ := Aside0.mk (hbox); have n2_ := Aside0.mk ((by rw [hg]; exact (below_size (by repeat (first | (with_reducible first | exact HB.out | apply below_alloc | apply pw_below_drewN | apply below_drew1) | exact HB.out))) : w.heap.size ≤ gb171)); have n3_ := Aside0.mk ((by rw [hg]; exact (below_size (by repeat (first | (with_reducible first | exact HB.out | apply below_alloc | apply pw_below_drewN | apply below_drew1) | exact HB.out))) : w.heap.size ≤ gb171)); clear HB; have HB := n0_; have BK171 := n1_; have GW171 := n2_; have GE171 := n3_; clear n0_ n1_ n2_ n3_; clear hb hbox hg))
  (try simp only [Act.put, List.setIfInBounds_toArray, List.set_cons_zero, List.set_cons_succ])
  go_cut [34] (fun v34 wc => ∃ (kq : Nat) (x34_4 : Bool), v34 = .bool x34_4 ∧ Aside0 (spec_Quickest.j0 kq a1 a2 a3 x34_4 a0_0 a0_1 l0_2 l0_3 = some (r1, r2)) ∧ Aside0 (kq ≤ k) ∧ Aside0 (wc.heap[gb171]? = some (.cells #[.int .i64 a0_0, .int .i64 a0_1, (.slice A0_2 l0_2.length c0_2), (.slice A0_3 l0_3.length c0_3)] 31 (0, 0))) ∧ Aside0 (Below w.heap.size w wc))
  case first =>
    have H := HC5.out
    clear HC5
    replace H := Option.bind_eq_some_iff.mp H
    obtain ⟨t172, A70, H⟩ := H
    replace H : (if t172 = true then ((spec_l7Place.f a0_0 a0_1 l0_2 l0_3 a1).bind fun t173 => (if t173 = true then ((spec_l7Place.f a0_0 a0_1 l0_2 l0_3 a2).bind fun t174 => (if t174 = true then ((spec_l1In.f a3 0 200).bind fun t175 => (spec_Quickest.j0 k a1 a2 a3 (!t175) a0_0 a0_1 l0_2 l0_3)) else (spec_Quickest.j0 k a1 a2 a3 true a0_0 a0_1 l0_2 l0_3))) else (spec_Quickest.j0 k a1 a2 a3 true a0_0 a0_1 l0_2 l0_3))) else (spec_Quickest.j0 k a1 a2 a3 true a0_0 a0_1 l0_2 l0_3)) = some (r1, r2) := H
    have A7 := Aside0.mk A70
    clear A70
    by_cases c8 : t172 = true
    · subst c8
      have H1 : ((spec_l7Place.f a0_0 a0_1 l0_2 l0_3 a1).bind fun t173 => (if t173 = true then ((spec_l7Place.f a0_0 a0_1 l0_2 l0_3 a2).bind fun t174 => (if t174 = true then ((spec_l1In.f a3 0 200).bind fun t175 => (spec_Quickest.j0 k a1 a2 a3 (!t175) a0_0 a0_1 l0_2 l0_3)) else (spec_Quickest.j0 k a1 a2 a3 true a0_0 a0_1 l0_2 l0_3))) else (spec_Quickest.j0 k a1 a2 a3 true a0_0 a0_1 l0_2 l0_3))) = some (r1, r2) := by rw [if_pos rfl] at H; exact H
      clear H
      have H := H1
      clear H1
      replace H := Option.bind_eq_some_iff.mp H
      obtain ⟨t173, A90, H⟩ := H
      replace H : (if t173 = true then ((spec_l7Place.f a0_0 a0_1 l0_2 l0_3 a2).bind fun t174 => (if t174 = true then ((spec_l1In.f a3 0 200).bind fun t175 => (spec_Quickest.j0 k a1 a2 a3 (!t175) a0_0 a0_1 l0_2 l0_3)) else (spec_Quickest.j0 k a1 a2 a3 true a0_0 a0_1 l0_2 l0_3))) else (spec_Quickest.j0 k a1 a2 a3 true a0_0 a0_1 l0_2 l0_3)) = some (r1, r2) := H
      have A9 := Aside0.mk A90
      clear A90
      by_cases c10 : t173 = true
      · subst c10
        have H1 : ((spec_l7Place.f a0_0 a0_1 l0_2 l0_3 a2).bind fun t174 => (if t174 = true then ((spec_l1In.f a3 0 200).bind fun t175 => (spec_Quickest.j0 k a1 a2 a3 (!t175) a0_0 a0_1 l0_2 l0_3)) else (spec_Quickest.j0 k a1 a2 a3 true a0_0 a0_1 l0_2 l0_3))) = some (r1, r2) := by rw [if_pos rfl] at H; exact H
        clear H
        have H := H1
        clear H1
        replace H := Option.bind_eq_some_iff.mp H
        obtain ⟨t174, A110, H⟩ := H
        replace H : (if t174 = true then ((spec_l1In.f a3 0 200).bind fun t175 => (spec_Quickest.j0 k a1 a2 a3 (!t175) a0_0 a0_1 l0_2 l0_3)) else (spec_Quickest.j0 k a1 a2 a3 true a0_0 a0_1 l0_2 l0_3)) = some (r1, r2) := H
        have A11 := Aside0.mk A110
        clear A110
        by_cases c12 : t174 = true
        · subst c12
          have H1 : ((spec_l1In.f a3 0 200).bind fun t175 => (spec_Quickest.j0 k a1 a2 a3 (!t175) a0_0 a0_1 l0_2 l0_3)) = some (r1, r2) := by rw [if_pos rfl] at H; exact H
          clear H
          have H := H1
          clear H1
          replace H := Option.bind_eq_some_iff.mp H
          obtain ⟨t175, A130, H⟩ := H
          replace H : (spec_Quickest.j0 k a1 a2 a3 (!t175) a0_0 a0_1 l0_2 l0_3) = some (r1, r2) := H
          have A13 := Aside0.mk A130
          clear A130
          have H' := Aside0.mk H
          clear H
          have hcz14_0 : w6.cell? ⟨gb171, 0, none⟩ = some (.int .i64 a0_0) := (blk_cell BK171.out 0).trans rfl
          have hcz14_1 : w6.cell? ⟨gb171, 1, none⟩ = some (.int .i64 a0_1) := (blk_cell BK171.out 1).trans rfl
          have hcz14_2 : w6.cell? ⟨gb171, 2, none⟩ = some (.slice A0_2 l0_2.length c0_2) := (blk_cell BK171.out 2).trans rfl
          have hcz14_3 : w6.cell? ⟨gb171, 3, none⟩ = some (.slice A0_3 l0_3.length c0_3) := (blk_cell BK171.out 3).trans rfl
          have hfz14_0 := blk_frozen BK171.out 0
          have hfz14_1 := blk_frozen BK171.out 1
          have hfz14_2 := blk_frozen BK171.out 2
          have hfz14_3 := blk_frozen BK171.out 3
          go_wp2_with (first | ((with_reducible refine gate_callee (f := 11) rfl ?_); refine goesL_ (some 16) rfl rfl Try.func11 (by kernel_rfl) rfl #[.agg #[.int .i64 a0_0, .int .i64 a0_1, .slice A0_2 l0_2.length c0_2, .slice A0_3 l0_3.length c0_3]] rfl (by (try simp only [List.map_toArray, List.map_cons, List.map_nil]); first | done | rfl | (simp only [List.length_drop, List.length_take]; rfl)) ?_; (with_reducible refine (spec_SeaOk.calls k a0_0 a0_1 _ _ l0_2 _ _ l0_3 true _ ?side1 ?side2 ?side3 ?side4 A7.out).mono ?_); (case side1 => repeat (first | exact (Kd.C_below HR0_2.out HB.out) | (with_reducible refine Kd.C_alloc ?_ _) | (with_reducible refine Kd.C_drewN ?_ _) | (with_reducible refine Kd.C_drew ?_))); (case side2 => exact HC0_2.out); (case side3 => repeat (first | exact (Kd.C_below HR0_3.out HB.out) | (with_reducible refine Kd.C_alloc ?_ _) | (with_reducible refine Kd.C_drewN ?_ _) | (with_reducible refine Kd.C_drew ?_))); (case side4 => exact HC0_3.out); rintro e w15 ⟨rfl, hb⟩; refine ⟨_, rfl, ?_⟩; have n0_ := Aside0.mk (blk_below (g := gb171) (o := .cells #[.int .i64 a0_0, .int .i64 a0_1, .slice A0_2 l0_2.length c0_2, .slice A0_3 l0_3.length c0_3] 31 (0, 0)) (by (with_reducible repeat (first | refine blk_drewN ?_ _ | refine blk_drew ?_ | refine blk_alloc ?_ _)); exact BK171.out) hb); have n1_ := Aside0.mk (below_step (by repeat (first | (with_reducible first | exact HB.out | apply below_alloc | apply pw_below_drewN | apply below_drew1 | refine below_set ?_ GE171.out) | exact HB.out)) hb); clear BK171; clear HB; have BK171 := n0_; have HB := n1_; clear n0_ n1_; (try clear hb); (try clear hb2); (try clear hk); (try clear hi); have hcz16_0 : w15.cell? ⟨gb171, 0, none⟩ = some (.int .i64 a0_0) := (blk_cell BK171.out 0).trans rfl; have hcz16_1 : w15.cell? ⟨gb171, 1, none⟩ = some (.int .i64 a0_1) := (blk_cell BK171.out 1).trans rfl; have hcz16_2 : w15.cell? ⟨gb171, 2, none⟩ = some (.slice A0_2 l0_2.length c0_2) := (blk_cell BK171.out 2).trans rfl; have hcz16_3 : w15.cell? ⟨gb171, 3, none⟩ = some (.slice A0_3 l0_3.length c0_3) := (blk_cell BK171.out 3).trans rfl; have hfz16_0 := blk_frozen BK171.out 0; have hfz16_1 := blk_frozen BK171.out 1; have hfz16_2 := blk_frozen BK171.out 2; have hfz16_3 := blk_frozen BK171.out 3) | (go_at_call 12; (with_reducible refine (spec_l7Place.calls a0_0 a0_1 _ _ l0_2 _ _ l0_3 a1 true _ ?side1 ?side2 ?side3 ?side4 A9.out).mono ?_); (case side1 => repeat (first | exact (Kd.C_below HR0_2.out HB.out) | (with_reducible refine Kd.C_alloc ?_ _) | (with_reducible refine Kd.C_drewN ?_ _) | (with_reducible refine Kd.C_drew ?_))); (case side2 => exact HC0_2.out); (case side3 => repeat (first | exact (Kd.C_below HR0_3.out HB.out) | (with_reducible refine Kd.C_alloc ?_ _) | (with_reducible refine Kd.C_drewN ?_ _) | (with_reducible refine Kd.C_drew ?_))); (case side4 => exact HC0_3.out); rintro e w17 ⟨rfl, hb⟩; have n0_ := Aside0.mk (blk_below (g := gb171) (o := .cells #[.int .i64 a0_0, .int .i64 a0_1, .slice A0_2 l0_2.length c0_2, .slice A0_3 l0_3.length c0_3] 31 (0, 0)) (by (with_reducible repeat (first | refine blk_drewN ?_ _ | refine blk_drew ?_ | refine blk_alloc ?_ _)); exact BK171.out) hb); have n1_ := Aside0.mk (below_step (by repeat (first | (with_reducible first | exact HB.out | apply below_alloc | apply pw_below_drewN | apply below_drew1 | refine below_set ?_ GE171.out) | exact HB.out)) hb); clear BK171; clear HB; have BK171 := n0_; have HB := n1_; clear n0_ n1_; (try clear hb); (try clear hb2); (try clear hk); (try clear hi); have hcz18_0 : w17.cell? ⟨gb171, 0, none⟩ = some (.int .i64 a0_0) := (blk_cell BK171.out 0).trans rfl; have hcz18_1 : w17.cell? ⟨gb171, 1, none⟩ = some (.int .i64 a0_1) := (blk_cell BK171.out 1).trans rfl; have hcz18_2 : w17.cell? ⟨gb171, 2, none⟩ = some (.slice A0_2 l0_2.length c0_2) := (blk_cell BK171.out 2).trans rfl; have hcz18_3 : w17.cell? ⟨gb171, 3, none⟩ = some (.slice A0_3 l0_3.length c0_3) := (blk_cell BK171.out 3).trans rfl; have hfz18_0 := blk_frozen BK171.out 0; have hfz18_1 := blk_frozen BK171.out 1; have hfz18_2 := blk_frozen BK171.out 2; have hfz18_3 := blk_frozen BK171.out 3) | (go_at_call 12; (with_reducible refine (spec_l7Place.calls a0_0 a0_1 _ _ l0_2 _ _ l0_3 a2 true _ ?side1 ?side2 ?side3 ?side4 A11.out).mono ?_); (case side1 => repeat (first | exact (Kd.C_below HR0_2.out HB.out) | (with_reducible refine Kd.C_alloc ?_ _) | (with_reducible refine Kd.C_drewN ?_ _) | (with_reducible refine Kd.C_drew ?_))); (case side2 => exact HC0_2.out); (case side3 => repeat (first | exact (Kd.C_below HR0_3.out HB.out) | (with_reducible refine Kd.C_alloc ?_ _) | (with_reducible refine Kd.C_drewN ?_ _) | (with_reducible refine Kd.C_drew ?_))); (case side4 => exact HC0_3.out); rintro e w19 ⟨rfl, hb⟩; have n0_ := Aside0.mk (blk_below (g := gb171) (o := .cells #[.int .i64 a0_0, .int .i64 a0_1, .slice A0_2 l0_2.length c0_2, .slice A0_3 l0_3.length c0_3] 31 (0, 0)) (by (with_reducible repeat (first | refine blk_drewN ?_ _ | refine blk_drew ?_ | refine blk_alloc ?_ _)); exact BK171.out) hb); have n1_ := Aside0.mk (below_step (by repeat (first | (with_reducible first | exact HB.out | apply below_alloc | apply pw_below_drewN | apply below_drew1 | refine below_set ?_ GE171.out) | exact HB.out)) hb); clear BK171; clear HB; have BK171 := n0_; have HB := n1_; clear n0_ n1_; (try clear hb); (try clear hb2); (try clear hk); (try clear hi)) | (go_at_call 13; (with_reducible refine (spec_l1In.calls a3 0 200 t175 _ A13.out).mono ?_); rintro e w' ⟨rfl, ⟨nd, rfl⟩⟩))
          go_meet
          case rel => exact ⟨_, (!t175), (by first | rfl | (simp; done) | (simp [*]; done)), H', ⟨by first | omega | exact Nat.le_refl _⟩, ⟨by (with_reducible repeat (first | refine blk_drewN ?_ _ | refine blk_drew ?_ | refine blk_alloc ?_ _)); exact BK171.out⟩, ⟨by repeat (first | (with_reducible first | exact HB.out | apply below_alloc | apply pw_below_drewN | apply below_drew1 | refine below_set ?_ GE171.out) | exact HB.out)⟩⟩
        · replace c12 := Bool.eq_false_iff.mpr c12
          subst c12
          have H1 : (spec_Quickest.j0 k a1 a2 a3 true a0_0 a0_1 l0_2 l0_3) = some (r1, r2) := by rw [if_neg (show ¬ (false = true) by decide)] at H; exact H
          clear H
          have H := H1
          clear H1
          have H' := Aside0.mk H
          clear H
          have hcz20_0 : w6.cell? ⟨gb171, 0, none⟩ = some (.int .i64 a0_0) := (blk_cell BK171.out 0).trans rfl
          have hcz20_1 : w6.cell? ⟨gb171, 1, none⟩ = some (.int .i64 a0_1) := (blk_cell BK171.out 1).trans rfl
          have hcz20_2 : w6.cell? ⟨gb171, 2, none⟩ = some (.slice A0_2 l0_2.length c0_2) := (blk_cell BK171.out 2).trans rfl
          have hcz20_3 : w6.cell? ⟨gb171, 3, none⟩ = some (.slice A0_3 l0_3.length c0_3) := (blk_cell BK171.out 3).trans rfl
          have hfz20_0 := blk_frozen BK171.out 0
          have hfz20_1 := blk_frozen BK171.out 1
          have hfz20_2 := blk_frozen BK171.out 2
          have hfz20_3 := blk_frozen BK171.out 3
          go_wp2_with (first | ((with_reducible refine gate_callee (f := 11) rfl ?_); refine goesL_ (some 16) rfl rfl Try.func11 (by kernel_rfl) rfl #[.agg #[.int .i64 a0_0, .int .i64 a0_1, .slice A0_2 l0_2.length c0_2, .slice A0_3 l0_3.length c0_3]] rfl (by (try simp only [List.map_toArray, List.map_cons, List.map_nil]); first | done | rfl | (simp only [List.length_drop, List.length_take]; rfl)) ?_; (with_reducible refine (spec_SeaOk.calls k a0_0 a0_1 _ _ l0_2 _ _ l0_3 true _ ?side1 ?side2 ?side3 ?side4 A7.out).mono ?_); (case side1 => repeat (first | exact (Kd.C_below HR0_2.out HB.out) | (with_reducible refine Kd.C_alloc ?_ _) | (with_reducible refine Kd.C_drewN ?_ _) | (with_reducible refine Kd.C_drew ?_))); (case side2 => exact HC0_2.out); (case side3 => repeat (first | exact (Kd.C_below HR0_3.out HB.out) | (with_reducible refine Kd.C_alloc ?_ _) | (with_reducible refine Kd.C_drewN ?_ _) | (with_reducible refine Kd.C_drew ?_))); (case side4 => exact HC0_3.out); rintro e w21 ⟨rfl, hb⟩; refine ⟨_, rfl, ?_⟩; have n0_ := Aside0.mk (blk_below (g := gb171) (o := .cells #[.int .i64 a0_0, .int .i64 a0_1, .slice A0_2 l0_2.length c0_2, .slice A0_3 l0_3.length c0_3] 31 (0, 0)) (by (with_reducible repeat (first | refine blk_drewN ?_ _ | refine blk_drew ?_ | refine blk_alloc ?_ _)); exact BK171.out) hb); have n1_ := Aside0.mk (below_step (by repeat (first | (with_reducible first | exact HB.out | apply below_alloc | apply pw_below_drewN | apply below_drew1 | refine below_set ?_ GE171.out) | exact HB.out)) hb); clear BK171; clear HB; have BK171 := n0_; have HB := n1_; clear n0_ n1_; (try clear hb); (try clear hb2); (try clear hk); (try clear hi); have hcz22_0 : w21.cell? ⟨gb171, 0, none⟩ = some (.int .i64 a0_0) := (blk_cell BK171.out 0).trans rfl; have hcz22_1 : w21.cell? ⟨gb171, 1, none⟩ = some (.int .i64 a0_1) := (blk_cell BK171.out 1).trans rfl; have hcz22_2 : w21.cell? ⟨gb171, 2, none⟩ = some (.slice A0_2 l0_2.length c0_2) := (blk_cell BK171.out 2).trans rfl; have hcz22_3 : w21.cell? ⟨gb171, 3, none⟩ = some (.slice A0_3 l0_3.length c0_3) := (blk_cell BK171.out 3).trans rfl; have hfz22_0 := blk_frozen BK171.out 0; have hfz22_1 := blk_frozen BK171.out 1; have hfz22_2 := blk_frozen BK171.out 2; have hfz22_3 := blk_frozen BK171.out 3) | (go_at_call 12; (with_reducible refine (spec_l7Place.calls a0_0 a0_1 _ _ l0_2 _ _ l0_3 a1 true _ ?side1 ?side2 ?side3 ?side4 A9.out).mono ?_); (case side1 => repeat (first | exact (Kd.C_below HR0_2.out HB.out) | (with_reducible refine Kd.C_alloc ?_ _) | (with_reducible refine Kd.C_drewN ?_ _) | (with_reducible refine Kd.C_drew ?_))); (case side2 => exact HC0_2.out); (case side3 => repeat (first | exact (Kd.C_below HR0_3.out HB.out) | (with_reducible refine Kd.C_alloc ?_ _) | (with_reducible refine Kd.C_drewN ?_ _) | (with_reducible refine Kd.C_drew ?_))); (case side4 => exact HC0_3.out); rintro e w23 ⟨rfl, hb⟩; have n0_ := Aside0.mk (blk_below (g := gb171) (o := .cells #[.int .i64 a0_0, .int .i64 a0_1, .slice A0_2 l0_2.length c0_2, .slice A0_3 l0_3.length c0_3] 31 (0, 0)) (by (with_reducible repeat (first | refine blk_drewN ?_ _ | refine blk_drew ?_ | refine blk_alloc ?_ _)); exact BK171.out) hb); have n1_ := Aside0.mk (below_step (by repeat (first | (with_reducible first | exact HB.out | apply below_alloc | apply pw_below_drewN | apply below_drew1 | refine below_set ?_ GE171.out) | exact HB.out)) hb); clear BK171; clear HB; have BK171 := n0_; have HB := n1_; clear n0_ n1_; (try clear hb); (try clear hb2); (try clear hk); (try clear hi); have hcz24_0 : w23.cell? ⟨gb171, 0, none⟩ = some (.int .i64 a0_0) := (blk_cell BK171.out 0).trans rfl; have hcz24_1 : w23.cell? ⟨gb171, 1, none⟩ = some (.int .i64 a0_1) := (blk_cell BK171.out 1).trans rfl; have hcz24_2 : w23.cell? ⟨gb171, 2, none⟩ = some (.slice A0_2 l0_2.length c0_2) := (blk_cell BK171.out 2).trans rfl; have hcz24_3 : w23.cell? ⟨gb171, 3, none⟩ = some (.slice A0_3 l0_3.length c0_3) := (blk_cell BK171.out 3).trans rfl; have hfz24_0 := blk_frozen BK171.out 0; have hfz24_1 := blk_frozen BK171.out 1; have hfz24_2 := blk_frozen BK171.out 2; have hfz24_3 := blk_frozen BK171.out 3) | (go_at_call 12; (with_reducible refine (spec_l7Place.calls a0_0 a0_1 _ _ l0_2 _ _ l0_3 a2 false _ ?side1 ?side2 ?side3 ?side4 A11.out).mono ?_); (case side1 => repeat (first | exact (Kd.C_below HR0_2.out HB.out) | (with_reducible refine Kd.C_alloc ?_ _) | (with_reducible refine Kd.C_drewN ?_ _) | (with_reducible refine Kd.C_drew ?_))); (case side2 => exact HC0_2.out); (case side3 => repeat (first | exact (Kd.C_below HR0_3.out HB.out) | (with_reducible refine Kd.C_alloc ?_ _) | (with_reducible refine Kd.C_drewN ?_ _) | (with_reducible refine Kd.C_drew ?_))); (case side4 => exact HC0_3.out); rintro e w25 ⟨rfl, hb⟩; have n0_ := Aside0.mk (blk_below (g := gb171) (o := .cells #[.int .i64 a0_0, .int .i64 a0_1, .slice A0_2 l0_2.length c0_2, .slice A0_3 l0_3.length c0_3] 31 (0, 0)) (by (with_reducible repeat (first | refine blk_drewN ?_ _ | refine blk_drew ?_ | refine blk_alloc ?_ _)); exact BK171.out) hb); have n1_ := Aside0.mk (below_step (by repeat (first | (with_reducible first | exact HB.out | apply below_alloc | apply pw_below_drewN | apply below_drew1 | refine below_set ?_ GE171.out) | exact HB.out)) hb); clear BK171; clear HB; have BK171 := n0_; have HB := n1_; clear n0_ n1_; (try clear hb); (try clear hb2); (try clear hk); (try clear hi)))
          go_meet
          case rel => exact ⟨_, (true), (by first | rfl | (simp; done) | (simp [*]; done)), H', ⟨by first | omega | exact Nat.le_refl _⟩, ⟨by (with_reducible repeat (first | refine blk_drewN ?_ _ | refine blk_drew ?_ | refine blk_alloc ?_ _)); exact BK171.out⟩, ⟨by repeat (first | (with_reducible first | exact HB.out | apply below_alloc | apply pw_below_drewN | apply below_drew1 | refine below_set ?_ GE171.out) | exact HB.out)⟩⟩
      · replace c10 := Bool.eq_false_iff.mpr c10
        subst c10
        have H1 : (spec_Quickest.j0 k a1 a2 a3 true a0_0 a0_1 l0_2 l0_3) = some (r1, r2) := by rw [if_neg (show ¬ (false = true) by decide)] at H; exact H
        clear H
        have H := H1
        clear H1
        have H' := Aside0.mk H
        clear H
        have hcz26_0 : w6.cell? ⟨gb171, 0, none⟩ = some (.int .i64 a0_0) := (blk_cell BK171.out 0).trans rfl
        have hcz26_1 : w6.cell? ⟨gb171, 1, none⟩ = some (.int .i64 a0_1) := (blk_cell BK171.out 1).trans rfl
        have hcz26_2 : w6.cell? ⟨gb171, 2, none⟩ = some (.slice A0_2 l0_2.length c0_2) := (blk_cell BK171.out 2).trans rfl
        have hcz26_3 : w6.cell? ⟨gb171, 3, none⟩ = some (.slice A0_3 l0_3.length c0_3) := (blk_cell BK171.out 3).trans rfl
        have hfz26_0 := blk_frozen BK171.out 0
        have hfz26_1 := blk_frozen BK171.out 1
        have hfz26_2 := blk_frozen BK171.out 2
        have hfz26_3 := blk_frozen BK171.out 3
        go_wp2_with (first | ((with_reducible refine gate_callee (f := 11) rfl ?_); refine goesL_ (some 16) rfl rfl Try.func11 (by kernel_rfl) rfl #[.agg #[.int .i64 a0_0, .int .i64 a0_1, .slice A0_2 l0_2.length c0_2, .slice A0_3 l0_3.length c0_3]] rfl (by (try simp only [List.map_toArray, List.map_cons, List.map_nil]); first | done | rfl | (simp only [List.length_drop, List.length_take]; rfl)) ?_; (with_reducible refine (spec_SeaOk.calls k a0_0 a0_1 _ _ l0_2 _ _ l0_3 true _ ?side1 ?side2 ?side3 ?side4 A7.out).mono ?_); (case side1 => repeat (first | exact (Kd.C_below HR0_2.out HB.out) | (with_reducible refine Kd.C_alloc ?_ _) | (with_reducible refine Kd.C_drewN ?_ _) | (with_reducible refine Kd.C_drew ?_))); (case side2 => exact HC0_2.out); (case side3 => repeat (first | exact (Kd.C_below HR0_3.out HB.out) | (with_reducible refine Kd.C_alloc ?_ _) | (with_reducible refine Kd.C_drewN ?_ _) | (with_reducible refine Kd.C_drew ?_))); (case side4 => exact HC0_3.out); rintro e w27 ⟨rfl, hb⟩; refine ⟨_, rfl, ?_⟩; have n0_ := Aside0.mk (blk_below (g := gb171) (o := .cells #[.int .i64 a0_0, .int .i64 a0_1, .slice A0_2 l0_2.length c0_2, .slice A0_3 l0_3.length c0_3] 31 (0, 0)) (by (with_reducible repeat (first | refine blk_drewN ?_ _ | refine blk_drew ?_ | refine blk_alloc ?_ _)); exact BK171.out) hb); have n1_ := Aside0.mk (below_step (by repeat (first | (with_reducible first | exact HB.out | apply below_alloc | apply pw_below_drewN | apply below_drew1 | refine below_set ?_ GE171.out) | exact HB.out)) hb); clear BK171; clear HB; have BK171 := n0_; have HB := n1_; clear n0_ n1_; (try clear hb); (try clear hb2); (try clear hk); (try clear hi); have hcz28_0 : w27.cell? ⟨gb171, 0, none⟩ = some (.int .i64 a0_0) := (blk_cell BK171.out 0).trans rfl; have hcz28_1 : w27.cell? ⟨gb171, 1, none⟩ = some (.int .i64 a0_1) := (blk_cell BK171.out 1).trans rfl; have hcz28_2 : w27.cell? ⟨gb171, 2, none⟩ = some (.slice A0_2 l0_2.length c0_2) := (blk_cell BK171.out 2).trans rfl; have hcz28_3 : w27.cell? ⟨gb171, 3, none⟩ = some (.slice A0_3 l0_3.length c0_3) := (blk_cell BK171.out 3).trans rfl; have hfz28_0 := blk_frozen BK171.out 0; have hfz28_1 := blk_frozen BK171.out 1; have hfz28_2 := blk_frozen BK171.out 2; have hfz28_3 := blk_frozen BK171.out 3) | (go_at_call 12; (with_reducible refine (spec_l7Place.calls a0_0 a0_1 _ _ l0_2 _ _ l0_3 a1 false _ ?side1 ?side2 ?side3 ?side4 A9.out).mono ?_); (case side1 => repeat (first | exact (Kd.C_below HR0_2.out HB.out) | (with_reducible refine Kd.C_alloc ?_ _) | (with_reducible refine Kd.C_drewN ?_ _) | (with_reducible refine Kd.C_drew ?_))); (case side2 => exact HC0_2.out); (case side3 => repeat (first | exact (Kd.C_below HR0_3.out HB.out) | (with_reducible refine Kd.C_alloc ?_ _) | (with_reducible refine Kd.C_drewN ?_ _) | (with_reducible refine Kd.C_drew ?_))); (case side4 => exact HC0_3.out); rintro e w29 ⟨rfl, hb⟩; have n0_ := Aside0.mk (blk_below (g := gb171) (o := .cells #[.int .i64 a0_0, .int .i64 a0_1, .slice A0_2 l0_2.length c0_2, .slice A0_3 l0_3.length c0_3] 31 (0, 0)) (by (with_reducible repeat (first | refine blk_drewN ?_ _ | refine blk_drew ?_ | refine blk_alloc ?_ _)); exact BK171.out) hb); have n1_ := Aside0.mk (below_step (by repeat (first | (with_reducible first | exact HB.out | apply below_alloc | apply pw_below_drewN | apply below_drew1 | refine below_set ?_ GE171.out) | exact HB.out)) hb); clear BK171; clear HB; have BK171 := n0_; have HB := n1_; clear n0_ n1_; (try clear hb); (try clear hb2); (try clear hk); (try clear hi)))
        go_meet
        case rel => exact ⟨_, (true), (by first | rfl | (simp; done) | (simp [*]; done)), H', ⟨by first | omega | exact Nat.le_refl _⟩, ⟨by (with_reducible repeat (first | refine blk_drewN ?_ _ | refine blk_drew ?_ | refine blk_alloc ?_ _)); exact BK171.out⟩, ⟨by repeat (first | (with_reducible first | exact HB.out | apply below_alloc | apply pw_below_drewN | apply below_drew1 | refine below_set ?_ GE171.out) | exact HB.out)⟩⟩
    · replace c8 := Bool.eq_false_iff.mpr c8
      subst c8
      have H1 : (spec_Quickest.j0 k a1 a2 a3 true a0_0 a0_1 l0_2 l0_3) = some (r1, r2) := by rw [if_neg (show ¬ (false = true) by decide)] at H; exact H
      clear H
      have H := H1
      clear H1
      have H' := Aside0.mk H
      clear H
      have hcz30_0 : w6.cell? ⟨gb171, 0, none⟩ = some (.int .i64 a0_0) := (blk_cell BK171.out 0).trans rfl
      have hcz30_1 : w6.cell? ⟨gb171, 1, none⟩ = some (.int .i64 a0_1) := (blk_cell BK171.out 1).trans rfl
      have hcz30_2 : w6.cell? ⟨gb171, 2, none⟩ = some (.slice A0_2 l0_2.length c0_2) := (blk_cell BK171.out 2).trans rfl
      have hcz30_3 : w6.cell? ⟨gb171, 3, none⟩ = some (.slice A0_3 l0_3.length c0_3) := (blk_cell BK171.out 3).trans rfl
      have hfz30_0 := blk_frozen BK171.out 0
      have hfz30_1 := blk_frozen BK171.out 1
      have hfz30_2 := blk_frozen BK171.out 2
      have hfz30_3 := blk_frozen BK171.out 3
      go_wp2_with (first | ((with_reducible refine gate_callee (f := 11) rfl ?_); refine goesL_ (some 16) rfl rfl Try.func11 (by kernel_rfl) rfl #[.agg #[.int .i64 a0_0, .int .i64 a0_1, .slice A0_2 l0_2.length c0_2, .slice A0_3 l0_3.length c0_3]] rfl (by (try simp only [List.map_toArray, List.map_cons, List.map_nil]); first | done | rfl | (simp only [List.length_drop, List.length_take]; rfl)) ?_; (with_reducible refine (spec_SeaOk.calls k a0_0 a0_1 _ _ l0_2 _ _ l0_3 false _ ?side1 ?side2 ?side3 ?side4 A7.out).mono ?_); (case side1 => repeat (first | exact (Kd.C_below HR0_2.out HB.out) | (with_reducible refine Kd.C_alloc ?_ _) | (with_reducible refine Kd.C_drewN ?_ _) | (with_reducible refine Kd.C_drew ?_))); (case side2 => exact HC0_2.out); (case side3 => repeat (first | exact (Kd.C_below HR0_3.out HB.out) | (with_reducible refine Kd.C_alloc ?_ _) | (with_reducible refine Kd.C_drewN ?_ _) | (with_reducible refine Kd.C_drew ?_))); (case side4 => exact HC0_3.out); rintro e w31 ⟨rfl, hb⟩; refine ⟨_, rfl, ?_⟩; have n0_ := Aside0.mk (blk_below (g := gb171) (o := .cells #[.int .i64 a0_0, .int .i64 a0_1, .slice A0_2 l0_2.length c0_2, .slice A0_3 l0_3.length c0_3] 31 (0, 0)) (by (with_reducible repeat (first | refine blk_drewN ?_ _ | refine blk_drew ?_ | refine blk_alloc ?_ _)); exact BK171.out) hb); have n1_ := Aside0.mk (below_step (by repeat (first | (with_reducible first | exact HB.out | apply below_alloc | apply pw_below_drewN | apply below_drew1 | refine below_set ?_ GE171.out) | exact HB.out)) hb); clear BK171; clear HB; have BK171 := n0_; have HB := n1_; clear n0_ n1_; (try clear hb); (try clear hb2); (try clear hk); (try clear hi)))
      go_meet
      case rel => exact ⟨_, (true), (by first | rfl | (simp; done) | (simp [*]; done)), H', ⟨by first | omega | exact Nat.le_refl _⟩, ⟨by (with_reducible repeat (first | refine blk_drewN ?_ _ | refine blk_drew ?_ | refine blk_alloc ?_ _)); exact BK171.out⟩, ⟨by repeat (first | (with_reducible first | exact HB.out | apply below_alloc | apply pw_below_drewN | apply below_drew1 | refine below_set ?_ GE171.out) | exact HB.out)⟩⟩
  case rest =>
    clear HC5
    try clear c1
    try clear p2
    try clear c5
    try clear c8
    try clear c10
    try clear c11
    try clear c12
    try clear hcz14_0
    try clear hcz14_1
    try clear hcz14_2
    try clear hcz14_3
    try clear hcz16_0
    try clear hcz16_1
    try clear hcz16_2
    try clear hcz16_3
    try clear hcz18_0
    try clear hcz18_1
    try clear hcz18_2
    try clear hcz18_3
    try clear hcz20_0
    try clear hcz20_1
    try clear hcz20_2
    try clear hcz20_3
    try clear hcz22_0
    try clear hcz22_1
    try clear hcz22_2
    try clear hcz22_3
    try clear hcz24_0
    try clear hcz24_1
    try clear hcz24_2
    try clear hcz24_3
    try clear hcz26_0
    try clear hcz26_1
    try clear hcz26_2
    try clear hcz26_3
    try clear hcz28_0
    try clear hcz28_1
    try clear hcz28_2
    try clear hcz28_3
    try clear hcz30_0
    try clear hcz30_1
    try clear hcz30_2
    try clear hcz30_3
    try clear hfz14_0
    try clear hfz14_1
    try clear hfz14_2
    try clear hfz14_3
    try clear hfz16_0
    try clear hfz16_1
    try clear hfz16_2
    try clear hfz16_3
    try clear hfz18_0
    try clear hfz18_1
    try clear hfz18_2
    try clear hfz18_3
    try clear hfz20_0
    try clear hfz20_1
    try clear hfz20_2
    try clear hfz20_3
    try clear hfz22_0
    try clear hfz22_1
    try clear hfz22_2
    try clear hfz22_3
    try clear hfz24_0
    try clear hfz24_1
    try clear hfz24_2
    try clear hfz24_3
    try clear hfz26_0
    try clear hfz26_1
    try clear hfz26_2
    try clear hfz26_3
    try clear hfz28_0
    try clear hfz28_1
    try clear hfz28_2
    try clear hfz28_3
    try clear hfz30_0
    try clear hfz30_1
    try clear hfz30_2
    try clear hfz30_3
    obtain ⟨kq, x34_4, rfl, HA, HJ4, BK171, HB⟩ := hcut
    cases kq with
    | zero => exact absurd HA.out (by simp [spec_Quickest.j0])
    | succ kj4 =>
      have H := HA.out
      clear HA
      simp only [spec_Quickest.j0] at H
      by_cases c32 : x34_4 = true
      · subst c32
        have H1 : (some ((-1), false)) = some (r1, r2) := by rw [if_pos rfl] at H; exact H
        clear H
        have H := H1
        clear H1
        simp only [Option.some.injEq, Prod.mk.injEq] at H
        obtain ⟨rfl, rfl⟩ := H
        go_wp2
        go_ret2
        exact ⟨by first | rfl | (simp [errW_none, errW_some] <;> rfl) | (simp [*, errW_none, errW_some] <;> rfl), by repeat (first | (with_reducible first | exact HB.out | apply below_alloc | apply pw_below_drewN | apply below_drew1 | refine below_set ?_ GE171.out) | exact HB.out)⟩
      · replace c32 := Bool.eq_false_iff.mpr c32
        subst c32
        have H1 : (if 0 ≤ (l0_2.length : Int) then (if ((l0_2.length : Int) : Int).toNat ≤ 281474976710656 then ((some (List.replicate ((l0_2.length : Int) : Int).toNat false : List Bool)).bind fun y176 => (if 0 ≤ a1 then (if a1 < (l0_2.length : Int) then (if (rd l0_2 a1) > 0 then ((spec_l7Shut.f kj4 a0_0 a0_1 l0_2 l0_3 a1 0).bind fun t180 => (if a1 < (y176.length : Int) then (spec_Quickest.j1 kj4 a2 a3 (y176.set (a1 : Int).toNat (!t180)) a0_0 a0_1 l0_2 l0_3) else (none))) else (if a1 < (y176.length : Int) then (spec_Quickest.j1 kj4 a2 a3 (y176.set (a1 : Int).toNat false) a0_0 a0_1 l0_2 l0_3) else (none))) else (none)) else (none))) else (none)) else (none)) = some (r1, r2) := by rw [if_neg (show ¬ (false = true) by decide)] at H; exact H
        clear H
        have H := H1
        clear H1
        by_cases c33 : 0 ≤ (l0_2.length : Int)
        · rw [if_pos c33] at H
          have c33b0 := eq_true c33
          have c33b1 : decide (0 ≤ (l0_2.length : Int)) = true := decide_eq_true c33
          clear c33
          by_cases c34 : ((l0_2.length : Int) : Int).toNat ≤ 281474976710656
          · rw [if_pos c34] at H
            have c34b0 := eq_true c34
            have c34b1 : decide (((l0_2.length : Int) : Int).toNat ≤ 281474976710656) = true := decide_eq_true c34
            clear c34
            obtain ⟨y176, hy176⟩ : ∃ y_ : List Bool, y_ = (List.replicate ((l0_2.length : Int) : Int).toNat false) := ⟨_, rfl⟩
            replace H : (if 0 ≤ a1 then (if a1 < (l0_2.length : Int) then (if (rd l0_2 a1) > 0 then ((spec_l7Shut.f kj4 a0_0 a0_1 l0_2 l0_3 a1 0).bind fun t180 => (if a1 < (y176.length : Int) then (spec_Quickest.j1 kj4 a2 a3 (y176.set (a1 : Int).toNat (!t180)) a0_0 a0_1 l0_2 l0_3) else (none))) else (if a1 < (y176.length : Int) then (spec_Quickest.j1 kj4 a2 a3 (y176.set (a1 : Int).toNat false) a0_0 a0_1 l0_2 l0_3) else (none))) else (none)) else (none)) = some (r1, r2) := by first | (rw [hy176]; with_reducible exact H) | (have H2_ := (Option.bind_some _ _).symm.trans H; rw [hy176]; with_reducible exact H2_) | (have H2_ := (Option.bind_some _ _).symm.trans H; with_reducible exact H2_) | with_reducible exact H | (rw [hy176]; exact H) | exact H
            have Ny176 := Aside0.mk hy176
            clear hy176
            have HC35 := Aside0.mk H
            clear H
            have hcz36_0 : wc.cell? ⟨gb171, 0, none⟩ = some (.int .i64 a0_0) := (blk_cell BK171.out 0).trans rfl
            have hcz36_1 : wc.cell? ⟨gb171, 1, none⟩ = some (.int .i64 a0_1) := (blk_cell BK171.out 1).trans rfl
            have hcz36_2 : wc.cell? ⟨gb171, 2, none⟩ = some (.slice A0_2 l0_2.length c0_2) := (blk_cell BK171.out 2).trans rfl
            have hcz36_3 : wc.cell? ⟨gb171, 3, none⟩ = some (.slice A0_3 l0_3.length c0_3) := (blk_cell BK171.out 3).trans rfl
            have hfz36_0 := blk_frozen BK171.out 0
            have hfz36_1 := blk_frozen BK171.out 1
            have hfz36_2 := blk_frozen BK171.out 2
            have hfz36_3 := blk_frozen BK171.out 3
            go_upto_region 4 with (first | ((with_reducible refine gate_dst (N := 38) rfl ?_); refine Kd.R_make Kd.bool _ 4 rfl (N := 38) rfl 40 _ _ rfl (l0_2.length : Int) rfl rfl Try.underlying40 (.bool false) 1 info4 rfl (by decide) (by omega) false (ok := fun _ => True) (okp := fun _ => True) rfl (fun _ hk => hk) trivial (of_decide_eq_true (by first | (with_reducible assumption) | assumption)) (Nat.le_trans (Nat.mul_le_mul_right _ (of_decide_eq_true (by first | (with_reducible assumption) | assumption) : (l0_2.length : Int).toNat ≤ 281474976710656)) (by omega)) (Below.refl _ _) (Nat.le_refl _) ?_; intro v177 w37 ho38 hb hg_ hnew_; clear hg_ hnew_; (first | rw [← Ny176.out] at ho38 | (simp only [Int.reduceToNat] at ho38; rw [← Ny176.out] at ho38)); have n0_ := Aside0.mk (Kd.R_lower ho38 (below_size (by repeat (first | (with_reducible first | exact HB.out | apply below_alloc | apply pw_below_drewN | apply below_drew1 | refine below_set ?_ GE171.out) | exact HB.out)))); have n1_ := Aside0.mk (blk_below (g := gb171) (o := .cells #[.int .i64 a0_0, .int .i64 a0_1, .slice A0_2 l0_2.length c0_2, .slice A0_3 l0_3.length c0_3] 31 (0, 0)) (by (with_reducible repeat (first | refine blk_drewN ?_ _ | refine blk_drew ?_ | refine blk_alloc ?_ _)); exact BK171.out) hb); have n2_ := Aside0.mk (below_step (by repeat (first | (with_reducible first | exact HB.out | apply below_alloc | apply pw_below_drewN | apply below_drew1 | refine below_set ?_ GE171.out) | exact HB.out)) hb); clear BK171; clear HB; have HO178 := n0_; have BK171 := n1_; have HB := n2_; clear n0_ n1_ n2_; clear hb ho38))
            (try simp only [Act.put, List.setIfInBounds_toArray, List.set_cons_zero, List.set_cons_succ])
            go_cut [] (fun wc => ∃ (kq : Nat) (x10_34 : List Bool), Aside0 (spec_Quickest.j1 kq a2 a3 x10_34 a0_0 a0_1 l0_2 l0_3 = some (r1, r2)) ∧ Aside0 (kq ≤ kj4) ∧ Aside0 (Kd.R Kd.bool 4 wc w.heap.size (fun _ => True) v177 x10_34) ∧ Aside0 (wc.heap[gb171]? = some (.cells #[.int .i64 a0_0, .int .i64 a0_1, (.slice A0_2 l0_2.length c0_2), (.slice A0_3 l0_3.length c0_3)] 31 (0, 0))) ∧ Aside0 (Below w.heap.size w wc))
            case first =>
              have H := HC35.out
              clear HC35
              by_cases c39 : 0 ≤ a1
              · rw [if_pos c39] at H
                have c39b0 : decide (0 ≤ a1) = true := decide_eq_true c39
                clear c39
                (first | rw [c39b0] | (simp only [i64_w, i32_w]; rw [c39b0]) | skip)
                by_cases c40 : a1 < (l0_2.length : Int)
                · rw [if_pos c40] at H
                  have c40b0 : decide (a1 < (l0_2.length : Int)) = true := decide_eq_true c40
                  clear c40
                  by_cases c41 : (rd l0_2 a1) > 0
                  · rw [if_pos c41] at H
                    have c41b0 : decide (0 < (rd l0_2 a1)) = true := decide_eq_true c41
                    clear c41
                    replace H := Option.bind_eq_some_iff.mp H
                    obtain ⟨t180, A420, H⟩ := H
                    replace H : (if a1 < (y176.length : Int) then (spec_Quickest.j1 kj4 a2 a3 (y176.set (a1 : Int).toNat (!t180)) a0_0 a0_1 l0_2 l0_3) else (none)) = some (r1, r2) := H
                    have A42 := Aside0.mk A420
                    clear A420
                    by_cases c43 : a1 < (y176.length : Int)
                    · rw [if_pos c43] at H
                      have c43b0 : decide (a1 < (y176.length : Int)) = true := decide_eq_true c43
                      clear c43
                      obtain ⟨y181, hy181⟩ : ∃ y_ : List Bool, y_ = (y176.set (a1 : Int).toNat (!t180)) := ⟨_, rfl⟩
                      replace H : (spec_Quickest.j1 kj4 a2 a3 y181 a0_0 a0_1 l0_2 l0_3) = some (r1, r2) := by first | (rw [hy181]; with_reducible exact H) | (have H2_ := (Option.bind_some _ _).symm.trans H; rw [hy181]; with_reducible exact H2_) | (have H2_ := (Option.bind_some _ _).symm.trans H; with_reducible exact H2_) | with_reducible exact H | (rw [hy181]; exact H) | exact H
                      have Ny181 := Aside0.mk hy181
                      clear hy181
                      have H' := Aside0.mk H
                      clear H
                      have hcz45_0 : w37.cell? ⟨gb171, 0, none⟩ = some (.int .i64 a0_0) := (blk_cell BK171.out 0).trans rfl
                      have hcz45_1 : w37.cell? ⟨gb171, 1, none⟩ = some (.int .i64 a0_1) := (blk_cell BK171.out 1).trans rfl
                      have hcz45_2 : w37.cell? ⟨gb171, 2, none⟩ = some (.slice A0_2 l0_2.length c0_2) := (blk_cell BK171.out 2).trans rfl
                      have hcz45_3 : w37.cell? ⟨gb171, 3, none⟩ = some (.slice A0_3 l0_3.length c0_3) := (blk_cell BK171.out 3).trans rfl
                      have hfz45_0 := blk_frozen BK171.out 0
                      have hfz45_1 := blk_frozen BK171.out 1
                      have hfz45_2 := blk_frozen BK171.out 2
                      have hfz45_3 := blk_frozen BK171.out 3
                      have p179 : 0 ≤ (a1 : Int) := of_decide_eq_true (by first | (with_reducible assumption) | assumption)
                      have q179 : a1 < (l0_2.length : Int) := of_decide_eq_true (by first | (with_reducible assumption) | assumption)
                      obtain ⟨ad179, e179, hx179_0⟩ := Kd.at_int HR0_2.out a1 p179 q179
                      cases e179
                      replace hx179_0 := (HB.out.cell (World.block_lt_of_cell? w _ hx179_0)).trans hx179_0
                      replace p179 := eq_true p179
                      replace q179 := eq_true q179
                      go_wp2_with (first | (go_at_call 14; (with_reducible refine (spec_l7Shut.calls kj4 a0_0 a0_1 _ _ l0_2 _ _ l0_3 a1 0 t180 _ ?side1 ?side2 ?side3 ?side4 A42.out).mono ?_); (case side1 => repeat (first | exact (Kd.C_below HR0_2.out HB.out) | (with_reducible refine Kd.C_alloc ?_ _) | (with_reducible refine Kd.C_drewN ?_ _) | (with_reducible refine Kd.C_drew ?_))); (case side2 => exact HC0_2.out); (case side3 => repeat (first | exact (Kd.C_below HR0_3.out HB.out) | (with_reducible refine Kd.C_alloc ?_ _) | (with_reducible refine Kd.C_drewN ?_ _) | (with_reducible refine Kd.C_drew ?_))); (case side4 => exact HC0_3.out); rintro e w46 ⟨rfl, hb⟩; have n0_ := Aside0.mk (Kd.R_below (by (with_reducible repeat (first | apply Kd.R_alloc | apply Kd.R_drewN | apply Kd.R_drew)); exact HO178.out) hb); have n1_ := Aside0.mk (blk_below (g := gb171) (o := .cells #[.int .i64 a0_0, .int .i64 a0_1, .slice (some ad179) l0_2.length c0_2, .slice A0_3 l0_3.length c0_3] 31 (0, 0)) (by (with_reducible repeat (first | refine blk_drewN ?_ _ | refine blk_drew ?_ | refine blk_alloc ?_ _)); exact BK171.out) hb); have n2_ := Aside0.mk (below_step (by repeat (first | (with_reducible first | exact HB.out | apply below_alloc | apply pw_below_drewN | apply below_drew1 | refine below_set ?_ GE171.out) | exact HB.out)) hb); clear HO178; clear BK171; clear HB; have HO178 := n0_; have BK171 := n1_; have HB := n2_; clear n0_ n1_ n2_; (try clear hb); (try clear hb2); (try clear hk); (try clear hi); have p44 : 0 ≤ (a1 : Int) := of_decide_eq_true (by first | (with_reducible assumption) | assumption); have q44 : (a1 : Int) < ((y176.length : Int) : Int) := of_decide_eq_true (by first | (with_reducible assumption) | assumption); obtain ⟨go44, co44, eo44, gb44, gl44, cl44, HG44⟩ := Kd.R_form HO178.out (by omega); (first | cases eo44 | (injection eo44 with ea_ en_ ec_; (first | subst ea_ | (injection ea_ with ea_; subst ea_)); subst ec_; clear en_)); have GB44 := Aside0.mk gb44; have GG44 := Aside0.mk HG44; clear gb44 gl44 HG44; obtain ⟨hx44_0, hf44_0⟩ := Kd.R_celln false HO178.out (a1 : Int) p44 q44; replace p44 := eq_true p44; replace q44 := eq_true q44; obtain ⟨hy47_, hz47_⟩ := Kd.R_celln false HO178.out (a1 : Int) (of_decide_eq_true (by first | (with_reducible assumption) | assumption)) (of_decide_eq_true (by first | (with_reducible assumption) | assumption)); have HP47 := Kd.R_putg HO178.out (a1 : Int) (!t180)) | ((with_reducible refine gate_store (t := 4) (p := 53) rfl ?_); refine store_event (t := 4) (p := 53) (v := ?vo_w48) (w1 := (w46.setCell ⟨go44, (a1 : Int).toNat, none⟩ (.bool (!t180)))) ?hg ?ho ?hn ?hr ?_; (case ho => rfl); (case hg => rfl); (case hn => rfl); (case hr => first | (go_simp; done) | (go_simp; rfl)); intro w48 hw; have hg : w46.grownBy w48 (some go44) := (by rw [hw]; exact HP47.2); have hp_ : Kd.R Kd.bool 4 w48 w.heap.size (fun _ => True) (.slice (some ⟨go44, 0, none⟩) y176.length co44) y181 := (by rw [hw, Ny181.out]; exact HP47.1); clear HP47; have n0_ := Aside0.mk (blk_grown (g := gb171) (o := .cells #[.int .i64 a0_0, .int .i64 a0_1, .slice (some ad179) l0_2.length c0_2, .slice A0_3 l0_3.length c0_3] 31 (0, 0)) (by (with_reducible repeat (first | refine blk_drewN ?_ _ | refine blk_drew ?_ | refine blk_alloc ?_ _)); exact BK171.out) hg (Kd.R_ne HO178.out BK171.out (by decide))); have n1_ := Aside0.mk (hp_); have n2_ := Aside0.mk ((by rw [hw]; exact below_set (HB.out) GB44.out : Below w.heap.size w w48)); clear BK171; clear HO178; clear HB; have BK171 := n0_; have HO178 := n1_; have HB := n2_; clear n0_ n1_ n2_; clear hg hw hp_))
                      go_meet
                      case rel => exact ⟨_, (y181), H', ⟨by have := HJ4.out; first | omega | exact Nat.le_refl _⟩, ⟨by (with_reducible repeat (first | apply Kd.R_alloc | apply Kd.R_drewN | apply Kd.R_drew)); exact HO178.out⟩, ⟨by (with_reducible repeat (first | refine blk_drewN ?_ _ | refine blk_drew ?_ | refine blk_alloc ?_ _)); exact BK171.out⟩, ⟨by repeat (first | (with_reducible first | exact HB.out | apply below_alloc | apply pw_below_drewN | apply below_drew1 | refine below_set ?_ GE171.out) | exact HB.out)⟩⟩
                    · rw [if_neg c43] at H
                      exact absurd H (by simp)
                  · rw [if_neg c41] at H
                    have c41b0 : decide (0 < (rd l0_2 a1)) = false := decide_eq_false c41
                    clear c41
                    by_cases c49 : a1 < (y176.length : Int)
                    · rw [if_pos c49] at H
                      have c49b0 : decide (a1 < (y176.length : Int)) = true := decide_eq_true c49
                      clear c49
                      obtain ⟨y182, hy182⟩ : ∃ y_ : List Bool, y_ = (y176.set (a1 : Int).toNat false) := ⟨_, rfl⟩
                      replace H : (spec_Quickest.j1 kj4 a2 a3 y182 a0_0 a0_1 l0_2 l0_3) = some (r1, r2) := by first | (rw [hy182]; with_reducible exact H) | (have H2_ := (Option.bind_some _ _).symm.trans H; rw [hy182]; with_reducible exact H2_) | (have H2_ := (Option.bind_some _ _).symm.trans H; with_reducible exact H2_) | with_reducible exact H | (rw [hy182]; exact H) | exact H
                      have Ny182 := Aside0.mk hy182
                      clear hy182
                      have H' := Aside0.mk H
                      clear H
                      have hcz51_0 : w37.cell? ⟨gb171, 0, none⟩ = some (.int .i64 a0_0) := (blk_cell BK171.out 0).trans rfl
                      have hcz51_1 : w37.cell? ⟨gb171, 1, none⟩ = some (.int .i64 a0_1) := (blk_cell BK171.out 1).trans rfl
                      have hcz51_2 : w37.cell? ⟨gb171, 2, none⟩ = some (.slice A0_2 l0_2.length c0_2) := (blk_cell BK171.out 2).trans rfl
                      have hcz51_3 : w37.cell? ⟨gb171, 3, none⟩ = some (.slice A0_3 l0_3.length c0_3) := (blk_cell BK171.out 3).trans rfl
                      have hfz51_0 := blk_frozen BK171.out 0
                      have hfz51_1 := blk_frozen BK171.out 1
                      have hfz51_2 := blk_frozen BK171.out 2
                      have hfz51_3 := blk_frozen BK171.out 3
                      have p179 : 0 ≤ (a1 : Int) := of_decide_eq_true (by first | (with_reducible assumption) | assumption)
                      have q179 : a1 < (l0_2.length : Int) := of_decide_eq_true (by first | (with_reducible assumption) | assumption)
                      obtain ⟨ad179, e179, hx179_0⟩ := Kd.at_int HR0_2.out a1 p179 q179
                      cases e179
                      replace hx179_0 := (HB.out.cell (World.block_lt_of_cell? w _ hx179_0)).trans hx179_0
                      replace p179 := eq_true p179
                      replace q179 := eq_true q179
                      have p50 : 0 ≤ (a1 : Int) := of_decide_eq_true (by first | (with_reducible assumption) | assumption)
                      have q50 : (a1 : Int) < ((y176.length : Int) : Int) := of_decide_eq_true (by first | (with_reducible assumption) | assumption)
                      obtain ⟨go50, co50, eo50, gb50, gl50, cl50, HG50⟩ := Kd.R_form HO178.out (by omega)
                      (first | cases eo50 | (injection eo50 with ea_ en_ ec_; (first | subst ea_ | (injection ea_ with ea_; subst ea_)); subst ec_; clear en_))
                      have GB50 := Aside0.mk gb50
                      have GG50 := Aside0.mk HG50
                      clear gb50 gl50 HG50
                      obtain ⟨hx50_0, hf50_0⟩ := Kd.R_celln false HO178.out (a1 : Int) p50 q50
                      replace p50 := eq_true p50
                      replace q50 := eq_true q50
                      have HP52 := Kd.R_putg HO178.out (a1 : Int) false
                      go_wp2_with (first | ((with_reducible refine gate_store (t := 4) (p := 53) rfl ?_); refine store_event (t := 4) (p := 53) (v := ?vo_w53) (w1 := (w37.setCell ⟨go50, (a1 : Int).toNat, none⟩ (.bool false))) ?hg ?ho ?hn ?hr ?_; (case ho => rfl); (case hg => rfl); (case hn => rfl); (case hr => first | (go_simp; done) | (go_simp; rfl)); intro w53 hw; have hg : w37.grownBy w53 (some go50) := (by rw [hw]; exact HP52.2); have hp_ : Kd.R Kd.bool 4 w53 w.heap.size (fun _ => True) (.slice (some ⟨go50, 0, none⟩) y176.length co50) y182 := (by rw [hw, Ny182.out]; exact HP52.1); clear HP52; have n0_ := Aside0.mk (blk_grown (g := gb171) (o := .cells #[.int .i64 a0_0, .int .i64 a0_1, .slice (some ad179) l0_2.length c0_2, .slice A0_3 l0_3.length c0_3] 31 (0, 0)) (by (with_reducible repeat (first | refine blk_drewN ?_ _ | refine blk_drew ?_ | refine blk_alloc ?_ _)); exact BK171.out) hg (Kd.R_ne HO178.out BK171.out (by decide))); have n1_ := Aside0.mk (hp_); have n2_ := Aside0.mk ((by rw [hw]; exact below_set (HB.out) GB50.out : Below w.heap.size w w53)); clear BK171; clear HO178; clear HB; have BK171 := n0_; have HO178 := n1_; have HB := n2_; clear n0_ n1_ n2_; clear hg hw hp_))
                      go_meet
                      case rel => exact ⟨_, (y182), H', ⟨by have := HJ4.out; first | omega | exact Nat.le_refl _⟩, ⟨by (with_reducible repeat (first | apply Kd.R_alloc | apply Kd.R_drewN | apply Kd.R_drew)); exact HO178.out⟩, ⟨by (with_reducible repeat (first | refine blk_drewN ?_ _ | refine blk_drew ?_ | refine blk_alloc ?_ _)); exact BK171.out⟩, ⟨by repeat (first | (with_reducible first | exact HB.out | apply below_alloc | apply pw_below_drewN | apply below_drew1 | refine below_set ?_ GE171.out) | exact HB.out)⟩⟩
                    · rw [if_neg c49] at H
                      exact absurd H (by simp)
                · rw [if_neg c40] at H
                  exact absurd H (by simp)
              · rw [if_neg c39] at H
                exact absurd H (by simp)
            case rest =>
              clear HC35
              try clear c1
              try clear p1
              try clear q1
              try clear hx1
              try clear p2
              try clear c3
              try clear c4
              try clear p4
              try clear q4
              try clear hx4
              try clear hf4
              try clear c5
              try clear p5
              try clear q5
              try clear hx5
              try clear hf5
              try clear c8
              try clear c10
              try clear c11
              try clear c12
              try clear p17
              try clear q17
              try clear hx17
              try clear c32
              try clear c33
              try clear c33b0
              try clear c33b1
              try clear c34
              try clear c34b0
              try clear c34b1
              try clear c39
              try clear c39b0
              try clear c40
              try clear c40b0
              try clear c41
              try clear c41b0
              try clear c43
              try clear c43b0
              try clear p44
              try clear q44
              try clear hx44
              try clear hf44
              try clear c49
              try clear c49b0
              try clear p50
              try clear q50
              try clear hx50
              try clear hf50
              try clear hcz14_0
              try clear hcz14_1
              try clear hcz14_2
              try clear hcz14_3
              try clear hcz16_0
              try clear hcz16_1
              try clear hcz16_2
              try clear hcz16_3
              try clear hcz18_0
              try clear hcz18_1
              try clear hcz18_2
              try clear hcz18_3
              try clear hcz20_0
              try clear hcz20_1
              try clear hcz20_2
              try clear hcz20_3
              try clear hcz22_0
              try clear hcz22_1
              try clear hcz22_2
              try clear hcz22_3
              try clear hcz24_0
              try clear hcz24_1
              try clear hcz24_2
              try clear hcz24_3
              try clear hcz26_0
              try clear hcz26_1
              try clear hcz26_2
              try clear hcz26_3
              try clear hcz28_0
              try clear hcz28_1
              try clear hcz28_2
              try clear hcz28_3
              try clear hcz30_0
              try clear hcz30_1
              try clear hcz30_2
              try clear hcz30_3
              try clear hcz36_0
              try clear hcz36_1
              try clear hcz36_2
              try clear hcz36_3
              try clear hcz45_0
              try clear hcz45_1
              try clear hcz45_2
              try clear hcz45_3
              try clear hcz51_0
              try clear hcz51_1
              try clear hcz51_2
              try clear hcz51_3
              try clear hfz14_0
              try clear hfz14_1
              try clear hfz14_2
              try clear hfz14_3
              try clear hfz16_0
              try clear hfz16_1
              try clear hfz16_2
              try clear hfz16_3
              try clear hfz18_0
              try clear hfz18_1
              try clear hfz18_2
              try clear hfz18_3
              try clear hfz20_0
              try clear hfz20_1
              try clear hfz20_2
              try clear hfz20_3
              try clear hfz22_0
              try clear hfz22_1
              try clear hfz22_2
              try clear hfz22_3
              try clear hfz24_0
              try clear hfz24_1
              try clear hfz24_2
              try clear hfz24_3
              try clear hfz26_0
              try clear hfz26_1
              try clear hfz26_2
              try clear hfz26_3
              try clear hfz28_0
              try clear hfz28_1
              try clear hfz28_2
              try clear hfz28_3
              try clear hfz30_0
              try clear hfz30_1
              try clear hfz30_2
              try clear hfz30_3
              try clear hfz36_0
              try clear hfz36_1
              try clear hfz36_2
              try clear hfz36_3
              try clear hfz45_0
              try clear hfz45_1
              try clear hfz45_2
              try clear hfz45_3
              try clear hfz51_0
              try clear hfz51_1
              try clear hfz51_2
              try clear hfz51_3
              try clear hx179_0
              try clear hx44_0
              try clear hx50_0
              try clear p179
              try clear p2
              try clear p44
              try clear p50
              try clear q179
              try clear q44
              try clear q50
              obtain ⟨kq, x10_34, HA, HJ34, HO_10, BK171, HB⟩ := hcut
              cases kq with
              | zero => exact absurd HA.out (by simp [spec_Quickest.j1])
              | succ kj34 =>
                have H := HA.out
                clear HA
                simp only [spec_Quickest.j1] at H
                have H' := Aside0.mk H
                clear H
                go_wp2
                go_loopg [10, 11] kj34 (fun kq v10 v11 w' => ∃ (x10_3 : List Bool) (x11_3 : Int), v11 = .int .i64 x11_3 ∧ Aside0 (spec_Quickest.l0 kq a2 a3 x10_3 x11_3 a0_0 a0_1 l0_2 l0_3 = some (r1, r2)) ∧ Aside0 (kq ≤ kj34) ∧ Aside0 (Kd.R Kd.bool 4 w' w.heap.size (fun _ => True) v10 x10_3) ∧ Aside0 (w'.heap[gb171]? = some (.cells #[.int .i64 a0_0, .int .i64 a0_1, (.slice A0_2 l0_2.length c0_2), (.slice A0_3 l0_3.length c0_3)] 31 (0, 0))) ∧ Aside0 (Below w.heap.size w w'))
                case atStart => exact ⟨(x10_34), (0), (by first | rfl | (simp; done) | (simp [*]; done)), H', ⟨Nat.le_refl _⟩, ⟨by (with_reducible repeat (first | apply Kd.R_alloc | apply Kd.R_drewN | apply Kd.R_drew)); exact HO_10.out⟩, ⟨by (with_reducible repeat (first | refine blk_drewN ?_ _ | refine blk_drew ?_ | refine blk_alloc ?_ _)); exact BK171.out⟩, ⟨by repeat (first | (with_reducible first | exact HB.out | apply below_alloc | apply pw_below_drewN | apply below_drew1 | refine below_set ?_ GE171.out) | exact HB.out)⟩⟩
                case round =>
                  clear H'
                  try clear c1
                  try clear p1
                  try clear q1
                  try clear hx1
                  try clear p2
                  try clear c3
                  try clear c4
                  try clear p4
                  try clear q4
                  try clear hx4
                  try clear hf4
                  try clear c5
                  try clear p5
                  try clear q5
                  try clear hx5
                  try clear hf5
                  try clear c8
                  try clear c10
                  try clear c11
                  try clear c12
                  try clear p17
                  try clear q17
                  try clear hx17
                  try clear c32
                  try clear c33
                  try clear c33b0
                  try clear c33b1
                  try clear c34
                  try clear c34b0
                  try clear c34b1
                  try clear c39
                  try clear c39b0
                  try clear c40
                  try clear c40b0
                  try clear c41
                  try clear c41b0
                  try clear c43
                  try clear c43b0
                  try clear p44
                  try clear q44
                  try clear hx44
                  try clear hf44
                  try clear c49
                  try clear c49b0
                  try clear p50
                  try clear q50
                  try clear hx50
                  try clear hf50
                  try clear hcz14_0
                  try clear hcz14_1
                  try clear hcz14_2
                  try clear hcz14_3
                  try clear hcz16_0
                  try clear hcz16_1
                  try clear hcz16_2
                  try clear hcz16_3
                  try clear hcz18_0
                  try clear hcz18_1
                  try clear hcz18_2
                  try clear hcz18_3
                  try clear hcz20_0
                  try clear hcz20_1
                  try clear hcz20_2
                  try clear hcz20_3
                  try clear hcz22_0
                  try clear hcz22_1
                  try clear hcz22_2
                  try clear hcz22_3
                  try clear hcz24_0
                  try clear hcz24_1
                  try clear hcz24_2
                  try clear hcz24_3
                  try clear hcz26_0
                  try clear hcz26_1
                  try clear hcz26_2
                  try clear hcz26_3
                  try clear hcz28_0
                  try clear hcz28_1
                  try clear hcz28_2
                  try clear hcz28_3
                  try clear hcz30_0
                  try clear hcz30_1
                  try clear hcz30_2
                  try clear hcz30_3
                  try clear hcz36_0
                  try clear hcz36_1
                  try clear hcz36_2
                  try clear hcz36_3
                  try clear hcz45_0
                  try clear hcz45_1
                  try clear hcz45_2
                  try clear hcz45_3
                  try clear hcz51_0
                  try clear hcz51_1
                  try clear hcz51_2
                  try clear hcz51_3
                  try clear hfz14_0
                  try clear hfz14_1
                  try clear hfz14_2
                  try clear hfz14_3
                  try clear hfz16_0
                  try clear hfz16_1
                  try clear hfz16_2
                  try clear hfz16_3
                  try clear hfz18_0
                  try clear hfz18_1
                  try clear hfz18_2
                  try clear hfz18_3
                  try clear hfz20_0
                  try clear hfz20_1
                  try clear hfz20_2
                  try clear hfz20_3
                  try clear hfz22_0
                  try clear hfz22_1
                  try clear hfz22_2
                  try clear hfz22_3
                  try clear hfz24_0
                  try clear hfz24_1
                  try clear hfz24_2
                  try clear hfz24_3
                  try clear hfz26_0
                  try clear hfz26_1
                  try clear hfz26_2
                  try clear hfz26_3
                  try clear hfz28_0
                  try clear hfz28_1
                  try clear hfz28_2
                  try clear hfz28_3
                  try clear hfz30_0
                  try clear hfz30_1
                  try clear hfz30_2
                  try clear hfz30_3
                  try clear hfz36_0
                  try clear hfz36_1
                  try clear hfz36_2
                  try clear hfz36_3
                  try clear hfz45_0
                  try clear hfz45_1
                  try clear hfz45_2
                  try clear hfz45_3
                  try clear hfz51_0
                  try clear hfz51_1
                  try clear hfz51_2
                  try clear hfz51_3
                  try clear hx179_0
                  try clear hx44_0
                  try clear hx50_0
                  try clear p1
                  try clear p17
                  try clear p179
                  try clear p2
                  try clear p4
                  try clear p44
                  try clear p5
                  try clear p50
                  try clear q1
                  try clear q17
                  try clear q179
                  try clear q4
                  try clear q44
                  try clear q5
                  try clear q50
                  obtain ⟨x10_3, x11_3, rfl, HA, HK3, HO_10, BK171, HB⟩ := hrel
                  cases gk with
                  | zero => exact absurd HA.out (by simp [spec_Quickest.l0])
                  | succ k3 =>
                    have H := HA.out
                    clear HA
                    simp only [spec_Quickest.l0] at H
                    by_cases c54 : x11_3 ≤ a3
                    · rw [if_pos c54] at H
                      have c54b0 : decide (x11_3 ≤ a3) = true := decide_eq_true c54
                      clear c54
                      by_cases c55 : 0 ≤ a2
                      · rw [if_pos c55] at H
                        have c55b0 : decide (0 ≤ a2) = true := decide_eq_true c55
                        clear c55
                        by_cases c56 : a2 < (x10_3.length : Int)
                        · rw [if_pos c56] at H
                          have c56b0 : decide (a2 < (x10_3.length : Int)) = true := decide_eq_true c56
                          clear c56
                          obtain ⟨bq57, hbq57⟩ : ∃ b_ : Bool, b_ = (rdOf false x10_3 a2) := ⟨_, rfl⟩
                          replace H : (if bq57 = true then (some (x11_3, true)) else (if 0 ≤ (x10_3.length : Int) then (if ((x10_3.length : Int) : Int).toNat ≤ 281474976710656 then (spec_Quickest.l1 k3 a2 a3 x10_3 x11_3 (List.replicate ((x10_3.length : Int) : Int).toNat false) 0 a0_0 a0_1 l0_2 l0_3) else (none)) else (none))) = some (r1, r2) := by rw [← hbq57] at H; exact H
                          have Nbq57 := Aside0.mk hbq57
                          clear hbq57
                          by_cases c58 : bq57 = true
                          · subst c58
                            have H1 : (some (x11_3, true)) = some (r1, r2) := by rw [if_pos rfl] at H; exact H
                            clear H
                            have H := H1
                            clear H1
                            simp only [Option.some.injEq, Prod.mk.injEq] at H
                            obtain ⟨rfl, rfl⟩ := H
                            obtain ⟨Ao59, co59, eo59⟩ := Kd.R_slice HO_10.out
                            subst eo59
                            have p183 : 0 ≤ (a2 : Int) := of_decide_eq_true (by first | (with_reducible assumption) | assumption)
                            have q183 : a2 < (x10_3.length : Int) := of_decide_eq_true (by first | (with_reducible assumption) | assumption)
                            obtain ⟨ad183, e183, hx183_0⟩ := Kd.at_bool (Kd.R_reads' HO_10.out).2.2 a2 p183 q183
                            (try rw [← Nbq57.out] at hx183_0)
                            cases e183
                            replace p183 := eq_true p183
                            replace q183 := eq_true q183
                            go_wp2
                            go_ret2
                            exact ⟨by first | rfl | (simp [errW_none, errW_some] <;> rfl) | (simp [*, errW_none, errW_some] <;> rfl), by repeat (first | (with_reducible first | exact HB.out | apply below_alloc | apply pw_below_drewN | apply below_drew1 | refine below_set ?_ GE171.out) | exact HB.out)⟩
                          · replace c58 := Bool.eq_false_iff.mpr c58
                            subst c58
                            have H1 : (if 0 ≤ (x10_3.length : Int) then (if ((x10_3.length : Int) : Int).toNat ≤ 281474976710656 then (spec_Quickest.l1 k3 a2 a3 x10_3 x11_3 (List.replicate ((x10_3.length : Int) : Int).toNat false) 0 a0_0 a0_1 l0_2 l0_3) else (none)) else (none)) = some (r1, r2) := by rw [if_neg (show ¬ (false = true) by decide)] at H; exact H
                            clear H
                            have H := H1
                            clear H1
                            by_cases c60 : 0 ≤ (x10_3.length : Int)
                            · rw [if_pos c60] at H
                              have c60b0 := eq_true c60
                              have c60b1 : decide (0 ≤ (x10_3.length : Int)) = true := decide_eq_true c60
                              clear c60
                              by_cases c61 : ((x10_3.length : Int) : Int).toNat ≤ 281474976710656
                              · rw [if_pos c61] at H
                                have c61b0 := eq_true c61
                                have c61b1 : decide (((x10_3.length : Int) : Int).toNat ≤ 281474976710656) = true := decide_eq_true c61
                                clear c61
                                obtain ⟨y184, hy184⟩ : ∃ y_ : List Bool, y_ = (List.replicate ((x10_3.length : Int) : Int).toNat false) := ⟨_, rfl⟩
                                replace H : (spec_Quickest.l1 k3 a2 a3 x10_3 x11_3 y184 0 a0_0 a0_1 l0_2 l0_3) = some (r1, r2) := by first | (rw [hy184]; with_reducible exact H) | (have H2_ := (Option.bind_some _ _).symm.trans H; rw [hy184]; with_reducible exact H2_) | (have H2_ := (Option.bind_some _ _).symm.trans H; with_reducible exact H2_) | with_reducible exact H | (rw [hy184]; exact H) | exact H
                                have Ny184 := Aside0.mk hy184
                                clear hy184
                                have H' := Aside0.mk H
                                clear H
                                obtain ⟨Ao62, co62, eo62⟩ := Kd.R_slice HO_10.out
                                subst eo62
                                have p183 : 0 ≤ (a2 : Int) := of_decide_eq_true (by first | (with_reducible assumption) | assumption)
                                have q183 : a2 < (x10_3.length : Int) := of_decide_eq_true (by first | (with_reducible assumption) | assumption)
                                obtain ⟨ad183, e183, hx183_0⟩ := Kd.at_bool (Kd.R_reads' HO_10.out).2.2 a2 p183 q183
                                (try rw [← Nbq57.out] at hx183_0)
                                cases e183
                                replace p183 := eq_true p183
                                replace q183 := eq_true q183
                                go_wp2_with (first | ((with_reducible refine gate_dst (N := 66) rfl ?_); refine Kd.R_make Kd.bool _ 4 rfl (N := 66) rfl 40 _ _ rfl (x10_3.length : Int) rfl rfl Try.underlying40 (.bool false) 1 info4 rfl (by decide) (by omega) false (ok := fun _ => True) (okp := fun _ => True) rfl (fun _ hk => hk) trivial (of_decide_eq_true (by first | (with_reducible assumption) | assumption)) (Nat.le_trans (Nat.mul_le_mul_right _ (of_decide_eq_true (by first | (with_reducible assumption) | assumption) : (x10_3.length : Int).toNat ≤ 281474976710656)) (by omega)) (Below.refl _ _) (Nat.le_refl _) ?_; intro v185 w63 ho64 hb hg_ hnew_; clear hg_ hnew_; (first | rw [← Ny184.out] at ho64 | (simp only [Int.reduceToNat] at ho64; rw [← Ny184.out] at ho64)); have n0_ := Aside0.mk (Kd.R_elder' (by (with_reducible repeat (first | apply Kd.R_alloc | apply Kd.R_drewN | apply Kd.R_drew)); exact HO_10.out) (Kd.R_base ho64) hb); have n1_ := Aside0.mk (Kd.R_lower (Kd.R_new' ho64 (Kd.R_lt (by (with_reducible repeat (first | apply Kd.R_alloc | apply Kd.R_drewN | apply Kd.R_drew)); exact HO_10.out))) (below_size (by repeat (first | (with_reducible first | exact HB.out | apply below_alloc | apply pw_below_drewN | apply below_drew1 | refine below_set ?_ GE171.out) | exact HB.out)))); have n2_ := Aside0.mk (blk_below (g := gb171) (o := .cells #[.int .i64 a0_0, .int .i64 a0_1, .slice A0_2 l0_2.length c0_2, .slice A0_3 l0_3.length c0_3] 31 (0, 0)) (by (with_reducible repeat (first | refine blk_drewN ?_ _ | refine blk_drew ?_ | refine blk_alloc ?_ _)); exact BK171.out) hb); have n3_ := Aside0.mk (below_step (by repeat (first | (with_reducible first | exact HB.out | apply below_alloc | apply pw_below_drewN | apply below_drew1 | refine below_set ?_ GE171.out) | exact HB.out)) hb); clear HO_10; clear BK171; clear HB; have HO_10 := n0_; have HO186 := n1_; have BK171 := n2_; have HB := n3_; clear n0_ n1_ n2_ n3_; clear hb ho64))
                                go_loopg [13] k3 (fun kq v13 w' => ∃ (x12_4 : List Bool) (x13_4 : Int), v13 = .int .i64 x13_4 ∧ Aside0 (spec_Quickest.l1 kq a2 a3 x10_3 x11_3 x12_4 x13_4 a0_0 a0_1 l0_2 l0_3 = some (r1, r2)) ∧ Aside0 (kq ≤ k3) ∧ Aside0 (Kd.R Kd.bool 4 w' w.heap.size (fun k_ => some k_ ≠ (v185 : Value).ownBlock) (.slice (some ad183) x10_3.length co62) x10_3) ∧ Aside0 (Kd.R Kd.bool 4 w' w.heap.size (fun k_ => some k_ ≠ ((.slice (some ad183) x10_3.length co62) : Value).ownBlock) v185 x12_4) ∧ Aside0 (w'.heap[gb171]? = some (.cells #[.int .i64 a0_0, .int .i64 a0_1, (.slice A0_2 l0_2.length c0_2), (.slice A0_3 l0_3.length c0_3)] 31 (0, 0))) ∧ Aside0 (Below w.heap.size w w'))
                                case atStart => exact ⟨(y184), (0), (by first | rfl | (simp; done) | (simp [*]; done)), H', ⟨Nat.le_refl _⟩, ⟨by (with_reducible repeat (first | apply Kd.R_alloc | apply Kd.R_drewN | apply Kd.R_drew)); exact Kd.R_mono HO_10.out (fun _ hk => hk.2)⟩, ⟨by (with_reducible repeat (first | apply Kd.R_alloc | apply Kd.R_drewN | apply Kd.R_drew)); exact Kd.R_mono HO186.out (fun _ hk => hk.2)⟩, ⟨by (with_reducible repeat (first | refine blk_drewN ?_ _ | refine blk_drew ?_ | refine blk_alloc ?_ _)); exact BK171.out⟩, ⟨by repeat (first | (with_reducible first | exact HB.out | apply below_alloc | apply pw_below_drewN | apply below_drew1 | refine below_set ?_ GE171.out) | exact HB.out)⟩⟩
                                case round =>
                                  clear H'
                                  try clear c1
                                  try clear p1
                                  try clear q1
                                  try clear hx1
                                  try clear p2
                                  try clear c3
                                  try clear c4
                                  try clear p4
                                  try clear q4
                                  try clear hx4
                                  try clear hf4
                                  try clear c5
                                  try clear p5
                                  try clear q5
                                  try clear hx5
                                  try clear hf5
                                  try clear c6
                                  try clear c8
                                  try clear c10
                                  try clear c11
                                  try clear c12
                                  try clear p17
                                  try clear q17
                                  try clear hx17
                                  try clear p18
                                  try clear q18
                                  try clear hx18
                                  try clear c32
                                  try clear c33
                                  try clear c33b0
                                  try clear c33b1
                                  try clear c34
                                  try clear c34b0
                                  try clear c34b1
                                  try clear c39
                                  try clear c39b0
                                  try clear c40
                                  try clear c40b0
                                  try clear c41
                                  try clear c41b0
                                  try clear c43
                                  try clear c43b0
                                  try clear p44
                                  try clear q44
                                  try clear hx44
                                  try clear hf44
                                  try clear c49
                                  try clear c49b0
                                  try clear p50
                                  try clear q50
                                  try clear hx50
                                  try clear hf50
                                  try clear c54
                                  try clear c54b0
                                  try clear c55
                                  try clear c55b0
                                  try clear c56
                                  try clear c56b0
                                  try clear q57
                                  try clear c58
                                  try clear c60
                                  try clear c60b0
                                  try clear c60b1
                                  try clear c61
                                  try clear c61b0
                                  try clear c61b1
                                  try clear hcz14_0
                                  try clear hcz14_1
                                  try clear hcz14_2
                                  try clear hcz14_3
                                  try clear hcz16_0
                                  try clear hcz16_1
                                  try clear hcz16_2
                                  try clear hcz16_3
                                  try clear hcz18_0
                                  try clear hcz18_1
                                  try clear hcz18_2
                                  try clear hcz18_3
                                  try clear hcz20_0
                                  try clear hcz20_1
                                  try clear hcz20_2
                                  try clear hcz20_3
                                  try clear hcz22_0
                                  try clear hcz22_1
                                  try clear hcz22_2
                                  try clear hcz22_3
                                  try clear hcz24_0
                                  try clear hcz24_1
                                  try clear hcz24_2
                                  try clear hcz24_3
                                  try clear hcz26_0
                                  try clear hcz26_1
                                  try clear hcz26_2
                                  try clear hcz26_3
                                  try clear hcz28_0
                                  try clear hcz28_1
                                  try clear hcz28_2
                                  try clear hcz28_3
                                  try clear hcz30_0
                                  try clear hcz30_1
                                  try clear hcz30_2
                                  try clear hcz30_3
                                  try clear hcz36_0
                                  try clear hcz36_1
                                  try clear hcz36_2
                                  try clear hcz36_3
                                  try clear hcz45_0
                                  try clear hcz45_1
                                  try clear hcz45_2
                                  try clear hcz45_3
                                  try clear hcz51_0
                                  try clear hcz51_1
                                  try clear hcz51_2
                                  try clear hcz51_3
                                  try clear hfz14_0
                                  try clear hfz14_1
                                  try clear hfz14_2
                                  try clear hfz14_3
                                  try clear hfz16_0
                                  try clear hfz16_1
                                  try clear hfz16_2
                                  try clear hfz16_3
                                  try clear hfz18_0
                                  try clear hfz18_1
                                  try clear hfz18_2
                                  try clear hfz18_3
                                  try clear hfz20_0
                                  try clear hfz20_1
                                  try clear hfz20_2
                                  try clear hfz20_3
                                  try clear hfz22_0
                                  try clear hfz22_1
                                  try clear hfz22_2
                                  try clear hfz22_3
                                  try clear hfz24_0
                                  try clear hfz24_1
                                  try clear hfz24_2
                                  try clear hfz24_3
                                  try clear hfz26_0
                                  try clear hfz26_1
                                  try clear hfz26_2
                                  try clear hfz26_3
                                  try clear hfz28_0
                                  try clear hfz28_1
                                  try clear hfz28_2
                                  try clear hfz28_3
                                  try clear hfz30_0
                                  try clear hfz30_1
                                  try clear hfz30_2
                                  try clear hfz30_3
                                  try clear hfz36_0
                                  try clear hfz36_1
                                  try clear hfz36_2
                                  try clear hfz36_3
                                  try clear hfz45_0
                                  try clear hfz45_1
                                  try clear hfz45_2
                                  try clear hfz45_3
                                  try clear hfz51_0
                                  try clear hfz51_1
                                  try clear hfz51_2
                                  try clear hfz51_3
                                  try clear hx179_0
                                  try clear hx183_0
                                  try clear hx44_0
                                  try clear hx50_0
                                  try clear p1
                                  try clear p17
                                  try clear p179
                                  try clear p183
                                  try clear p2
                                  try clear p4
                                  try clear p44
                                  try clear p5
                                  try clear p50
                                  try clear q1
                                  try clear q17
                                  try clear q179
                                  try clear q183
                                  try clear q4
                                  try clear q44
                                  try clear q5
                                  try clear q50
                                  obtain ⟨x12_4, x13_4, rfl, HA, HK4, HO_10, HO_12, BK171, HB⟩ := hrel
                                  cases gk with
                                  | zero => exact absurd HA.out (by simp [spec_Quickest.l1])
                                  | succ k4 =>
                                    have H := HA.out
                                    clear HA
                                    simp only [spec_Quickest.l1] at H
                                    by_cases c65 : x13_4 < (x10_3.length : Int)
                                    · rw [if_pos c65] at H
                                      have c65b0 : decide (x13_4 < (x10_3.length : Int)) = true := decide_eq_true c65
                                      clear c65
                                      have H' := Aside0.mk H
                                      clear H
                                      go_wp2
                                      go_loopg [14] k4 (fun kq v14 w' => ∃ (x12_5 : List Bool) (x14_5 : Int), v14 = .int .i64 x14_5 ∧ Aside0 (spec_Quickest.l2 kq a2 a3 x10_3 x11_3 x12_5 x13_4 x14_5 a0_0 a0_1 l0_2 l0_3 = some (r1, r2)) ∧ Aside0 (kq ≤ k4) ∧ Aside0 (Kd.R Kd.bool 4 w' w.heap.size (fun k_ => some k_ ≠ (v185 : Value).ownBlock) (.slice (some ad183) x10_3.length co62) x10_3) ∧ Aside0 (Kd.R Kd.bool 4 w' w.heap.size (fun k_ => some k_ ≠ ((.slice (some ad183) x10_3.length co62) : Value).ownBlock) v185 x12_5) ∧ Aside0 (w'.heap[gb171]? = some (.cells #[.int .i64 a0_0, .int .i64 a0_1, (.slice A0_2 l0_2.length c0_2), (.slice A0_3 l0_3.length c0_3)] 31 (0, 0))) ∧ Aside0 (Below w.heap.size w w'))
                                      case atStart => exact ⟨(x12_4), (0), (by first | rfl | (simp; done) | (simp [*]; done)), H', ⟨Nat.le_refl _⟩, ⟨by (with_reducible repeat (first | apply Kd.R_alloc | apply Kd.R_drewN | apply Kd.R_drew)); exact HO_10.out⟩, ⟨by (with_reducible repeat (first | apply Kd.R_alloc | apply Kd.R_drewN | apply Kd.R_drew)); exact HO_12.out⟩, ⟨by (with_reducible repeat (first | refine blk_drewN ?_ _ | refine blk_drew ?_ | refine blk_alloc ?_ _)); exact BK171.out⟩, ⟨by repeat (first | (with_reducible first | exact HB.out | apply below_alloc | apply pw_below_drewN | apply below_drew1 | refine below_set ?_ GE171.out) | exact HB.out)⟩⟩
                                      case round =>
                                        clear H'
                                        try clear c1
                                        try clear p1
                                        try clear q1
                                        try clear hx1
                                        try clear p2
                                        try clear c3
                                        try clear c4
                                        try clear p4
                                        try clear q4
                                        try clear hx4
                                        try clear hf4
                                        try clear c5
                                        try clear p5
                                        try clear q5
                                        try clear hx5
                                        try clear hf5
                                        try clear c6
                                        try clear c8
                                        try clear c10
                                        try clear c11
                                        try clear c12
                                        try clear p17
                                        try clear q17
                                        try clear hx17
                                        try clear p18
                                        try clear q18
                                        try clear hx18
                                        try clear c32
                                        try clear c33
                                        try clear c33b0
                                        try clear c33b1
                                        try clear c34
                                        try clear c34b0
                                        try clear c34b1
                                        try clear c39
                                        try clear c39b0
                                        try clear c40
                                        try clear c40b0
                                        try clear c41
                                        try clear c41b0
                                        try clear c43
                                        try clear c43b0
                                        try clear p44
                                        try clear q44
                                        try clear hx44
                                        try clear hf44
                                        try clear c49
                                        try clear c49b0
                                        try clear p50
                                        try clear q50
                                        try clear hx50
                                        try clear hf50
                                        try clear c54
                                        try clear c54b0
                                        try clear c55
                                        try clear c55b0
                                        try clear c56
                                        try clear c56b0
                                        try clear q57
                                        try clear c58
                                        try clear c60
                                        try clear c60b0
                                        try clear c60b1
                                        try clear c61
                                        try clear c61b0
                                        try clear c61b1
                                        try clear c65
                                        try clear c65b0
                                        try clear hcz14_0
                                        try clear hcz14_1
                                        try clear hcz14_2
                                        try clear hcz14_3
                                        try clear hcz16_0
                                        try clear hcz16_1
                                        try clear hcz16_2
                                        try clear hcz16_3
                                        try clear hcz18_0
                                        try clear hcz18_1
                                        try clear hcz18_2
                                        try clear hcz18_3
                                        try clear hcz20_0
                                        try clear hcz20_1
                                        try clear hcz20_2
                                        try clear hcz20_3
                                        try clear hcz22_0
                                        try clear hcz22_1
                                        try clear hcz22_2
                                        try clear hcz22_3
                                        try clear hcz24_0
                                        try clear hcz24_1
                                        try clear hcz24_2
                                        try clear hcz24_3
                                        try clear hcz26_0
                                        try clear hcz26_1
                                        try clear hcz26_2
                                        try clear hcz26_3
                                        try clear hcz28_0
                                        try clear hcz28_1
                                        try clear hcz28_2
                                        try clear hcz28_3
                                        try clear hcz30_0
                                        try clear hcz30_1
                                        try clear hcz30_2
                                        try clear hcz30_3
                                        try clear hcz36_0
                                        try clear hcz36_1
                                        try clear hcz36_2
                                        try clear hcz36_3
                                        try clear hcz45_0
                                        try clear hcz45_1
                                        try clear hcz45_2
                                        try clear hcz45_3
                                        try clear hcz51_0
                                        try clear hcz51_1
                                        try clear hcz51_2
                                        try clear hcz51_3
                                        try clear hfz14_0
                                        try clear hfz14_1
                                        try clear hfz14_2
                                        try clear hfz14_3
                                        try clear hfz16_0
                                        try clear hfz16_1
                                        try clear hfz16_2
                                        try clear hfz16_3
                                        try clear hfz18_0
                                        try clear hfz18_1
                                        try clear hfz18_2
                                        try clear hfz18_3
                                        try clear hfz20_0
                                        try clear hfz20_1
                                        try clear hfz20_2
                                        try clear hfz20_3
                                        try clear hfz22_0
                                        try clear hfz22_1
                                        try clear hfz22_2
                                        try clear hfz22_3
                                        try clear hfz24_0
                                        try clear hfz24_1
                                        try clear hfz24_2
                                        try clear hfz24_3
                                        try clear hfz26_0
                                        try clear hfz26_1
                                        try clear hfz26_2
                                        try clear hfz26_3
                                        try clear hfz28_0
                                        try clear hfz28_1
                                        try clear hfz28_2
                                        try clear hfz28_3
                                        try clear hfz30_0
                                        try clear hfz30_1
                                        try clear hfz30_2
                                        try clear hfz30_3
                                        try clear hfz36_0
                                        try clear hfz36_1
                                        try clear hfz36_2
                                        try clear hfz36_3
                                        try clear hfz45_0
                                        try clear hfz45_1
                                        try clear hfz45_2
                                        try clear hfz45_3
                                        try clear hfz51_0
                                        try clear hfz51_1
                                        try clear hfz51_2
                                        try clear hfz51_3
                                        try clear hx179_0
                                        try clear hx183_0
                                        try clear hx44_0
                                        try clear hx50_0
                                        try clear p1
                                        try clear p17
                                        try clear p179
                                        try clear p18
                                        try clear p183
                                        try clear p2
                                        try clear p4
                                        try clear p44
                                        try clear p5
                                        try clear p50
                                        try clear q1
                                        try clear q17
                                        try clear q179
                                        try clear q18
                                        try clear q183
                                        try clear q4
                                        try clear q44
                                        try clear q5
                                        try clear q50
                                        try clear q57
                                        obtain ⟨x12_5, x14_5, rfl, HA, HK5, HO_10, HO_12, BK171, HB⟩ := hrel
                                        cases gk with
                                        | zero => exact absurd HA.out (by simp [spec_Quickest.l2])
                                        | succ k5 =>
                                          have H := HA.out
                                          clear HA
                                          simp only [spec_Quickest.l2] at H
                                          have HC66 := Aside0.mk H
                                          clear H
                                          go_upto_region 15 with (fail)
                                          go_cut [82] (fun v82 wc => ∃ (kq : Nat) (x82_65 : Bool), v82 = .bool x82_65 ∧ Aside0 (spec_Quickest.j5 kq a2 a3 x10_3 x11_3 x12_5 x13_4 x14_5 x82_65 a0_0 a0_1 l0_2 l0_3 = some (r1, r2)) ∧ Aside0 (kq ≤ k5) ∧ Aside0 (Kd.R Kd.bool 4 wc w.heap.size (fun k_ => some k_ ≠ (v185 : Value).ownBlock) (.slice (some ad183) x10_3.length co62) x10_3) ∧ Aside0 (Kd.R Kd.bool 4 wc w.heap.size (fun k_ => some k_ ≠ ((.slice (some ad183) x10_3.length co62) : Value).ownBlock) v185 x12_5) ∧ Aside0 (wc.heap[gb171]? = some (.cells #[.int .i64 a0_0, .int .i64 a0_1, (.slice A0_2 l0_2.length c0_2), (.slice A0_3 l0_3.length c0_3)] 31 (0, 0))) ∧ Aside0 (Below w.heap.size w wc))
                                          case first =>
                                            have H := HC66.out
                                            clear HC66
                                            by_cases c67 : x14_5 < (x10_3.length : Int)
                                            · rw [if_pos c67] at H
                                              have c67b0 : decide (x14_5 < (x10_3.length : Int)) = true := decide_eq_true c67
                                              clear c67
                                              (first | rw [c67b0] | (simp only [i64_w, i32_w]; rw [c67b0]) | skip)
                                              by_cases c68 : 0 ≤ x13_4
                                              · rw [if_pos c68] at H
                                                have c68b0 : decide (0 ≤ x13_4) = true := decide_eq_true c68
                                                clear c68
                                                by_cases c69 : x13_4 < (x10_3.length : Int)
                                                · rw [if_pos c69] at H
                                                  have c69b0 : decide (x13_4 < (x10_3.length : Int)) = true := decide_eq_true c69
                                                  clear c69
                                                  have H' := Aside0.mk H
                                                  clear H
                                                  have p187 : 0 ≤ (x13_4 : Int) := of_decide_eq_true (by first | (with_reducible assumption) | assumption)
                                                  have q187 : x13_4 < (x10_3.length : Int) := of_decide_eq_true (by first | (with_reducible assumption) | assumption)
                                                  obtain ⟨ad187, e187, hx187_0⟩ := Kd.at_bool (Kd.R_reads' HO_10.out).2.2 x13_4 p187 q187
                                                  (try rw [← Nbq57.out] at hx187_0)
                                                  obtain rfl : ad183 = ad187 := (by injection e187)
                                                  replace p187 := eq_true p187
                                                  replace q187 := eq_true q187
                                                  go_wp2
                                                  go_meet
                                                  case rel => exact ⟨_, (rdOf false x10_3 x13_4), (by first | rfl | (simp; done) | (simp [*]; done)), H', ⟨by have := HJ4.out; have := HJ34.out; have := HK3.out; have := HK4.out; have := HK5.out; first | omega | exact Nat.le_refl _⟩, ⟨by (with_reducible repeat (first | apply Kd.R_alloc | apply Kd.R_drewN | apply Kd.R_drew)); exact HO_10.out⟩, ⟨by (with_reducible repeat (first | apply Kd.R_alloc | apply Kd.R_drewN | apply Kd.R_drew)); exact HO_12.out⟩, ⟨by (with_reducible repeat (first | refine blk_drewN ?_ _ | refine blk_drew ?_ | refine blk_alloc ?_ _)); exact BK171.out⟩, ⟨by repeat (first | (with_reducible first | exact HB.out | apply below_alloc | apply pw_below_drewN | apply below_drew1 | refine below_set ?_ GE171.out) | exact HB.out)⟩⟩
                                                · rw [if_neg c69] at H
                                                  exact absurd H (by simp)
                                              · rw [if_neg c68] at H
                                                exact absurd H (by simp)
                                            · rw [if_neg c67] at H
                                              have c67b0 : decide (x14_5 < (x10_3.length : Int)) = false := decide_eq_false c67
                                              clear c67
                                              (first | rw [c67b0] | (simp only [i64_w, i32_w]; rw [c67b0]) | skip)
                                              have H' := Aside0.mk H
                                              clear H
                                              go_wp2
                                              go_meet
                                              case rel => exact ⟨_, (false), (by first | rfl | (simp; done) | (simp [*]; done)), H', ⟨by have := HJ4.out; have := HJ34.out; have := HK3.out; have := HK4.out; have := HK5.out; first | omega | exact Nat.le_refl _⟩, ⟨by (with_reducible repeat (first | apply Kd.R_alloc | apply Kd.R_drewN | apply Kd.R_drew)); exact HO_10.out⟩, ⟨by (with_reducible repeat (first | apply Kd.R_alloc | apply Kd.R_drewN | apply Kd.R_drew)); exact HO_12.out⟩, ⟨by (with_reducible repeat (first | refine blk_drewN ?_ _ | refine blk_drew ?_ | refine blk_alloc ?_ _)); exact BK171.out⟩, ⟨by repeat (first | (with_reducible first | exact HB.out | apply below_alloc | apply pw_below_drewN | apply below_drew1 | refine below_set ?_ GE171.out) | exact HB.out)⟩⟩
                                          case rest =>
                                            clear HC66
                                            try clear c1
                                            try clear p1
                                            try clear q1
                                            try clear hx1
                                            try clear p2
                                            try clear c3
                                            try clear c4
                                            try clear p4
                                            try clear q4
                                            try clear hx4
                                            try clear hf4
                                            try clear c5
                                            try clear p5
                                            try clear q5
                                            try clear hx5
                                            try clear hf5
                                            try clear c6
                                            try clear c8
                                            try clear c10
                                            try clear c11
                                            try clear c12
                                            try clear p17
                                            try clear q17
                                            try clear hx17
                                            try clear p18
                                            try clear q18
                                            try clear hx18
                                            try clear c32
                                            try clear c33
                                            try clear c33b0
                                            try clear c33b1
                                            try clear c34
                                            try clear c34b0
                                            try clear c34b1
                                            try clear c39
                                            try clear c39b0
                                            try clear c40
                                            try clear c40b0
                                            try clear c41
                                            try clear c41b0
                                            try clear c43
                                            try clear c43b0
                                            try clear p44
                                            try clear q44
                                            try clear hx44
                                            try clear hf44
                                            try clear c49
                                            try clear c49b0
                                            try clear p50
                                            try clear q50
                                            try clear hx50
                                            try clear hf50
                                            try clear c54
                                            try clear c54b0
                                            try clear c55
                                            try clear c55b0
                                            try clear c56
                                            try clear c56b0
                                            try clear q57
                                            try clear c58
                                            try clear c60
                                            try clear c60b0
                                            try clear c60b1
                                            try clear c61
                                            try clear c61b0
                                            try clear c61b1
                                            try clear c65
                                            try clear c65b0
                                            try clear c67
                                            try clear c67b0
                                            try clear c68
                                            try clear c68b0
                                            try clear c69
                                            try clear c69b0
                                            try clear hcz14_0
                                            try clear hcz14_1
                                            try clear hcz14_2
                                            try clear hcz14_3
                                            try clear hcz16_0
                                            try clear hcz16_1
                                            try clear hcz16_2
                                            try clear hcz16_3
                                            try clear hcz18_0
                                            try clear hcz18_1
                                            try clear hcz18_2
                                            try clear hcz18_3
                                            try clear hcz20_0
                                            try clear hcz20_1
                                            try clear hcz20_2
                                            try clear hcz20_3
                                            try clear hcz22_0
                                            try clear hcz22_1
                                            try clear hcz22_2
                                            try clear hcz22_3
                                            try clear hcz24_0
                                            try clear hcz24_1
                                            try clear hcz24_2
                                            try clear hcz24_3
                                            try clear hcz26_0
                                            try clear hcz26_1
                                            try clear hcz26_2
                                            try clear hcz26_3
                                            try clear hcz28_0
                                            try clear hcz28_1
                                            try clear hcz28_2
                                            try clear hcz28_3
                                            try clear hcz30_0
                                            try clear hcz30_1
                                            try clear hcz30_2
                                            try clear hcz30_3
                                            try clear hcz36_0
                                            try clear hcz36_1
                                            try clear hcz36_2
                                            try clear hcz36_3
                                            try clear hcz45_0
                                            try clear hcz45_1
                                            try clear hcz45_2
                                            try clear hcz45_3
                                            try clear hcz51_0
                                            try clear hcz51_1
                                            try clear hcz51_2
                                            try clear hcz51_3
                                            try clear hfz14_0
                                            try clear hfz14_1
                                            try clear hfz14_2
                                            try clear hfz14_3
                                            try clear hfz16_0
                                            try clear hfz16_1
                                            try clear hfz16_2
                                            try clear hfz16_3
                                            try clear hfz18_0
                                            try clear hfz18_1
                                            try clear hfz18_2
                                            try clear hfz18_3
                                            try clear hfz20_0
                                            try clear hfz20_1
                                            try clear hfz20_2
                                            try clear hfz20_3
                                            try clear hfz22_0
                                            try clear hfz22_1
                                            try clear hfz22_2
                                            try clear hfz22_3
                                            try clear hfz24_0
                                            try clear hfz24_1
                                            try clear hfz24_2
                                            try clear hfz24_3
                                            try clear hfz26_0
                                            try clear hfz26_1
                                            try clear hfz26_2
                                            try clear hfz26_3
                                            try clear hfz28_0
                                            try clear hfz28_1
                                            try clear hfz28_2
                                            try clear hfz28_3
                                            try clear hfz30_0
                                            try clear hfz30_1
                                            try clear hfz30_2
                                            try clear hfz30_3
                                            try clear hfz36_0
                                            try clear hfz36_1
                                            try clear hfz36_2
                                            try clear hfz36_3
                                            try clear hfz45_0
                                            try clear hfz45_1
                                            try clear hfz45_2
                                            try clear hfz45_3
                                            try clear hfz51_0
                                            try clear hfz51_1
                                            try clear hfz51_2
                                            try clear hfz51_3
                                            try clear hx179_0
                                            try clear hx183_0
                                            try clear hx187_0
                                            try clear hx44_0
                                            try clear hx50_0
                                            try clear p1
                                            try clear p17
                                            try clear p179
                                            try clear p18
                                            try clear p183
                                            try clear p187
                                            try clear p2
                                            try clear p4
                                            try clear p44
                                            try clear p5
                                            try clear p50
                                            try clear q1
                                            try clear q17
                                            try clear q179
                                            try clear q18
                                            try clear q183
                                            try clear q187
                                            try clear q4
                                            try clear q44
                                            try clear q5
                                            try clear q50
                                            try clear q57
                                            obtain ⟨kq, x82_65, rfl, HA, HJ65, HO_10, HO_12, BK171, HB⟩ := hcut
                                            cases kq with
                                            | zero => exact absurd HA.out (by simp [spec_Quickest.j5])
                                            | succ kj65 =>
                                              have H := HA.out
                                              clear HA
                                              simp only [spec_Quickest.j5] at H
                                              by_cases c70 : x82_65 = true
                                              · subst c70
                                                have H1 : (if x14_5 = x13_4 then (if 0 ≤ x14_5 then (if x14_5 < (l0_2.length : Int) then (if (rd l0_2 x14_5) > 0 then ((spec_l7Shut.f kj65 a0_0 a0_1 l0_2 l0_3 x14_5 (wrap64 (x11_3 + 1))).bind fun t189 => (if t189 = true then (spec_Quickest.l2 kj65 a2 a3 x10_3 x11_3 x12_5 x13_4 (wrap64 (x14_5 + 1)) a0_0 a0_1 l0_2 l0_3) else (if x14_5 < (x12_5.length : Int) then (spec_Quickest.l2 kj65 a2 a3 x10_3 x11_3 (x12_5.set (x14_5 : Int).toNat true) x13_4 (wrap64 (x14_5 + 1)) a0_0 a0_1 l0_2 l0_3) else (none)))) else (spec_Quickest.l2 kj65 a2 a3 x10_3 x11_3 x12_5 x13_4 (wrap64 (x14_5 + 1)) a0_0 a0_1 l0_2 l0_3)) else (none)) else (none)) else ((spec_l7Next.f a0_0 a0_1 l0_2 l0_3 x13_4 x14_5).bind fun t191 => (if t191 = true then (if 0 ≤ x14_5 then (if x14_5 < (l0_2.length : Int) then (if (rd l0_2 x14_5) > 0 then ((spec_l7Shut.f kj65 a0_0 a0_1 l0_2 l0_3 x14_5 (wrap64 (x11_3 + 1))).bind fun t193 => (if t193 = true then (spec_Quickest.l2 kj65 a2 a3 x10_3 x11_3 x12_5 x13_4 (wrap64 (x14_5 + 1)) a0_0 a0_1 l0_2 l0_3) else (if x14_5 < (x12_5.length : Int) then (spec_Quickest.l2 kj65 a2 a3 x10_3 x11_3 (x12_5.set (x14_5 : Int).toNat true) x13_4 (wrap64 (x14_5 + 1)) a0_0 a0_1 l0_2 l0_3) else (none)))) else (spec_Quickest.l2 kj65 a2 a3 x10_3 x11_3 x12_5 x13_4 (wrap64 (x14_5 + 1)) a0_0 a0_1 l0_2 l0_3)) else (none)) else (none)) else (spec_Quickest.l2 kj65 a2 a3 x10_3 x11_3 x12_5 x13_4 (wrap64 (x14_5 + 1)) a0_0 a0_1 l0_2 l0_3)))) = some (r1, r2) := by rw [if_pos rfl] at H; exact H
                                                clear H
                                                have H := H1
                                                clear H1
                                                by_cases c71 : x14_5 = x13_4
                                                · rw [if_pos c71] at H
                                                  have c71b0 : (x14_5 == x13_4) = true := beq_iff_eq.mpr c71
                                                  have c71b1 : (x14_5 != x13_4) = false := bne_eq_false_iff_eq.mpr c71
                                                  clear c71
                                                  by_cases c72 : 0 ≤ x14_5
                                                  · rw [if_pos c72] at H
                                                    have c72b0 : decide (0 ≤ x14_5) = true := decide_eq_true c72
                                                    clear c72
                                                    by_cases c73 : x14_5 < (l0_2.length : Int)
                                                    · rw [if_pos c73] at H
                                                      have c73b0 : decide (x14_5 < (l0_2.length : Int)) = true := decide_eq_true c73
                                                      clear c73
                                                      by_cases c74 : (rd l0_2 x14_5) > 0
                                                      · rw [if_pos c74] at H
                                                        have c74b0 : decide (0 < (rd l0_2 x14_5)) = true := decide_eq_true c74
                                                        clear c74
                                                        replace H := Option.bind_eq_some_iff.mp H
                                                        obtain ⟨t189, A750, H⟩ := H
                                                        replace H : (if t189 = true then (spec_Quickest.l2 kj65 a2 a3 x10_3 x11_3 x12_5 x13_4 (wrap64 (x14_5 + 1)) a0_0 a0_1 l0_2 l0_3) else (if x14_5 < (x12_5.length : Int) then (spec_Quickest.l2 kj65 a2 a3 x10_3 x11_3 (x12_5.set (x14_5 : Int).toNat true) x13_4 (wrap64 (x14_5 + 1)) a0_0 a0_1 l0_2 l0_3) else (none))) = some (r1, r2) := H
                                                        have A75 := Aside0.mk A750
                                                        clear A750
                                                        by_cases c76 : t189 = true
                                                        · subst c76
                                                          have H1 : (spec_Quickest.l2 kj65 a2 a3 x10_3 x11_3 x12_5 x13_4 (wrap64 (x14_5 + 1)) a0_0 a0_1 l0_2 l0_3) = some (r1, r2) := by rw [if_pos rfl] at H; exact H
                                                          clear H
                                                          have H := H1
                                                          clear H1
                                                          have H' := Aside0.mk H
                                                          clear H
                                                          have hcz77_0 : wc.cell? ⟨gb171, 0, none⟩ = some (.int .i64 a0_0) := (blk_cell BK171.out 0).trans rfl
                                                          have hcz77_1 : wc.cell? ⟨gb171, 1, none⟩ = some (.int .i64 a0_1) := (blk_cell BK171.out 1).trans rfl
                                                          have hcz77_2 : wc.cell? ⟨gb171, 2, none⟩ = some (.slice A0_2 l0_2.length c0_2) := (blk_cell BK171.out 2).trans rfl
                                                          have hcz77_3 : wc.cell? ⟨gb171, 3, none⟩ = some (.slice A0_3 l0_3.length c0_3) := (blk_cell BK171.out 3).trans rfl
                                                          have hfz77_0 := blk_frozen BK171.out 0
                                                          have hfz77_1 := blk_frozen BK171.out 1
                                                          have hfz77_2 := blk_frozen BK171.out 2
                                                          have hfz77_3 := blk_frozen BK171.out 3
                                                          have p188 : 0 ≤ (x14_5 : Int) := of_decide_eq_true (by first | (with_reducible assumption) | assumption)
                                                          have q188 : x14_5 < (l0_2.length : Int) := of_decide_eq_true (by first | (with_reducible assumption) | assumption)
                                                          obtain ⟨ad188, e188, hx188_0⟩ := Kd.at_int HR0_2.out x14_5 p188 q188
                                                          cases e188
                                                          replace hx188_0 := (HB.out.cell (World.block_lt_of_cell? w _ hx188_0)).trans hx188_0
                                                          replace p188 := eq_true p188
                                                          replace q188 := eq_true q188
                                                          go_wp2_with (first | (go_at_call 14; (with_reducible refine (spec_l7Shut.calls kj65 a0_0 a0_1 _ _ l0_2 _ _ l0_3 x14_5 (wrap64 (x11_3 + 1)) true _ ?side1 ?side2 ?side3 ?side4 A75.out).mono ?_); (case side1 => repeat (first | exact (Kd.C_below HR0_2.out HB.out) | (with_reducible refine Kd.C_alloc ?_ _) | (with_reducible refine Kd.C_drewN ?_ _) | (with_reducible refine Kd.C_drew ?_))); (case side2 => exact HC0_2.out); (case side3 => repeat (first | exact (Kd.C_below HR0_3.out HB.out) | (with_reducible refine Kd.C_alloc ?_ _) | (with_reducible refine Kd.C_drewN ?_ _) | (with_reducible refine Kd.C_drew ?_))); (case side4 => exact HC0_3.out); rintro e w78 ⟨rfl, hb⟩; have n0_ := Aside0.mk (Kd.R_below (by (with_reducible repeat (first | apply Kd.R_alloc | apply Kd.R_drewN | apply Kd.R_drew)); exact HO_10.out) hb); have n1_ := Aside0.mk (Kd.R_below (by (with_reducible repeat (first | apply Kd.R_alloc | apply Kd.R_drewN | apply Kd.R_drew)); exact HO_12.out) hb); have n2_ := Aside0.mk (blk_below (g := gb171) (o := .cells #[.int .i64 a0_0, .int .i64 a0_1, .slice (some ad188) l0_2.length c0_2, .slice A0_3 l0_3.length c0_3] 31 (0, 0)) (by (with_reducible repeat (first | refine blk_drewN ?_ _ | refine blk_drew ?_ | refine blk_alloc ?_ _)); exact BK171.out) hb); have n3_ := Aside0.mk (below_step (by repeat (first | (with_reducible first | exact HB.out | apply below_alloc | apply pw_below_drewN | apply below_drew1 | refine below_set ?_ GE171.out) | exact HB.out)) hb); clear HO_10; clear HO_12; clear BK171; clear HB; have HO_10 := n0_; have HO_12 := n1_; have BK171 := n2_; have HB := n3_; clear n0_ n1_ n2_ n3_; (try clear hb); (try clear hb2); (try clear hk); (try clear hi)))
                                                          go_roundg kj65
                                                          case measure => have := HJ4.out; have := HJ34.out; have := HK3.out; have := HK4.out; have := HK5.out; have := HJ65.out; omega
                                                          case rel => exact ⟨(x12_5), (wrap64 (x14_5 + 1)), (by first | rfl | (simp; done) | (simp [*]; done)), H', ⟨by have := HJ4.out; have := HJ34.out; have := HK3.out; have := HK4.out; have := HK5.out; have := HJ65.out; omega⟩, ⟨by (with_reducible repeat (first | apply Kd.R_alloc | apply Kd.R_drewN | apply Kd.R_drew)); exact HO_10.out⟩, ⟨by (with_reducible repeat (first | apply Kd.R_alloc | apply Kd.R_drewN | apply Kd.R_drew)); exact HO_12.out⟩, ⟨by (with_reducible repeat (first | refine blk_drewN ?_ _ | refine blk_drew ?_ | refine blk_alloc ?_ _)); exact BK171.out⟩, ⟨by repeat (first | (with_reducible first | exact HB.out | apply below_alloc | apply pw_below_drewN | apply below_drew1 | refine below_set ?_ GE171.out) | exact HB.out)⟩⟩
                                                        · replace c76 := Bool.eq_false_iff.mpr c76
                                                          subst c76
                                                          have H1 : (if x14_5 < (x12_5.length : Int) then (spec_Quickest.l2 kj65 a2 a3 x10_3 x11_3 (x12_5.set (x14_5 : Int).toNat true) x13_4 (wrap64 (x14_5 + 1)) a0_0 a0_1 l0_2 l0_3) else (none)) = some (r1, r2) := by rw [if_neg (show ¬ (false = true) by decide)] at H; exact H
                                                          clear H
                                                          have H := H1
                                                          clear H1
                                                          by_cases c79 : x14_5 < (x12_5.length : Int)
                                                          · rw [if_pos c79] at H
                                                            have c79b0 : decide (x14_5 < (x12_5.length : Int)) = true := decide_eq_true c79
                                                            clear c79
                                                            obtain ⟨y190, hy190⟩ : ∃ y_ : List Bool, y_ = (x12_5.set (x14_5 : Int).toNat true) := ⟨_, rfl⟩
                                                            replace H : (spec_Quickest.l2 kj65 a2 a3 x10_3 x11_3 y190 x13_4 (wrap64 (x14_5 + 1)) a0_0 a0_1 l0_2 l0_3) = some (r1, r2) := by first | (rw [hy190]; with_reducible exact H) | (have H2_ := (Option.bind_some _ _).symm.trans H; rw [hy190]; with_reducible exact H2_) | (have H2_ := (Option.bind_some _ _).symm.trans H; with_reducible exact H2_) | with_reducible exact H | (rw [hy190]; exact H) | exact H
                                                            have Ny190 := Aside0.mk hy190
                                                            clear hy190
                                                            have H' := Aside0.mk H
                                                            clear H
                                                            have hcz81_0 : wc.cell? ⟨gb171, 0, none⟩ = some (.int .i64 a0_0) := (blk_cell BK171.out 0).trans rfl
                                                            have hcz81_1 : wc.cell? ⟨gb171, 1, none⟩ = some (.int .i64 a0_1) := (blk_cell BK171.out 1).trans rfl
                                                            have hcz81_2 : wc.cell? ⟨gb171, 2, none⟩ = some (.slice A0_2 l0_2.length c0_2) := (blk_cell BK171.out 2).trans rfl
                                                            have hcz81_3 : wc.cell? ⟨gb171, 3, none⟩ = some (.slice A0_3 l0_3.length c0_3) := (blk_cell BK171.out 3).trans rfl
                                                            have hfz81_0 := blk_frozen BK171.out 0
                                                            have hfz81_1 := blk_frozen BK171.out 1
                                                            have hfz81_2 := blk_frozen BK171.out 2
                                                            have hfz81_3 := blk_frozen BK171.out 3
                                                            have p188 : 0 ≤ (x14_5 : Int) := of_decide_eq_true (by first | (with_reducible assumption) | assumption)
                                                            have q188 : x14_5 < (l0_2.length : Int) := of_decide_eq_true (by first | (with_reducible assumption) | assumption)
                                                            obtain ⟨ad188, e188, hx188_0⟩ := Kd.at_int HR0_2.out x14_5 p188 q188
                                                            cases e188
                                                            replace hx188_0 := (HB.out.cell (World.block_lt_of_cell? w _ hx188_0)).trans hx188_0
                                                            replace p188 := eq_true p188
                                                            replace q188 := eq_true q188
                                                            go_wp2_with (first | (go_at_call 14; (with_reducible refine (spec_l7Shut.calls kj65 a0_0 a0_1 _ _ l0_2 _ _ l0_3 x14_5 (wrap64 (x11_3 + 1)) false _ ?side1 ?side2 ?side3 ?side4 A75.out).mono ?_); (case side1 => repeat (first | exact (Kd.C_below HR0_2.out HB.out) | (with_reducible refine Kd.C_alloc ?_ _) | (with_reducible refine Kd.C_drewN ?_ _) | (with_reducible refine Kd.C_drew ?_))); (case side2 => exact HC0_2.out); (case side3 => repeat (first | exact (Kd.C_below HR0_3.out HB.out) | (with_reducible refine Kd.C_alloc ?_ _) | (with_reducible refine Kd.C_drewN ?_ _) | (with_reducible refine Kd.C_drew ?_))); (case side4 => exact HC0_3.out); rintro e w82 ⟨rfl, hb⟩; have n0_ := Aside0.mk (Kd.R_below (by (with_reducible repeat (first | apply Kd.R_alloc | apply Kd.R_drewN | apply Kd.R_drew)); exact HO_10.out) hb); have n1_ := Aside0.mk (Kd.R_below (by (with_reducible repeat (first | apply Kd.R_alloc | apply Kd.R_drewN | apply Kd.R_drew)); exact HO_12.out) hb); have n2_ := Aside0.mk (blk_below (g := gb171) (o := .cells #[.int .i64 a0_0, .int .i64 a0_1, .slice (some ad188) l0_2.length c0_2, .slice A0_3 l0_3.length c0_3] 31 (0, 0)) (by (with_reducible repeat (first | refine blk_drewN ?_ _ | refine blk_drew ?_ | refine blk_alloc ?_ _)); exact BK171.out) hb); have n3_ := Aside0.mk (below_step (by repeat (first | (with_reducible first | exact HB.out | apply below_alloc | apply pw_below_drewN | apply below_drew1 | refine below_set ?_ GE171.out) | exact HB.out)) hb); clear HO_10; clear HO_12; clear BK171; clear HB; have HO_10 := n0_; have HO_12 := n1_; have BK171 := n2_; have HB := n3_; clear n0_ n1_ n2_ n3_; (try clear hb); (try clear hb2); (try clear hk); (try clear hi); have p80 : 0 ≤ (x14_5 : Int) := of_decide_eq_true (by first | (with_reducible assumption) | assumption); have q80 : (x14_5 : Int) < ((x12_5.length : Int) : Int) := of_decide_eq_true (by first | (with_reducible assumption) | assumption); obtain ⟨go80, co80, eo80, gb80, gl80, cl80, HG80⟩ := Kd.R_form HO_12.out (by omega); (first | cases eo80 | (injection eo80 with ea_ en_ ec_; (first | subst ea_ | (injection ea_ with ea_; subst ea_)); subst ec_; clear en_)); have GB80 := Aside0.mk gb80; have GG80 := Aside0.mk HG80; clear gb80 gl80 HG80; obtain ⟨hx80_0, hf80_0⟩ := Kd.R_celln false HO_12.out (x14_5 : Int) p80 q80; replace p80 := eq_true p80; replace q80 := eq_true q80; obtain ⟨hy83_, hz83_⟩ := Kd.R_celln false HO_12.out (x14_5 : Int) (of_decide_eq_true (by first | (with_reducible assumption) | assumption)) (of_decide_eq_true (by first | (with_reducible assumption) | assumption)); have HP83 := Kd.R_putg HO_12.out (x14_5 : Int) true) | ((with_reducible refine gate_store (t := 4) (p := 112) rfl ?_); refine store_event (t := 4) (p := 112) (v := ?vo_w84) (w1 := (w82.setCell ⟨go80, (x14_5 : Int).toNat, none⟩ (.bool true))) ?hg ?ho ?hn ?hr ?_; (case ho => rfl); (case hg => rfl); (case hn => rfl); (case hr => first | (go_simp; done) | (go_simp; rfl)); intro w84 hw; have hg : w82.grownBy w84 (some go80) := (by rw [hw]; exact HP83.2); have hp_ : Kd.R Kd.bool 4 w84 w.heap.size (fun k_ => some k_ ≠ (.slice (some ad183) x10_3.length co62 : Value).ownBlock) (.slice (some ⟨go80, 0, none⟩) x12_5.length co80) y190 := (by rw [hw, Ny190.out]; exact HP83.1); clear HP83; have n0_ := Aside0.mk (Kd.R_after (v := (.slice (some ⟨go80, 0, none⟩) x12_5.length co80)) (v1 := (.slice (some ⟨go80, 0, none⟩) x12_5.length co80)) (ok := (fun _ => True)) (by (with_reducible repeat (first | apply Kd.R_alloc | apply Kd.R_drewN | apply Kd.R_drew)); exact Kd.R_mono HO_10.out (fun _ hk => ⟨trivial, hk⟩)) hg (.inl rfl)); have n1_ := Aside0.mk (hp_); have n2_ := Aside0.mk (blk_grown (g := gb171) (o := .cells #[.int .i64 a0_0, .int .i64 a0_1, .slice (some ad188) l0_2.length c0_2, .slice A0_3 l0_3.length c0_3] 31 (0, 0)) (by (with_reducible repeat (first | refine blk_drewN ?_ _ | refine blk_drew ?_ | refine blk_alloc ?_ _)); exact BK171.out) hg (Kd.R_ne HO_12.out BK171.out (by decide))); have n3_ := Aside0.mk ((by rw [hw]; exact below_set (HB.out) GB80.out : Below w.heap.size w w84)); clear HO_10; clear HO_12; clear BK171; clear HB; have HO_10 := n0_; have HO_12 := n1_; have BK171 := n2_; have HB := n3_; clear n0_ n1_ n2_ n3_; clear hg hw hp_))
                                                            go_roundg kj65
                                                            case measure => have := HJ4.out; have := HJ34.out; have := HK3.out; have := HK4.out; have := HK5.out; have := HJ65.out; omega
                                                            case rel => exact ⟨(y190), (wrap64 (x14_5 + 1)), (by first | rfl | (simp; done) | (simp [*]; done)), H', ⟨by have := HJ4.out; have := HJ34.out; have := HK3.out; have := HK4.out; have := HK5.out; have := HJ65.out; omega⟩, ⟨by (with_reducible repeat (first | apply Kd.R_alloc | apply Kd.R_drewN | apply Kd.R_drew)); exact Kd.R_mono HO_10.out (fun _ hk => hk.2)⟩, ⟨by (with_reducible repeat (first | apply Kd.R_alloc | apply Kd.R_drewN | apply Kd.R_drew)); exact HO_12.out⟩, ⟨by (with_reducible repeat (first | refine blk_drewN ?_ _ | refine blk_drew ?_ | refine blk_alloc ?_ _)); exact BK171.out⟩, ⟨by repeat (first | (with_reducible first | exact HB.out | apply below_alloc | apply pw_below_drewN | apply below_drew1 | refine below_set ?_ GE171.out) | exact HB.out)⟩⟩
                                                          · rw [if_neg c79] at H
                                                            exact absurd H (by simp)
                                                      · rw [if_neg c74] at H
                                                        have c74b0 : decide (0 < (rd l0_2 x14_5)) = false := decide_eq_false c74
                                                        clear c74
                                                        have H' := Aside0.mk H
                                                        clear H
                                                        have hcz85_0 : wc.cell? ⟨gb171, 0, none⟩ = some (.int .i64 a0_0) := (blk_cell BK171.out 0).trans rfl
                                                        have hcz85_1 : wc.cell? ⟨gb171, 1, none⟩ = some (.int .i64 a0_1) := (blk_cell BK171.out 1).trans rfl
                                                        have hcz85_2 : wc.cell? ⟨gb171, 2, none⟩ = some (.slice A0_2 l0_2.length c0_2) := (blk_cell BK171.out 2).trans rfl
                                                        have hcz85_3 : wc.cell? ⟨gb171, 3, none⟩ = some (.slice A0_3 l0_3.length c0_3) := (blk_cell BK171.out 3).trans rfl
                                                        have hfz85_0 := blk_frozen BK171.out 0
                                                        have hfz85_1 := blk_frozen BK171.out 1
                                                        have hfz85_2 := blk_frozen BK171.out 2
                                                        have hfz85_3 := blk_frozen BK171.out 3
                                                        have p188 : 0 ≤ (x14_5 : Int) := of_decide_eq_true (by first | (with_reducible assumption) | assumption)
                                                        have q188 : x14_5 < (l0_2.length : Int) := of_decide_eq_true (by first | (with_reducible assumption) | assumption)
                                                        obtain ⟨ad188, e188, hx188_0⟩ := Kd.at_int HR0_2.out x14_5 p188 q188
                                                        cases e188
                                                        replace hx188_0 := (HB.out.cell (World.block_lt_of_cell? w _ hx188_0)).trans hx188_0
                                                        replace p188 := eq_true p188
                                                        replace q188 := eq_true q188
                                                        go_wp2
                                                        go_roundg kj65
                                                        case measure => have := HJ4.out; have := HJ34.out; have := HK3.out; have := HK4.out; have := HK5.out; have := HJ65.out; omega
                                                        case rel => exact ⟨(x12_5), (wrap64 (x14_5 + 1)), (by first | rfl | (simp; done) | (simp [*]; done)), H', ⟨by have := HJ4.out; have := HJ34.out; have := HK3.out; have := HK4.out; have := HK5.out; have := HJ65.out; omega⟩, ⟨by (with_reducible repeat (first | apply Kd.R_alloc | apply Kd.R_drewN | apply Kd.R_drew)); exact HO_10.out⟩, ⟨by (with_reducible repeat (first | apply Kd.R_alloc | apply Kd.R_drewN | apply Kd.R_drew)); exact HO_12.out⟩, ⟨by (with_reducible repeat (first | refine blk_drewN ?_ _ | refine blk_drew ?_ | refine blk_alloc ?_ _)); exact BK171.out⟩, ⟨by repeat (first | (with_reducible first | exact HB.out | apply below_alloc | apply pw_below_drewN | apply below_drew1 | refine below_set ?_ GE171.out) | exact HB.out)⟩⟩
                                                    · rw [if_neg c73] at H
                                                      exact absurd H (by simp)
                                                  · rw [if_neg c72] at H
                                                    exact absurd H (by simp)
                                                · rw [if_neg c71] at H
                                                  have c71b0 : (x14_5 == x13_4) = false := beq_eq_false_iff_ne.mpr c71
                                                  have c71b1 : (x14_5 != x13_4) = true := bne_iff_ne.mpr c71
                                                  replace H := Option.bind_eq_some_iff.mp H
                                                  obtain ⟨t191, A860, H⟩ := H
                                                  replace H : (if t191 = true then (if 0 ≤ x14_5 then (if x14_5 < (l0_2.length : Int) then (if (rd l0_2 x14_5) > 0 then ((spec_l7Shut.f kj65 a0_0 a0_1 l0_2 l0_3 x14_5 (wrap64 (x11_3 + 1))).bind fun t193 => (if t193 = true then (spec_Quickest.l2 kj65 a2 a3 x10_3 x11_3 x12_5 x13_4 (wrap64 (x14_5 + 1)) a0_0 a0_1 l0_2 l0_3) else (if x14_5 < (x12_5.length : Int) then (spec_Quickest.l2 kj65 a2 a3 x10_3 x11_3 (x12_5.set (x14_5 : Int).toNat true) x13_4 (wrap64 (x14_5 + 1)) a0_0 a0_1 l0_2 l0_3) else (none)))) else (spec_Quickest.l2 kj65 a2 a3 x10_3 x11_3 x12_5 x13_4 (wrap64 (x14_5 + 1)) a0_0 a0_1 l0_2 l0_3)) else (none)) else (none)) else (spec_Quickest.l2 kj65 a2 a3 x10_3 x11_3 x12_5 x13_4 (wrap64 (x14_5 + 1)) a0_0 a0_1 l0_2 l0_3)) = some (r1, r2) := H
                                                  have A86 := Aside0.mk A860
                                                  clear A860
                                                  by_cases c87 : t191 = true
                                                  · subst c87
                                                    have H1 : (if 0 ≤ x14_5 then (if x14_5 < (l0_2.length : Int) then (if (rd l0_2 x14_5) > 0 then ((spec_l7Shut.f kj65 a0_0 a0_1 l0_2 l0_3 x14_5 (wrap64 (x11_3 + 1))).bind fun t193 => (if t193 = true then (spec_Quickest.l2 kj65 a2 a3 x10_3 x11_3 x12_5 x13_4 (wrap64 (x14_5 + 1)) a0_0 a0_1 l0_2 l0_3) else (if x14_5 < (x12_5.length : Int) then (spec_Quickest.l2 kj65 a2 a3 x10_3 x11_3 (x12_5.set (x14_5 : Int).toNat true) x13_4 (wrap64 (x14_5 + 1)) a0_0 a0_1 l0_2 l0_3) else (none)))) else (spec_Quickest.l2 kj65 a2 a3 x10_3 x11_3 x12_5 x13_4 (wrap64 (x14_5 + 1)) a0_0 a0_1 l0_2 l0_3)) else (none)) else (none)) = some (r1, r2) := by rw [if_pos rfl] at H; exact H
                                                    clear H
                                                    have H := H1
                                                    clear H1
                                                    by_cases c88 : 0 ≤ x14_5
                                                    · rw [if_pos c88] at H
                                                      have c88b0 : decide (0 ≤ x14_5) = true := decide_eq_true c88
                                                      clear c88
                                                      by_cases c89 : x14_5 < (l0_2.length : Int)
                                                      · rw [if_pos c89] at H
                                                        have c89b0 : decide (x14_5 < (l0_2.length : Int)) = true := decide_eq_true c89
                                                        clear c89
                                                        by_cases c90 : (rd l0_2 x14_5) > 0
                                                        · rw [if_pos c90] at H
                                                          have c90b0 : decide (0 < (rd l0_2 x14_5)) = true := decide_eq_true c90
                                                          clear c90
                                                          replace H := Option.bind_eq_some_iff.mp H
                                                          obtain ⟨t193, A910, H⟩ := H
                                                          replace H : (if t193 = true then (spec_Quickest.l2 kj65 a2 a3 x10_3 x11_3 x12_5 x13_4 (wrap64 (x14_5 + 1)) a0_0 a0_1 l0_2 l0_3) else (if x14_5 < (x12_5.length : Int) then (spec_Quickest.l2 kj65 a2 a3 x10_3 x11_3 (x12_5.set (x14_5 : Int).toNat true) x13_4 (wrap64 (x14_5 + 1)) a0_0 a0_1 l0_2 l0_3) else (none))) = some (r1, r2) := H
                                                          have A91 := Aside0.mk A910
                                                          clear A910
                                                          by_cases c92 : t193 = true
                                                          · subst c92
                                                            have H1 : (spec_Quickest.l2 kj65 a2 a3 x10_3 x11_3 x12_5 x13_4 (wrap64 (x14_5 + 1)) a0_0 a0_1 l0_2 l0_3) = some (r1, r2) := by rw [if_pos rfl] at H; exact H
                                                            clear H
                                                            have H := H1
                                                            clear H1
                                                            have H' := Aside0.mk H
                                                            clear H
                                                            have hcz93_0 : wc.cell? ⟨gb171, 0, none⟩ = some (.int .i64 a0_0) := (blk_cell BK171.out 0).trans rfl
                                                            have hcz93_1 : wc.cell? ⟨gb171, 1, none⟩ = some (.int .i64 a0_1) := (blk_cell BK171.out 1).trans rfl
                                                            have hcz93_2 : wc.cell? ⟨gb171, 2, none⟩ = some (.slice A0_2 l0_2.length c0_2) := (blk_cell BK171.out 2).trans rfl
                                                            have hcz93_3 : wc.cell? ⟨gb171, 3, none⟩ = some (.slice A0_3 l0_3.length c0_3) := (blk_cell BK171.out 3).trans rfl
                                                            have hfz93_0 := blk_frozen BK171.out 0
                                                            have hfz93_1 := blk_frozen BK171.out 1
                                                            have hfz93_2 := blk_frozen BK171.out 2
                                                            have hfz93_3 := blk_frozen BK171.out 3
                                                            go_wp2_with (first | (go_at_call 15; (with_reducible refine (spec_l7Next.calls a0_0 a0_1 _ _ l0_2 _ _ l0_3 x13_4 x14_5 true _ ?side1 ?side2 ?side3 ?side4 A86.out).mono ?_); (case side1 => repeat (first | exact (Kd.C_below HR0_2.out HB.out) | (with_reducible refine Kd.C_alloc ?_ _) | (with_reducible refine Kd.C_drewN ?_ _) | (with_reducible refine Kd.C_drew ?_))); (case side2 => exact HC0_2.out); (case side3 => repeat (first | exact (Kd.C_below HR0_3.out HB.out) | (with_reducible refine Kd.C_alloc ?_ _) | (with_reducible refine Kd.C_drewN ?_ _) | (with_reducible refine Kd.C_drew ?_))); (case side4 => exact HC0_3.out); rintro e w94 ⟨rfl, hb⟩; have n0_ := Aside0.mk (Kd.R_below (by (with_reducible repeat (first | apply Kd.R_alloc | apply Kd.R_drewN | apply Kd.R_drew)); exact HO_10.out) hb); have n1_ := Aside0.mk (Kd.R_below (by (with_reducible repeat (first | apply Kd.R_alloc | apply Kd.R_drewN | apply Kd.R_drew)); exact HO_12.out) hb); have n2_ := Aside0.mk (blk_below (g := gb171) (o := .cells #[.int .i64 a0_0, .int .i64 a0_1, .slice A0_2 l0_2.length c0_2, .slice A0_3 l0_3.length c0_3] 31 (0, 0)) (by (with_reducible repeat (first | refine blk_drewN ?_ _ | refine blk_drew ?_ | refine blk_alloc ?_ _)); exact BK171.out) hb); have n3_ := Aside0.mk (below_step (by repeat (first | (with_reducible first | exact HB.out | apply below_alloc | apply pw_below_drewN | apply below_drew1 | refine below_set ?_ GE171.out) | exact HB.out)) hb); clear HO_10; clear HO_12; clear BK171; clear HB; have HO_10 := n0_; have HO_12 := n1_; have BK171 := n2_; have HB := n3_; clear n0_ n1_ n2_ n3_; (try clear hb); (try clear hb2); (try clear hk); (try clear hi); have hcz95_0 : w94.cell? ⟨gb171, 0, none⟩ = some (.int .i64 a0_0) := (blk_cell BK171.out 0).trans rfl; have hcz95_1 : w94.cell? ⟨gb171, 1, none⟩ = some (.int .i64 a0_1) := (blk_cell BK171.out 1).trans rfl; have hcz95_2 : w94.cell? ⟨gb171, 2, none⟩ = some (.slice A0_2 l0_2.length c0_2) := (blk_cell BK171.out 2).trans rfl; have hcz95_3 : w94.cell? ⟨gb171, 3, none⟩ = some (.slice A0_3 l0_3.length c0_3) := (blk_cell BK171.out 3).trans rfl; have hfz95_0 := blk_frozen BK171.out 0; have hfz95_1 := blk_frozen BK171.out 1; have hfz95_2 := blk_frozen BK171.out 2; have hfz95_3 := blk_frozen BK171.out 3; have p192 : 0 ≤ (x14_5 : Int) := of_decide_eq_true (by first | (with_reducible assumption) | assumption); have q192 : x14_5 < (l0_2.length : Int) := of_decide_eq_true (by first | (with_reducible assumption) | assumption); obtain ⟨ad192, e192, hx192_0⟩ := Kd.at_int HR0_2.out x14_5 p192 q192; cases e192; replace hx192_0 := (HB.out.cell (World.block_lt_of_cell? w _ hx192_0)).trans hx192_0; replace p192 := eq_true p192; replace q192 := eq_true q192) | (go_at_call 14; (with_reducible refine (spec_l7Shut.calls kj65 a0_0 a0_1 _ _ l0_2 _ _ l0_3 x14_5 (wrap64 (x11_3 + 1)) true _ ?side1 ?side2 ?side3 ?side4 A91.out).mono ?_); (case side1 => repeat (first | exact (Kd.C_below HR0_2.out HB.out) | (with_reducible refine Kd.C_alloc ?_ _) | (with_reducible refine Kd.C_drewN ?_ _) | (with_reducible refine Kd.C_drew ?_))); (case side2 => exact HC0_2.out); (case side3 => repeat (first | exact (Kd.C_below HR0_3.out HB.out) | (with_reducible refine Kd.C_alloc ?_ _) | (with_reducible refine Kd.C_drewN ?_ _) | (with_reducible refine Kd.C_drew ?_))); (case side4 => exact HC0_3.out); rintro e w96 ⟨rfl, hb⟩; have n0_ := Aside0.mk (Kd.R_below (by (with_reducible repeat (first | apply Kd.R_alloc | apply Kd.R_drewN | apply Kd.R_drew)); exact HO_10.out) hb); have n1_ := Aside0.mk (Kd.R_below (by (with_reducible repeat (first | apply Kd.R_alloc | apply Kd.R_drewN | apply Kd.R_drew)); exact HO_12.out) hb); have n2_ := Aside0.mk (blk_below (g := gb171) (o := .cells #[.int .i64 a0_0, .int .i64 a0_1, .slice (some ad192) l0_2.length c0_2, .slice A0_3 l0_3.length c0_3] 31 (0, 0)) (by (with_reducible repeat (first | refine blk_drewN ?_ _ | refine blk_drew ?_ | refine blk_alloc ?_ _)); exact BK171.out) hb); have n3_ := Aside0.mk (below_step (by repeat (first | (with_reducible first | exact HB.out | apply below_alloc | apply pw_below_drewN | apply below_drew1 | refine below_set ?_ GE171.out) | exact HB.out)) hb); clear HO_10; clear HO_12; clear BK171; clear HB; have HO_10 := n0_; have HO_12 := n1_; have BK171 := n2_; have HB := n3_; clear n0_ n1_ n2_ n3_; (try clear hb); (try clear hb2); (try clear hk); (try clear hi)))
                                                            go_roundg kj65
                                                            case measure => have := HJ4.out; have := HJ34.out; have := HK3.out; have := HK4.out; have := HK5.out; have := HJ65.out; omega
                                                            case rel => exact ⟨(x12_5), (wrap64 (x14_5 + 1)), (by first | rfl | (simp; done) | (simp [*]; done)), H', ⟨by have := HJ4.out; have := HJ34.out; have := HK3.out; have := HK4.out; have := HK5.out; have := HJ65.out; omega⟩, ⟨by (with_reducible repeat (first | apply Kd.R_alloc | apply Kd.R_drewN | apply Kd.R_drew)); exact HO_10.out⟩, ⟨by (with_reducible repeat (first | apply Kd.R_alloc | apply Kd.R_drewN | apply Kd.R_drew)); exact HO_12.out⟩, ⟨by (with_reducible repeat (first | refine blk_drewN ?_ _ | refine blk_drew ?_ | refine blk_alloc ?_ _)); exact BK171.out⟩, ⟨by repeat (first | (with_reducible first | exact HB.out | apply below_alloc | apply pw_below_drewN | apply below_drew1 | refine below_set ?_ GE171.out) | exact HB.out)⟩⟩
                                                          · replace c92 := Bool.eq_false_iff.mpr c92
                                                            subst c92
                                                            have H1 : (if x14_5 < (x12_5.length : Int) then (spec_Quickest.l2 kj65 a2 a3 x10_3 x11_3 (x12_5.set (x14_5 : Int).toNat true) x13_4 (wrap64 (x14_5 + 1)) a0_0 a0_1 l0_2 l0_3) else (none)) = some (r1, r2) := by rw [if_neg (show ¬ (false = true) by decide)] at H; exact H
                                                            clear H
                                                            have H := H1
                                                            clear H1
                                                            by_cases c97 : x14_5 < (x12_5.length : Int)
                                                            · rw [if_pos c97] at H
                                                              have c97b0 : decide (x14_5 < (x12_5.length : Int)) = true := decide_eq_true c97
                                                              clear c97
                                                              obtain ⟨y194, hy194⟩ : ∃ y_ : List Bool, y_ = (x12_5.set (x14_5 : Int).toNat true) := ⟨_, rfl⟩
                                                              replace H : (spec_Quickest.l2 kj65 a2 a3 x10_3 x11_3 y194 x13_4 (wrap64 (x14_5 + 1)) a0_0 a0_1 l0_2 l0_3) = some (r1, r2) := by first | (rw [hy194]; with_reducible exact H) | (have H2_ := (Option.bind_some _ _).symm.trans H; rw [hy194]; with_reducible exact H2_) | (have H2_ := (Option.bind_some _ _).symm.trans H; with_reducible exact H2_) | with_reducible exact H | (rw [hy194]; exact H) | exact H
                                                              have Ny194 := Aside0.mk hy194
                                                              clear hy194
                                                              have H' := Aside0.mk H
                                                              clear H
                                                              have hcz99_0 : wc.cell? ⟨gb171, 0, none⟩ = some (.int .i64 a0_0) := (blk_cell BK171.out 0).trans rfl
                                                              have hcz99_1 : wc.cell? ⟨gb171, 1, none⟩ = some (.int .i64 a0_1) := (blk_cell BK171.out 1).trans rfl
                                                              have hcz99_2 : wc.cell? ⟨gb171, 2, none⟩ = some (.slice A0_2 l0_2.length c0_2) := (blk_cell BK171.out 2).trans rfl
                                                              have hcz99_3 : wc.cell? ⟨gb171, 3, none⟩ = some (.slice A0_3 l0_3.length c0_3) := (blk_cell BK171.out 3).trans rfl
                                                              have hfz99_0 := blk_frozen BK171.out 0
                                                              have hfz99_1 := blk_frozen BK171.out 1
                                                              have hfz99_2 := blk_frozen BK171.out 2
                                                              have hfz99_3 := blk_frozen BK171.out 3
                                                              go_wp2_with (first | (go_at_call 15; (with_reducible refine (spec_l7Next.calls a0_0 a0_1 _ _ l0_2 _ _ l0_3 x13_4 x14_5 true _ ?side1 ?side2 ?side3 ?side4 A86.out).mono ?_); (case side1 => repeat (first | exact (Kd.C_below HR0_2.out HB.out) | (with_reducible refine Kd.C_alloc ?_ _) | (with_reducible refine Kd.C_drewN ?_ _) | (with_reducible refine Kd.C_drew ?_))); (case side2 => exact HC0_2.out); (case side3 => repeat (first | exact (Kd.C_below HR0_3.out HB.out) | (with_reducible refine Kd.C_alloc ?_ _) | (with_reducible refine Kd.C_drewN ?_ _) | (with_reducible refine Kd.C_drew ?_))); (case side4 => exact HC0_3.out); rintro e w100 ⟨rfl, hb⟩; have n0_ := Aside0.mk (Kd.R_below (by (with_reducible repeat (first | apply Kd.R_alloc | apply Kd.R_drewN | apply Kd.R_drew)); exact HO_10.out) hb); have n1_ := Aside0.mk (Kd.R_below (by (with_reducible repeat (first | apply Kd.R_alloc | apply Kd.R_drewN | apply Kd.R_drew)); exact HO_12.out) hb); have n2_ := Aside0.mk (blk_below (g := gb171) (o := .cells #[.int .i64 a0_0, .int .i64 a0_1, .slice A0_2 l0_2.length c0_2, .slice A0_3 l0_3.length c0_3] 31 (0, 0)) (by (with_reducible repeat (first | refine blk_drewN ?_ _ | refine blk_drew ?_ | refine blk_alloc ?_ _)); exact BK171.out) hb); have n3_ := Aside0.mk (below_step (by repeat (first | (with_reducible first | exact HB.out | apply below_alloc | apply pw_below_drewN | apply below_drew1 | refine below_set ?_ GE171.out) | exact HB.out)) hb); clear HO_10; clear HO_12; clear BK171; clear HB; have HO_10 := n0_; have HO_12 := n1_; have BK171 := n2_; have HB := n3_; clear n0_ n1_ n2_ n3_; (try clear hb); (try clear hb2); (try clear hk); (try clear hi); have hcz101_0 : w100.cell? ⟨gb171, 0, none⟩ = some (.int .i64 a0_0) := (blk_cell BK171.out 0).trans rfl; have hcz101_1 : w100.cell? ⟨gb171, 1, none⟩ = some (.int .i64 a0_1) := (blk_cell BK171.out 1).trans rfl; have hcz101_2 : w100.cell? ⟨gb171, 2, none⟩ = some (.slice A0_2 l0_2.length c0_2) := (blk_cell BK171.out 2).trans rfl; have hcz101_3 : w100.cell? ⟨gb171, 3, none⟩ = some (.slice A0_3 l0_3.length c0_3) := (blk_cell BK171.out 3).trans rfl; have hfz101_0 := blk_frozen BK171.out 0; have hfz101_1 := blk_frozen BK171.out 1; have hfz101_2 := blk_frozen BK171.out 2; have hfz101_3 := blk_frozen BK171.out 3; have p192 : 0 ≤ (x14_5 : Int) := of_decide_eq_true (by first | (with_reducible assumption) | assumption); have q192 : x14_5 < (l0_2.length : Int) := of_decide_eq_true (by first | (with_reducible assumption) | assumption); obtain ⟨ad192, e192, hx192_0⟩ := Kd.at_int HR0_2.out x14_5 p192 q192; cases e192; replace hx192_0 := (HB.out.cell (World.block_lt_of_cell? w _ hx192_0)).trans hx192_0; replace p192 := eq_true p192; replace q192 := eq_true q192) | (go_at_call 14; (with_reducible refine (spec_l7Shut.calls kj65 a0_0 a0_1 _ _ l0_2 _ _ l0_3 x14_5 (wrap64 (x11_3 + 1)) false _ ?side1 ?side2 ?side3 ?side4 A91.out).mono ?_); (case side1 => repeat (first | exact (Kd.C_below HR0_2.out HB.out) | (with_reducible refine Kd.C_alloc ?_ _) | (with_reducible refine Kd.C_drewN ?_ _) | (with_reducible refine Kd.C_drew ?_))); (case side2 => exact HC0_2.out); (case side3 => repeat (first | exact (Kd.C_below HR0_3.out HB.out) | (with_reducible refine Kd.C_alloc ?_ _) | (with_reducible refine Kd.C_drewN ?_ _) | (with_reducible refine Kd.C_drew ?_))); (case side4 => exact HC0_3.out); rintro e w102 ⟨rfl, hb⟩; have n0_ := Aside0.mk (Kd.R_below (by (with_reducible repeat (first | apply Kd.R_alloc | apply Kd.R_drewN | apply Kd.R_drew)); exact HO_10.out) hb); have n1_ := Aside0.mk (Kd.R_below (by (with_reducible repeat (first | apply Kd.R_alloc | apply Kd.R_drewN | apply Kd.R_drew)); exact HO_12.out) hb); have n2_ := Aside0.mk (blk_below (g := gb171) (o := .cells #[.int .i64 a0_0, .int .i64 a0_1, .slice (some ad192) l0_2.length c0_2, .slice A0_3 l0_3.length c0_3] 31 (0, 0)) (by (with_reducible repeat (first | refine blk_drewN ?_ _ | refine blk_drew ?_ | refine blk_alloc ?_ _)); exact BK171.out) hb); have n3_ := Aside0.mk (below_step (by repeat (first | (with_reducible first | exact HB.out | apply below_alloc | apply pw_below_drewN | apply below_drew1 | refine below_set ?_ GE171.out) | exact HB.out)) hb); clear HO_10; clear HO_12; clear BK171; clear HB; have HO_10 := n0_; have HO_12 := n1_; have BK171 := n2_; have HB := n3_; clear n0_ n1_ n2_ n3_; (try clear hb); (try clear hb2); (try clear hk); (try clear hi); have p98 : 0 ≤ (x14_5 : Int) := of_decide_eq_true (by first | (with_reducible assumption) | assumption); have q98 : (x14_5 : Int) < ((x12_5.length : Int) : Int) := of_decide_eq_true (by first | (with_reducible assumption) | assumption); obtain ⟨go98, co98, eo98, gb98, gl98, cl98, HG98⟩ := Kd.R_form HO_12.out (by omega); (first | cases eo98 | (injection eo98 with ea_ en_ ec_; (first | subst ea_ | (injection ea_ with ea_; subst ea_)); subst ec_; clear en_)); have GB98 := Aside0.mk gb98; have GG98 := Aside0.mk HG98; clear gb98 gl98 HG98; obtain ⟨hx98_0, hf98_0⟩ := Kd.R_celln false HO_12.out (x14_5 : Int) p98 q98; replace p98 := eq_true p98; replace q98 := eq_true q98; obtain ⟨hy103_, hz103_⟩ := Kd.R_celln false HO_12.out (x14_5 : Int) (of_decide_eq_true (by first | (with_reducible assumption) | assumption)) (of_decide_eq_true (by first | (with_reducible assumption) | assumption)); have HP103 := Kd.R_putg HO_12.out (x14_5 : Int) true) | ((with_reducible refine gate_store (t := 4) (p := 112) rfl ?_); refine store_event (t := 4) (p := 112) (v := ?vo_w104) (w1 := (w102.setCell ⟨go98, (x14_5 : Int).toNat, none⟩ (.bool true))) ?hg ?ho ?hn ?hr ?_; (case ho => rfl); (case hg => rfl); (case hn => rfl); (case hr => first | (go_simp; done) | (go_simp; rfl)); intro w104 hw; have hg : w102.grownBy w104 (some go98) := (by rw [hw]; exact HP103.2); have hp_ : Kd.R Kd.bool 4 w104 w.heap.size (fun k_ => some k_ ≠ (.slice (some ad183) x10_3.length co62 : Value).ownBlock) (.slice (some ⟨go98, 0, none⟩) x12_5.length co98) y194 := (by rw [hw, Ny194.out]; exact HP103.1); clear HP103; have n0_ := Aside0.mk (Kd.R_after (v := (.slice (some ⟨go98, 0, none⟩) x12_5.length co98)) (v1 := (.slice (some ⟨go98, 0, none⟩) x12_5.length co98)) (ok := (fun _ => True)) (by (with_reducible repeat (first | apply Kd.R_alloc | apply Kd.R_drewN | apply Kd.R_drew)); exact Kd.R_mono HO_10.out (fun _ hk => ⟨trivial, hk⟩)) hg (.inl rfl)); have n1_ := Aside0.mk (hp_); have n2_ := Aside0.mk (blk_grown (g := gb171) (o := .cells #[.int .i64 a0_0, .int .i64 a0_1, .slice (some ad192) l0_2.length c0_2, .slice A0_3 l0_3.length c0_3] 31 (0, 0)) (by (with_reducible repeat (first | refine blk_drewN ?_ _ | refine blk_drew ?_ | refine blk_alloc ?_ _)); exact BK171.out) hg (Kd.R_ne HO_12.out BK171.out (by decide))); have n3_ := Aside0.mk ((by rw [hw]; exact below_set (HB.out) GB98.out : Below w.heap.size w w104)); clear HO_10; clear HO_12; clear BK171; clear HB; have HO_10 := n0_; have HO_12 := n1_; have BK171 := n2_; have HB := n3_; clear n0_ n1_ n2_ n3_; clear hg hw hp_))
                                                              go_roundg kj65
                                                              case measure => have := HJ4.out; have := HJ34.out; have := HK3.out; have := HK4.out; have := HK5.out; have := HJ65.out; omega
                                                              case rel => exact ⟨(y194), (wrap64 (x14_5 + 1)), (by first | rfl | (simp; done) | (simp [*]; done)), H', ⟨by have := HJ4.out; have := HJ34.out; have := HK3.out; have := HK4.out; have := HK5.out; have := HJ65.out; omega⟩, ⟨by (with_reducible repeat (first | apply Kd.R_alloc | apply Kd.R_drewN | apply Kd.R_drew)); exact Kd.R_mono HO_10.out (fun _ hk => hk.2)⟩, ⟨by (with_reducible repeat (first | apply Kd.R_alloc | apply Kd.R_drewN | apply Kd.R_drew)); exact HO_12.out⟩, ⟨by (with_reducible repeat (first | refine blk_drewN ?_ _ | refine blk_drew ?_ | refine blk_alloc ?_ _)); exact BK171.out⟩, ⟨by repeat (first | (with_reducible first | exact HB.out | apply below_alloc | apply pw_below_drewN | apply below_drew1 | refine below_set ?_ GE171.out) | exact HB.out)⟩⟩
                                                            · rw [if_neg c97] at H
                                                              exact absurd H (by simp)
                                                        · rw [if_neg c90] at H
                                                          have c90b0 : decide (0 < (rd l0_2 x14_5)) = false := decide_eq_false c90
                                                          clear c90
                                                          have H' := Aside0.mk H
                                                          clear H
                                                          have hcz105_0 : wc.cell? ⟨gb171, 0, none⟩ = some (.int .i64 a0_0) := (blk_cell BK171.out 0).trans rfl
                                                          have hcz105_1 : wc.cell? ⟨gb171, 1, none⟩ = some (.int .i64 a0_1) := (blk_cell BK171.out 1).trans rfl
                                                          have hcz105_2 : wc.cell? ⟨gb171, 2, none⟩ = some (.slice A0_2 l0_2.length c0_2) := (blk_cell BK171.out 2).trans rfl
                                                          have hcz105_3 : wc.cell? ⟨gb171, 3, none⟩ = some (.slice A0_3 l0_3.length c0_3) := (blk_cell BK171.out 3).trans rfl
                                                          have hfz105_0 := blk_frozen BK171.out 0
                                                          have hfz105_1 := blk_frozen BK171.out 1
                                                          have hfz105_2 := blk_frozen BK171.out 2
                                                          have hfz105_3 := blk_frozen BK171.out 3
                                                          go_wp2_with (first | (go_at_call 15; (with_reducible refine (spec_l7Next.calls a0_0 a0_1 _ _ l0_2 _ _ l0_3 x13_4 x14_5 true _ ?side1 ?side2 ?side3 ?side4 A86.out).mono ?_); (case side1 => repeat (first | exact (Kd.C_below HR0_2.out HB.out) | (with_reducible refine Kd.C_alloc ?_ _) | (with_reducible refine Kd.C_drewN ?_ _) | (with_reducible refine Kd.C_drew ?_))); (case side2 => exact HC0_2.out); (case side3 => repeat (first | exact (Kd.C_below HR0_3.out HB.out) | (with_reducible refine Kd.C_alloc ?_ _) | (with_reducible refine Kd.C_drewN ?_ _) | (with_reducible refine Kd.C_drew ?_))); (case side4 => exact HC0_3.out); rintro e w106 ⟨rfl, hb⟩; have n0_ := Aside0.mk (Kd.R_below (by (with_reducible repeat (first | apply Kd.R_alloc | apply Kd.R_drewN | apply Kd.R_drew)); exact HO_10.out) hb); have n1_ := Aside0.mk (Kd.R_below (by (with_reducible repeat (first | apply Kd.R_alloc | apply Kd.R_drewN | apply Kd.R_drew)); exact HO_12.out) hb); have n2_ := Aside0.mk (blk_below (g := gb171) (o := .cells #[.int .i64 a0_0, .int .i64 a0_1, .slice A0_2 l0_2.length c0_2, .slice A0_3 l0_3.length c0_3] 31 (0, 0)) (by (with_reducible repeat (first | refine blk_drewN ?_ _ | refine blk_drew ?_ | refine blk_alloc ?_ _)); exact BK171.out) hb); have n3_ := Aside0.mk (below_step (by repeat (first | (with_reducible first | exact HB.out | apply below_alloc | apply pw_below_drewN | apply below_drew1 | refine below_set ?_ GE171.out) | exact HB.out)) hb); clear HO_10; clear HO_12; clear BK171; clear HB; have HO_10 := n0_; have HO_12 := n1_; have BK171 := n2_; have HB := n3_; clear n0_ n1_ n2_ n3_; (try clear hb); (try clear hb2); (try clear hk); (try clear hi); have hcz107_0 : w106.cell? ⟨gb171, 0, none⟩ = some (.int .i64 a0_0) := (blk_cell BK171.out 0).trans rfl; have hcz107_1 : w106.cell? ⟨gb171, 1, none⟩ = some (.int .i64 a0_1) := (blk_cell BK171.out 1).trans rfl; have hcz107_2 : w106.cell? ⟨gb171, 2, none⟩ = some (.slice A0_2 l0_2.length c0_2) := (blk_cell BK171.out 2).trans rfl; have hcz107_3 : w106.cell? ⟨gb171, 3, none⟩ = some (.slice A0_3 l0_3.length c0_3) := (blk_cell BK171.out 3).trans rfl; have hfz107_0 := blk_frozen BK171.out 0; have hfz107_1 := blk_frozen BK171.out 1; have hfz107_2 := blk_frozen BK171.out 2; have hfz107_3 := blk_frozen BK171.out 3; have p192 : 0 ≤ (x14_5 : Int) := of_decide_eq_true (by first | (with_reducible assumption) | assumption); have q192 : x14_5 < (l0_2.length : Int) := of_decide_eq_true (by first | (with_reducible assumption) | assumption); obtain ⟨ad192, e192, hx192_0⟩ := Kd.at_int HR0_2.out x14_5 p192 q192; cases e192; replace hx192_0 := (HB.out.cell (World.block_lt_of_cell? w _ hx192_0)).trans hx192_0; replace p192 := eq_true p192; replace q192 := eq_true q192))
                                                          go_roundg kj65
                                                          case measure => have := HJ4.out; have := HJ34.out; have := HK3.out; have := HK4.out; have := HK5.out; have := HJ65.out; omega
                                                          case rel => exact ⟨(x12_5), (wrap64 (x14_5 + 1)), (by first | rfl | (simp; done) | (simp [*]; done)), H', ⟨by have := HJ4.out; have := HJ34.out; have := HK3.out; have := HK4.out; have := HK5.out; have := HJ65.out; omega⟩, ⟨by (with_reducible repeat (first | apply Kd.R_alloc | apply Kd.R_drewN | apply Kd.R_drew)); exact HO_10.out⟩, ⟨by (with_reducible repeat (first | apply Kd.R_alloc | apply Kd.R_drewN | apply Kd.R_drew)); exact HO_12.out⟩, ⟨by (with_reducible repeat (first | refine blk_drewN ?_ _ | refine blk_drew ?_ | refine blk_alloc ?_ _)); exact BK171.out⟩, ⟨by repeat (first | (with_reducible first | exact HB.out | apply below_alloc | apply pw_below_drewN | apply below_drew1 | refine below_set ?_ GE171.out) | exact HB.out)⟩⟩
                                                      · rw [if_neg c89] at H
                                                        exact absurd H (by simp)
                                                    · rw [if_neg c88] at H
                                                      exact absurd H (by simp)
                                                  · replace c87 := Bool.eq_false_iff.mpr c87
                                                    subst c87
                                                    have H1 : (spec_Quickest.l2 kj65 a2 a3 x10_3 x11_3 x12_5 x13_4 (wrap64 (x14_5 + 1)) a0_0 a0_1 l0_2 l0_3) = some (r1, r2) := by rw [if_neg (show ¬ (false = true) by decide)] at H; exact H
                                                    clear H
                                                    have H := H1
                                                    clear H1
                                                    have H' := Aside0.mk H
                                                    clear H
                                                    have hcz108_0 : wc.cell? ⟨gb171, 0, none⟩ = some (.int .i64 a0_0) := (blk_cell BK171.out 0).trans rfl
                                                    have hcz108_1 : wc.cell? ⟨gb171, 1, none⟩ = some (.int .i64 a0_1) := (blk_cell BK171.out 1).trans rfl
                                                    have hcz108_2 : wc.cell? ⟨gb171, 2, none⟩ = some (.slice A0_2 l0_2.length c0_2) := (blk_cell BK171.out 2).trans rfl
                                                    have hcz108_3 : wc.cell? ⟨gb171, 3, none⟩ = some (.slice A0_3 l0_3.length c0_3) := (blk_cell BK171.out 3).trans rfl
                                                    have hfz108_0 := blk_frozen BK171.out 0
                                                    have hfz108_1 := blk_frozen BK171.out 1
                                                    have hfz108_2 := blk_frozen BK171.out 2
                                                    have hfz108_3 := blk_frozen BK171.out 3
                                                    go_wp2_with (first | (go_at_call 15; (with_reducible refine (spec_l7Next.calls a0_0 a0_1 _ _ l0_2 _ _ l0_3 x13_4 x14_5 false _ ?side1 ?side2 ?side3 ?side4 A86.out).mono ?_); (case side1 => repeat (first | exact (Kd.C_below HR0_2.out HB.out) | (with_reducible refine Kd.C_alloc ?_ _) | (with_reducible refine Kd.C_drewN ?_ _) | (with_reducible refine Kd.C_drew ?_))); (case side2 => exact HC0_2.out); (case side3 => repeat (first | exact (Kd.C_below HR0_3.out HB.out) | (with_reducible refine Kd.C_alloc ?_ _) | (with_reducible refine Kd.C_drewN ?_ _) | (with_reducible refine Kd.C_drew ?_))); (case side4 => exact HC0_3.out); rintro e w109 ⟨rfl, hb⟩; have n0_ := Aside0.mk (Kd.R_below (by (with_reducible repeat (first | apply Kd.R_alloc | apply Kd.R_drewN | apply Kd.R_drew)); exact HO_10.out) hb); have n1_ := Aside0.mk (Kd.R_below (by (with_reducible repeat (first | apply Kd.R_alloc | apply Kd.R_drewN | apply Kd.R_drew)); exact HO_12.out) hb); have n2_ := Aside0.mk (blk_below (g := gb171) (o := .cells #[.int .i64 a0_0, .int .i64 a0_1, .slice A0_2 l0_2.length c0_2, .slice A0_3 l0_3.length c0_3] 31 (0, 0)) (by (with_reducible repeat (first | refine blk_drewN ?_ _ | refine blk_drew ?_ | refine blk_alloc ?_ _)); exact BK171.out) hb); have n3_ := Aside0.mk (below_step (by repeat (first | (with_reducible first | exact HB.out | apply below_alloc | apply pw_below_drewN | apply below_drew1 | refine below_set ?_ GE171.out) | exact HB.out)) hb); clear HO_10; clear HO_12; clear BK171; clear HB; have HO_10 := n0_; have HO_12 := n1_; have BK171 := n2_; have HB := n3_; clear n0_ n1_ n2_ n3_; (try clear hb); (try clear hb2); (try clear hk); (try clear hi)))
                                                    go_roundg kj65
                                                    case measure => have := HJ4.out; have := HJ34.out; have := HK3.out; have := HK4.out; have := HK5.out; have := HJ65.out; omega
                                                    case rel => exact ⟨(x12_5), (wrap64 (x14_5 + 1)), (by first | rfl | (simp; done) | (simp [*]; done)), H', ⟨by have := HJ4.out; have := HJ34.out; have := HK3.out; have := HK4.out; have := HK5.out; have := HJ65.out; omega⟩, ⟨by (with_reducible repeat (first | apply Kd.R_alloc | apply Kd.R_drewN | apply Kd.R_drew)); exact HO_10.out⟩, ⟨by (with_reducible repeat (first | apply Kd.R_alloc | apply Kd.R_drewN | apply Kd.R_drew)); exact HO_12.out⟩, ⟨by (with_reducible repeat (first | refine blk_drewN ?_ _ | refine blk_drew ?_ | refine blk_alloc ?_ _)); exact BK171.out⟩, ⟨by repeat (first | (with_reducible first | exact HB.out | apply below_alloc | apply pw_below_drewN | apply below_drew1 | refine below_set ?_ GE171.out) | exact HB.out)⟩⟩
                                              · replace c70 := Bool.eq_false_iff.mpr c70
                                                subst c70
                                                have H1 : (spec_Quickest.l1 kj65 a2 a3 x10_3 x11_3 x12_5 (wrap64 (x13_4 + 1)) a0_0 a0_1 l0_2 l0_3) = some (r1, r2) := by rw [if_neg (show ¬ (false = true) by decide)] at H; exact H
                                                clear H
                                                have H := H1
                                                clear H1
                                                have H' := Aside0.mk H
                                                clear H
                                                go_wp2
                                                go_roundg kj65
                                                case measure => have := HJ4.out; have := HJ34.out; have := HK3.out; have := HK4.out; have := HK5.out; have := HJ65.out; omega
                                                case rel => exact ⟨(x12_5), (wrap64 (x13_4 + 1)), (by first | rfl | (simp; done) | (simp [*]; done)), H', ⟨by have := HJ4.out; have := HJ34.out; have := HK3.out; have := HK4.out; have := HK5.out; have := HJ65.out; omega⟩, ⟨by (with_reducible repeat (first | apply Kd.R_alloc | apply Kd.R_drewN | apply Kd.R_drew)); exact HO_10.out⟩, ⟨by (with_reducible repeat (first | apply Kd.R_alloc | apply Kd.R_drewN | apply Kd.R_drew)); exact HO_12.out⟩, ⟨by (with_reducible repeat (first | refine blk_drewN ?_ _ | refine blk_drew ?_ | refine blk_alloc ?_ _)); exact BK171.out⟩, ⟨by repeat (first | (with_reducible first | exact HB.out | apply below_alloc | apply pw_below_drewN | apply below_drew1 | refine below_set ?_ GE171.out) | exact HB.out)⟩⟩
                                    · rw [if_neg c65] at H
                                      have c65b0 : decide (x13_4 < (x10_3.length : Int)) = false := decide_eq_false c65
                                      clear c65
                                      have H' := Aside0.mk H
                                      clear H
                                      go_wp2
                                      go_roundg k4
                                      case measure => have := HJ4.out; have := HJ34.out; have := HK3.out; have := HK4.out; omega
                                      case rel => exact ⟨(x12_4), (wrap64 (x11_3 + 1)), (by first | rfl | (simp; done) | (simp [*]; done)), H', ⟨by have := HJ4.out; have := HJ34.out; have := HK3.out; have := HK4.out; omega⟩, ⟨by (with_reducible repeat (first | apply Kd.R_alloc | apply Kd.R_drewN | apply Kd.R_drew)); exact Kd.R_mono HO_12.out (fun _ hk => trivial)⟩, ⟨by (with_reducible repeat (first | refine blk_drewN ?_ _ | refine blk_drew ?_ | refine blk_alloc ?_ _)); exact BK171.out⟩, ⟨by repeat (first | (with_reducible first | exact HB.out | apply below_alloc | apply pw_below_drewN | apply below_drew1 | refine below_set ?_ GE171.out) | exact HB.out)⟩⟩
                              · rw [if_neg c61] at H
                                exact absurd H (by simp)
                            · rw [if_neg c60] at H
                              exact absurd H (by simp)
                        · rw [if_neg c56] at H
                          exact absurd H (by simp)
                      · rw [if_neg c55] at H
                        exact absurd H (by simp)
                    · rw [if_neg c54] at H
                      have c54b0 : decide (x11_3 ≤ a3) = false := decide_eq_false c54
                      clear c54
                      simp only [Option.some.injEq, Prod.mk.injEq] at H
                      obtain ⟨rfl, rfl⟩ := H
                      go_wp2
                      go_ret2
                      exact ⟨by first | rfl | (simp [errW_none, errW_some] <;> rfl) | (simp [*, errW_none, errW_some] <;> rfl), by repeat (first | (with_reducible first | exact HB.out | apply below_alloc | apply pw_below_drewN | apply below_drew1 | refine below_set ?_ GE171.out) | exact HB.out)⟩
          · rw [if_neg c34] at H
            exact absurd H (by simp)
        · rw [if_neg c33] at H
          exact absurd H (by simp)

end Go.Proofs.Ythbmpegaogfibaa.PE
