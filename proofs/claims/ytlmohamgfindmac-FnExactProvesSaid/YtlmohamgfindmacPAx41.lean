/- What Go's functions that the laws reach come to: laid by a program of this session over the print's words. -/
import Derived.Test.YtlmohamgfindmacPAx0
import Derived.Test.YtlmohamgfindmacPAx30
import Derived.Test.YtlmohamgfindmacPAx31
namespace Go.Proofs.Ytlmohamgfindmac.PA
open Go.RowKit Go.Proofs.YtlmohamgfindmacW.PrintWords Go.Proofs.YtlmohamgfindmacW.PrintLast Go.Proofs.YtlmohamgfindmacW.PrintMore
attribute [local go_sem] max2_int min2_int max_two min_two max_three min_three max_four min_four   -- for this text's walks alone
set_option linter.unusedVariables false
set_option linter.unusedSimpArgs false

/-! ### spec_Proves: function 60 -/
mutual
def spec_Proves.j0 : Nat → Int → List Int → Bool → Int → Int → List Int → List (S192) → Option (Bool)
  | 0, _, _, _, _, _, _, _ => none
  | k + 1, x1, x2, x41, x917000, x917001, x917002, x917003 => if x41 = true then (some false) else (spec_Proves.l0 k x1 x2 0 x917000 x917001 x917002 x917003)
def spec_Proves.l0 : Nat → Int → List Int → Int → Int → Int → List Int → List (S192) → Option (Bool)
  | 0, _, _, _, _, _, _, _ => none
  | k + 1, x1, x2, x7, x917000, x917001, x917002, x917003 => if x7 < (x2.length : Int) then (if 0 ≤ x7 then (if (rd x2 x7) < (-1) then (spec_Proves.j2 k x1 x2 x7 true x917000 x917001 x917002 x917003) else (if x7 < (x917002.length : Int) then (if (rd x917002 x7) = 0 then (spec_Proves.j2 k x1 x2 x7 ((rd x2 x7) != (-1)) x917000 x917001 x917002 x917003) else (spec_Proves.j2 k x1 x2 x7 false x917000 x917001 x917002 x917003)) else (none))) else (none)) else (some true)
def spec_Proves.j2 : Nat → Int → List Int → Int → Bool → Int → Int → List Int → List (S192) → Option (Bool)
  | 0, _, _, _, _, _, _, _, _ => none
  | k + 1, x1, x2, x7, x67, x917000, x917001, x917002, x917003 => if x67 = true then (some false) else (if x7 = x1 then (spec_Proves.j3 k x1 x2 x7 true x917000 x917001 x917002 x917003) else (if 0 ≤ x7 then (if x7 < (x2.length : Int) then (spec_Proves.j3 k x1 x2 x7 (decide ((rd x2 x7) < 0)) x917000 x917001 x917002 x917003) else (none)) else (none)))
def spec_Proves.j3 : Nat → Int → List Int → Int → Bool → Int → Int → List Int → List (S192) → Option (Bool)
  | 0, _, _, _, _, _, _, _, _ => none
  | k + 1, x1, x2, x7, x8, x917000, x917001, x917002, x917003 => spec_Proves.l1 k x1 x2 x7 x8 0 x917000 x917001 x917002 x917003
def spec_Proves.l1 : Nat → Int → List Int → Int → Bool → Int → Int → Int → List Int → List (S192) → Option (Bool)
  | 0, _, _, _, _, _, _, _, _, _ => none
  | k + 1, x1, x2, x7, x8, x9, x917000, x917001, x917002, x917003 => if x9 < (x2.length : Int) then (if 0 ≤ x7 then (if x7 < (x2.length : Int) then (spec_Proves.j5 k x1 x2 x7 x8 x9 (decide ((rd x2 x7) ≥ 0)) x917000 x917001 x917002 x917003) else (none)) else (none)) else (spec_Proves.j5 k x1 x2 x7 x8 x9 false x917000 x917001 x917002 x917003)
def spec_Proves.j5 : Nat → Int → List Int → Int → Bool → Int → Bool → Int → Int → List Int → List (S192) → Option (Bool)
  | 0, _, _, _, _, _, _, _, _, _, _ => none
  | k + 1, x1, x2, x7, x8, x9, x88, x917000, x917001, x917002, x917003 => if x88 = true then (if 0 ≤ x9 then (if x9 < (x917002.length : Int) then (if (rd x917002 x9) = 0 then (spec_Proves.j6 k x1 x2 x7 x8 x9 true x917000 x917001 x917002 x917003) else ((spec_l7Next.f x917000 x917001 x917002 x917003 x7 x9).bind fun t927 => (spec_Proves.j6 k x1 x2 x7 x8 x9 (!t927) x917000 x917001 x917002 x917003))) else (none)) else (none)) else (if x8 = true then (spec_Proves.l0 k x1 x2 (wrap64 (x7 + 1)) x917000 x917001 x917002 x917003) else (some false))
def spec_Proves.j6 : Nat → Int → List Int → Int → Bool → Int → Bool → Int → Int → List Int → List (S192) → Option (Bool)
  | 0, _, _, _, _, _, _, _, _, _, _ => none
  | k + 1, x1, x2, x7, x8, x9, x103, x917000, x917001, x917002, x917003 => if x103 = true then (spec_Proves.l1 k x1 x2 x7 x8 (wrap64 (x9 + 1)) x917000 x917001 x917002 x917003) else (if 0 ≤ x9 then (if x9 < (x2.length : Int) then (if (rd x2 x9) < 0 then (some false) else (if x9 < (x917002.length : Int) then (if 0 ≤ x7 then (if x7 < (x2.length : Int) then (if (wrap64 ((rd x2 x9) - (rd x917002 x9))) > (rd x2 x7) then (some false) else (if x8 = true then (spec_Proves.l1 k x1 x2 x7 true (wrap64 (x9 + 1)) x917000 x917001 x917002 x917003) else (if x7 < (x917002.length : Int) then (spec_Proves.l1 k x1 x2 x7 ((rd x2 x9) == (wrap64 ((rd x2 x7) - (rd x917002 x7)))) (wrap64 (x9 + 1)) x917000 x917001 x917002 x917003) else (none)))) else (none)) else (none)) else (none))) else (none)) else (none))
end
def spec_Proves.f (k : Nat) (a0_0 : Int) (a0_1 : Int) (l0_2 : List Int) (l0_3 : List (S192)) (a1 : Int) (l2 : List Int) : Option (Bool) := (spec_SeaOk.f k a0_0 a0_1 l0_2 l0_3).bind fun t917 => (if t917 = true then ((spec_l7Place.f a0_0 a0_1 l0_2 l0_3 a1).bind fun t918 => (if t918 = true then (if 0 ≤ a1 then (if a1 < (l0_2.length : Int) then (if (rd l0_2 a1) = 0 then (spec_Proves.j0 k a1 l2 true a0_0 a0_1 l0_2 l0_3) else (if (l2.length : Int) = (l0_2.length : Int) then (if a1 < (l2.length : Int) then (spec_Proves.j0 k a1 l2 ((rd l2 a1) != 0) a0_0 a0_1 l0_2 l0_3) else (none)) else (spec_Proves.j0 k a1 l2 true a0_0 a0_1 l0_2 l0_3))) else (none)) else (none)) else (spec_Proves.j0 k a1 l2 true a0_0 a0_1 l0_2 l0_3))) else (spec_Proves.j0 k a1 l2 true a0_0 a0_1 l0_2 l0_3))
theorem spec_Proves.mono_l : ∀ k, (∀ y0 y1 y2 y3 y4 y5 y6, LeO (spec_Proves.j0 k y0 y1 y2 y3 y4 y5 y6) (spec_Proves.j0 (k + 1) y0 y1 y2 y3 y4 y5 y6)) ∧ (∀ y0 y1 y2 y3 y4 y5 y6, LeO (spec_Proves.l0 k y0 y1 y2 y3 y4 y5 y6) (spec_Proves.l0 (k + 1) y0 y1 y2 y3 y4 y5 y6)) ∧ (∀ y0 y1 y2 y3 y4 y5 y6 y7, LeO (spec_Proves.j2 k y0 y1 y2 y3 y4 y5 y6 y7) (spec_Proves.j2 (k + 1) y0 y1 y2 y3 y4 y5 y6 y7)) ∧ (∀ y0 y1 y2 y3 y4 y5 y6 y7, LeO (spec_Proves.j3 k y0 y1 y2 y3 y4 y5 y6 y7) (spec_Proves.j3 (k + 1) y0 y1 y2 y3 y4 y5 y6 y7)) ∧ (∀ y0 y1 y2 y3 y4 y5 y6 y7 y8, LeO (spec_Proves.l1 k y0 y1 y2 y3 y4 y5 y6 y7 y8) (spec_Proves.l1 (k + 1) y0 y1 y2 y3 y4 y5 y6 y7 y8)) ∧ (∀ y0 y1 y2 y3 y4 y5 y6 y7 y8 y9, LeO (spec_Proves.j5 k y0 y1 y2 y3 y4 y5 y6 y7 y8 y9) (spec_Proves.j5 (k + 1) y0 y1 y2 y3 y4 y5 y6 y7 y8 y9)) ∧ (∀ y0 y1 y2 y3 y4 y5 y6 y7 y8 y9, LeO (spec_Proves.j6 k y0 y1 y2 y3 y4 y5 y6 y7 y8 y9) (spec_Proves.j6 (k + 1) y0 y1 y2 y3 y4 y5 y6 y7 y8 y9))
  | 0 => ⟨fun _ _ _ _ _ _ _ r h => by simp [spec_Proves.j0] at h, fun _ _ _ _ _ _ _ r h => by simp [spec_Proves.l0] at h, fun _ _ _ _ _ _ _ _ r h => by simp [spec_Proves.j2] at h, fun _ _ _ _ _ _ _ _ r h => by simp [spec_Proves.j3] at h, fun _ _ _ _ _ _ _ _ _ r h => by simp [spec_Proves.l1] at h, fun _ _ _ _ _ _ _ _ _ _ r h => by simp [spec_Proves.j5] at h, fun _ _ _ _ _ _ _ _ _ _ r h => by simp [spec_Proves.j6] at h⟩
  | k + 1 => by
    obtain ⟨ih0, ih1, ih2, ih3, ih4, ih5, ih6⟩ := spec_Proves.mono_l k
    refine ⟨?_, ?_, ?_, ?_, ?_, ?_, ?_⟩
    · intro y0 y1 y2 y3 y4 y5 y6
      unfold spec_Proves.j0
      repeat' first
      | (with_reducible exact ih0 _ _ _ _ _ _ _)
      | (with_reducible exact ih1 _ _ _ _ _ _ _)
      | (with_reducible exact ih2 _ _ _ _ _ _ _ _)
      | (with_reducible exact ih3 _ _ _ _ _ _ _ _)
      | (with_reducible exact ih4 _ _ _ _ _ _ _ _ _)
      | (with_reducible exact ih5 _ _ _ _ _ _ _ _ _ _)
      | (with_reducible exact ih6 _ _ _ _ _ _ _ _ _ _)
      | (with_reducible exact spec_SeaOk.mono _ _ _ _ _)
      | (with_reducible exact LeO.refl _)
      | (with_reducible exact LeO.none _)
      | (with_reducible refine LeO.ite ?_ ?_)
      | (with_reducible refine LeO.bind ?_ (fun _ => ?_))
      | exact ih0 _ _ _ _ _ _ _
      | exact ih1 _ _ _ _ _ _ _
      | exact ih2 _ _ _ _ _ _ _ _
      | exact ih3 _ _ _ _ _ _ _ _
      | exact ih4 _ _ _ _ _ _ _ _ _
      | exact ih5 _ _ _ _ _ _ _ _ _ _
      | exact ih6 _ _ _ _ _ _ _ _ _ _
      | exact spec_SeaOk.mono _ _ _ _ _
      | exact LeO.none _
      | refine LeO.ite ?_ ?_
      | refine LeO.bind ?_ (fun _ => ?_)
    · intro y0 y1 y2 y3 y4 y5 y6
      unfold spec_Proves.l0
      repeat' first
      | (with_reducible exact ih0 _ _ _ _ _ _ _)
      | (with_reducible exact ih1 _ _ _ _ _ _ _)
      | (with_reducible exact ih2 _ _ _ _ _ _ _ _)
      | (with_reducible exact ih3 _ _ _ _ _ _ _ _)
      | (with_reducible exact ih4 _ _ _ _ _ _ _ _ _)
      | (with_reducible exact ih5 _ _ _ _ _ _ _ _ _ _)
      | (with_reducible exact ih6 _ _ _ _ _ _ _ _ _ _)
      | (with_reducible exact spec_SeaOk.mono _ _ _ _ _)
      | (with_reducible exact LeO.refl _)
      | (with_reducible exact LeO.none _)
      | (with_reducible refine LeO.ite ?_ ?_)
      | (with_reducible refine LeO.bind ?_ (fun _ => ?_))
      | exact ih0 _ _ _ _ _ _ _
      | exact ih1 _ _ _ _ _ _ _
      | exact ih2 _ _ _ _ _ _ _ _
      | exact ih3 _ _ _ _ _ _ _ _
      | exact ih4 _ _ _ _ _ _ _ _ _
      | exact ih5 _ _ _ _ _ _ _ _ _ _
      | exact ih6 _ _ _ _ _ _ _ _ _ _
      | exact spec_SeaOk.mono _ _ _ _ _
      | exact LeO.none _
      | refine LeO.ite ?_ ?_
      | refine LeO.bind ?_ (fun _ => ?_)
    · intro y0 y1 y2 y3 y4 y5 y6 y7
      unfold spec_Proves.j2
      repeat' first
      | (with_reducible exact ih0 _ _ _ _ _ _ _)
      | (with_reducible exact ih1 _ _ _ _ _ _ _)
      | (with_reducible exact ih2 _ _ _ _ _ _ _ _)
      | (with_reducible exact ih3 _ _ _ _ _ _ _ _)
      | (with_reducible exact ih4 _ _ _ _ _ _ _ _ _)
      | (with_reducible exact ih5 _ _ _ _ _ _ _ _ _ _)
      | (with_reducible exact ih6 _ _ _ _ _ _ _ _ _ _)
      | (with_reducible exact spec_SeaOk.mono _ _ _ _ _)
      | (with_reducible exact LeO.refl _)
      | (with_reducible exact LeO.none _)
      | (with_reducible refine LeO.ite ?_ ?_)
      | (with_reducible refine LeO.bind ?_ (fun _ => ?_))
      | exact ih0 _ _ _ _ _ _ _
      | exact ih1 _ _ _ _ _ _ _
      | exact ih2 _ _ _ _ _ _ _ _
      | exact ih3 _ _ _ _ _ _ _ _
      | exact ih4 _ _ _ _ _ _ _ _ _
      | exact ih5 _ _ _ _ _ _ _ _ _ _
      | exact ih6 _ _ _ _ _ _ _ _ _ _
      | exact spec_SeaOk.mono _ _ _ _ _
      | exact LeO.none _
      | refine LeO.ite ?_ ?_
      | refine LeO.bind ?_ (fun _ => ?_)
    · intro y0 y1 y2 y3 y4 y5 y6 y7
      unfold spec_Proves.j3
      repeat' first
      | (with_reducible exact ih0 _ _ _ _ _ _ _)
      | (with_reducible exact ih1 _ _ _ _ _ _ _)
      | (with_reducible exact ih2 _ _ _ _ _ _ _ _)
      | (with_reducible exact ih3 _ _ _ _ _ _ _ _)
      | (with_reducible exact ih4 _ _ _ _ _ _ _ _ _)
      | (with_reducible exact ih5 _ _ _ _ _ _ _ _ _ _)
      | (with_reducible exact ih6 _ _ _ _ _ _ _ _ _ _)
      | (with_reducible exact spec_SeaOk.mono _ _ _ _ _)
      | (with_reducible exact LeO.refl _)
      | (with_reducible exact LeO.none _)
      | (with_reducible refine LeO.ite ?_ ?_)
      | (with_reducible refine LeO.bind ?_ (fun _ => ?_))
      | exact ih0 _ _ _ _ _ _ _
      | exact ih1 _ _ _ _ _ _ _
      | exact ih2 _ _ _ _ _ _ _ _
      | exact ih3 _ _ _ _ _ _ _ _
      | exact ih4 _ _ _ _ _ _ _ _ _
      | exact ih5 _ _ _ _ _ _ _ _ _ _
      | exact ih6 _ _ _ _ _ _ _ _ _ _
      | exact spec_SeaOk.mono _ _ _ _ _
      | exact LeO.none _
      | refine LeO.ite ?_ ?_
      | refine LeO.bind ?_ (fun _ => ?_)
    · intro y0 y1 y2 y3 y4 y5 y6 y7 y8
      unfold spec_Proves.l1
      repeat' first
      | (with_reducible exact ih0 _ _ _ _ _ _ _)
      | (with_reducible exact ih1 _ _ _ _ _ _ _)
      | (with_reducible exact ih2 _ _ _ _ _ _ _ _)
      | (with_reducible exact ih3 _ _ _ _ _ _ _ _)
      | (with_reducible exact ih4 _ _ _ _ _ _ _ _ _)
      | (with_reducible exact ih5 _ _ _ _ _ _ _ _ _ _)
      | (with_reducible exact ih6 _ _ _ _ _ _ _ _ _ _)
      | (with_reducible exact spec_SeaOk.mono _ _ _ _ _)
      | (with_reducible exact LeO.refl _)
      | (with_reducible exact LeO.none _)
      | (with_reducible refine LeO.ite ?_ ?_)
      | (with_reducible refine LeO.bind ?_ (fun _ => ?_))
      | exact ih0 _ _ _ _ _ _ _
      | exact ih1 _ _ _ _ _ _ _
      | exact ih2 _ _ _ _ _ _ _ _
      | exact ih3 _ _ _ _ _ _ _ _
      | exact ih4 _ _ _ _ _ _ _ _ _
      | exact ih5 _ _ _ _ _ _ _ _ _ _
      | exact ih6 _ _ _ _ _ _ _ _ _ _
      | exact spec_SeaOk.mono _ _ _ _ _
      | exact LeO.none _
      | refine LeO.ite ?_ ?_
      | refine LeO.bind ?_ (fun _ => ?_)
    · intro y0 y1 y2 y3 y4 y5 y6 y7 y8 y9
      unfold spec_Proves.j5
      repeat' first
      | (with_reducible exact ih0 _ _ _ _ _ _ _)
      | (with_reducible exact ih1 _ _ _ _ _ _ _)
      | (with_reducible exact ih2 _ _ _ _ _ _ _ _)
      | (with_reducible exact ih3 _ _ _ _ _ _ _ _)
      | (with_reducible exact ih4 _ _ _ _ _ _ _ _ _)
      | (with_reducible exact ih5 _ _ _ _ _ _ _ _ _ _)
      | (with_reducible exact ih6 _ _ _ _ _ _ _ _ _ _)
      | (with_reducible exact spec_SeaOk.mono _ _ _ _ _)
      | (with_reducible exact LeO.refl _)
      | (with_reducible exact LeO.none _)
      | (with_reducible refine LeO.ite ?_ ?_)
      | (with_reducible refine LeO.bind ?_ (fun _ => ?_))
      | exact ih0 _ _ _ _ _ _ _
      | exact ih1 _ _ _ _ _ _ _
      | exact ih2 _ _ _ _ _ _ _ _
      | exact ih3 _ _ _ _ _ _ _ _
      | exact ih4 _ _ _ _ _ _ _ _ _
      | exact ih5 _ _ _ _ _ _ _ _ _ _
      | exact ih6 _ _ _ _ _ _ _ _ _ _
      | exact spec_SeaOk.mono _ _ _ _ _
      | exact LeO.none _
      | refine LeO.ite ?_ ?_
      | refine LeO.bind ?_ (fun _ => ?_)
    · intro y0 y1 y2 y3 y4 y5 y6 y7 y8 y9
      unfold spec_Proves.j6
      repeat' first
      | (with_reducible exact ih0 _ _ _ _ _ _ _)
      | (with_reducible exact ih1 _ _ _ _ _ _ _)
      | (with_reducible exact ih2 _ _ _ _ _ _ _ _)
      | (with_reducible exact ih3 _ _ _ _ _ _ _ _)
      | (with_reducible exact ih4 _ _ _ _ _ _ _ _ _)
      | (with_reducible exact ih5 _ _ _ _ _ _ _ _ _ _)
      | (with_reducible exact ih6 _ _ _ _ _ _ _ _ _ _)
      | (with_reducible exact spec_SeaOk.mono _ _ _ _ _)
      | (with_reducible exact LeO.refl _)
      | (with_reducible exact LeO.none _)
      | (with_reducible refine LeO.ite ?_ ?_)
      | (with_reducible refine LeO.bind ?_ (fun _ => ?_))
      | exact ih0 _ _ _ _ _ _ _
      | exact ih1 _ _ _ _ _ _ _
      | exact ih2 _ _ _ _ _ _ _ _
      | exact ih3 _ _ _ _ _ _ _ _
      | exact ih4 _ _ _ _ _ _ _ _ _
      | exact ih5 _ _ _ _ _ _ _ _ _ _
      | exact ih6 _ _ _ _ _ _ _ _ _ _
      | exact spec_SeaOk.mono _ _ _ _ _
      | exact LeO.none _
      | refine LeO.ite ?_ ?_
      | refine LeO.bind ?_ (fun _ => ?_)
theorem spec_Proves.mono : ∀ a0 a1 a2 a3 a4 a5 k, LeO (spec_Proves.f k a0 a1 a2 a3 a4 a5) (spec_Proves.f (k + 1) a0 a1 a2 a3 a4 a5) := by
  intro a0 a1 a2 a3 a4 a5 k
  obtain ⟨ih0, ih1, ih2, ih3, ih4, ih5, ih6⟩ := spec_Proves.mono_l k
  unfold spec_Proves.f
  repeat' first
      | (with_reducible exact ih0 _ _ _ _ _ _ _)
      | (with_reducible exact ih1 _ _ _ _ _ _ _)
      | (with_reducible exact ih2 _ _ _ _ _ _ _ _)
      | (with_reducible exact ih3 _ _ _ _ _ _ _ _)
      | (with_reducible exact ih4 _ _ _ _ _ _ _ _ _)
      | (with_reducible exact ih5 _ _ _ _ _ _ _ _ _ _)
      | (with_reducible exact ih6 _ _ _ _ _ _ _ _ _ _)
      | (with_reducible exact spec_SeaOk.mono _ _ _ _ _)
      | (with_reducible exact LeO.refl _)
      | (with_reducible exact LeO.none _)
      | (with_reducible refine LeO.ite ?_ ?_)
      | (with_reducible refine LeO.bind ?_ (fun _ => ?_))
      | exact ih0 _ _ _ _ _ _ _
      | exact ih1 _ _ _ _ _ _ _
      | exact ih2 _ _ _ _ _ _ _ _
      | exact ih3 _ _ _ _ _ _ _ _
      | exact ih4 _ _ _ _ _ _ _ _ _
      | exact ih5 _ _ _ _ _ _ _ _ _ _
      | exact ih6 _ _ _ _ _ _ _ _ _ _
      | exact spec_SeaOk.mono _ _ _ _ _
      | exact LeO.none _
      | refine LeO.ite ?_ ?_
      | refine LeO.bind ?_ (fun _ => ?_)
set_option maxHeartbeats 8000000 in
set_option maxRecDepth 100000 in
theorem spec_Proves.calls (k : Nat) (a0_0 : Int) (a0_1 : Int) (A0_2 : Option Addr) (c0_2 : Nat) (l0_2 : List Int) (A0_3 : Option Addr) (c0_3 : Nat) (l0_3 : List (S192)) (a1 : Int) (A2 : Option Addr) (c2 : Nat) (l2 : List Int) (r : Bool) (w : World) (hr0_2 : Kd.C (Kd.int .i64) w A0_2 l0_2.length l0_2) (hc0_2 : l0_2.length ≤ c0_2) (hr0_3 : Kd.C k192 w A0_3 l0_3.length l0_3) (hc0_3 : l0_3.length ≤ c0_3) (hr2 : Kd.C (Kd.int .i64) w A2 l2.length l2) (hc2 : l2.length ≤ c2) (h : spec_Proves.f k a0_0 a0_1 l0_2 l0_3 a1 l2 = some r) :
 Calls Try.prog 60 #[.agg #[.int .i64 a0_0, .int .i64 a0_1, .slice A0_2 l0_2.length c0_2, .slice A0_3 l0_3.length c0_3], .int .i64 a1, .slice A2 l2.length c2] w fun e w' => e = .returned (.bool r) ∧ Below w.heap.size w w' := by
 have hu98 := Try.underlying98
 have HR0_2 := Aside0.mk hr0_2
 have HC0_2 := Aside0.mk hc0_2
 clear hr0_2 hc0_2
 have HR0_3 := Aside0.mk hr0_3
 have HC0_3 := Aside0.mk hc0_3
 clear hr0_3 hc0_3
 have HR2 := Aside0.mk hr2
 have HC2 := Aside0.mk hc2
 clear hr2 hc2
 have HB := Aside0.mk (Below.refl w.heap.size w)
 have H : ((spec_SeaOk.f k a0_0 a0_1 l0_2 l0_3).bind fun t917 => (if t917 = true then ((spec_l7Place.f a0_0 a0_1 l0_2 l0_3 a1).bind fun t918 => (if t918 = true then (if 0 ≤ a1 then (if a1 < (l0_2.length : Int) then (if (rd l0_2 a1) = 0 then (spec_Proves.j0 k a1 l2 true a0_0 a0_1 l0_2 l0_3) else (if (l2.length : Int) = (l0_2.length : Int) then (if a1 < (l2.length : Int) then (spec_Proves.j0 k a1 l2 ((rd l2 a1) != 0) a0_0 a0_1 l0_2 l0_3) else (none)) else (spec_Proves.j0 k a1 l2 true a0_0 a0_1 l0_2 l0_3))) else (none)) else (none)) else (spec_Proves.j0 k a1 l2 true a0_0 a0_1 l0_2 l0_3))) else (spec_Proves.j0 k a1 l2 true a0_0 a0_1 l0_2 l0_3))) = some r := h
 clear h
 have HC4 := Aside0.mk H
 clear H
 go_enter Try.func60, Try.ntmps60
 go_upto_region 1 with (first | ((with_reducible refine gate_dst (N := 3) rfl ?_); (try (refine gate_guard (by rfl) ?_; dsimp only)); refine box_event ?hg (N := 3) ?hd (cs := #[.int .i64 a0_0, .int .i64 a0_1, .slice A0_2 l0_2.length c0_2, .slice A0_3 l0_3.length c0_3]) (t := 98) ?hr ?_; (case hd => rfl); (case hg => rfl); (case hr => first | (go_simp; done) | (go_simp; rfl)); intro gb916 hg w5 hbox hb; have n0_ := Aside0.mk (below_step (by repeat (first | (with_reducible first | exact HB.out | apply below_alloc | apply pw_below_drewN | apply below_drew1) | exact HB.out)) hb); have n1_ := Aside0.mk (hbox); have n2_ := Aside0.mk ((by rw [hg]; exact (below_size (by repeat (first | (with_reducible first | exact HB.out | apply below_alloc | apply pw_below_drewN | apply below_drew1) | exact HB.out))) : w.heap.size ≤ gb916)); have n3_ := Aside0.mk ((by rw [hg]; exact (below_size (by repeat (first | (with_reducible first | exact HB.out | apply below_alloc | apply pw_below_drewN | apply below_drew1) | exact HB.out))) : w.heap.size ≤ gb916)); clear HB; have HB := n0_; have BK916 := n1_; have GW916 := n2_; have GE916 := n3_; clear n0_ n1_ n2_ n3_; clear hb hbox hg))
 repeat (go_quiet (first | ((with_reducible refine gate_dst (N := 3) rfl ?_); (try (refine gate_guard (by rfl) ?_; dsimp only)); refine box_event ?hg (N := 3) ?hd (cs := #[.int .i64 a0_0, .int .i64 a0_1, .slice A0_2 l0_2.length c0_2, .slice A0_3 l0_3.length c0_3]) (t := 98) ?hr ?_; (case hd => rfl); (case hg => rfl); (case hr => first | (go_simp; done) | (go_simp; rfl)); intro gb916 hg w5 hbox hb; have n0_ := Aside0.mk (below_step (by repeat (first | (with_reducible first | exact HB.out | apply below_alloc | apply pw_below_drewN | apply below_drew1) | exact HB.out)) hb); have n1_ := Aside0.mk (hbox); have n2_ := Aside0.mk ((by rw [hg]; exact (below_size (by repeat (first | (with_reducible first | exact HB.out | apply below_alloc | apply pw_below_drewN | apply below_drew1) | exact HB.out))) : w.heap.size ≤ gb916)); have n3_ := Aside0.mk ((by rw [hg]; exact (below_size (by repeat (first | (with_reducible first | exact HB.out | apply below_alloc | apply pw_below_drewN | apply below_drew1) | exact HB.out))) : w.heap.size ≤ gb916)); clear HB; have HB := n0_; have BK916 := n1_; have GW916 := n2_; have GE916 := n3_; clear n0_ n1_ n2_ n3_; clear hb hbox hg)); go_upto_region 1 with (first | ((with_reducible refine gate_dst (N := 3) rfl ?_); (try (refine gate_guard (by rfl) ?_; dsimp only)); refine box_event ?hg (N := 3) ?hd (cs := #[.int .i64 a0_0, .int .i64 a0_1, .slice A0_2 l0_2.length c0_2, .slice A0_3 l0_3.length c0_3]) (t := 98) ?hr ?_; (case hd => rfl); (case hg => rfl); (case hr => first | (go_simp; done) | (go_simp; rfl)); intro gb916 hg w5 hbox hb; have n0_ := Aside0.mk (below_step (by repeat (first | (with_reducible first | exact HB.out | apply below_alloc | apply pw_below_drewN | apply below_drew1) | exact HB.out)) hb); have n1_ := Aside0.mk (hbox); have n2_ := Aside0.mk ((by rw [hg]; exact (below_size (by repeat (first | (with_reducible first | exact HB.out | apply below_alloc | apply pw_below_drewN | apply below_drew1) | exact HB.out))) : w.heap.size ≤ gb916)); have n3_ := Aside0.mk ((by rw [hg]; exact (below_size (by repeat (first | (with_reducible first | exact HB.out | apply below_alloc | apply pw_below_drewN | apply below_drew1) | exact HB.out))) : w.heap.size ≤ gb916)); clear HB; have HB := n0_; have BK916 := n1_; have GW916 := n2_; have GE916 := n3_; clear n0_ n1_ n2_ n3_; clear hb hbox hg)))
 (try simp only [Act.put, List.setIfInBounds_toArray, List.set_cons_zero, List.set_cons_succ])
 go_cut [41] (fun v41 wc => ∃ (kq : Nat) (x41_3 : Bool), v41 = .bool x41_3 ∧ Aside0 (spec_Proves.j0 kq a1 l2 x41_3 a0_0 a0_1 l0_2 l0_3 = some r) ∧ Aside0 (kq ≤ k) ∧ Aside0 (wc.heap[gb916]? = some (.cells #[.int .i64 a0_0, .int .i64 a0_1, (.slice A0_2 l0_2.length c0_2), (.slice A0_3 l0_3.length c0_3)] 98 (0, 0))) ∧ Aside0 (Below w.heap.size w wc))
 case first =>
  have H := HC4.out
  clear HC4
  replace H := Option.bind_eq_some_iff.mp H
  obtain ⟨t917, A60, H⟩ := H
  (try dsimp only at H)
  have A6 := Aside0.mk A60
  clear A60
  by_cases c7 : t917 = true
  ·subst c7
   rw [if_pos rfl] at H
   replace H := Option.bind_eq_some_iff.mp H
   obtain ⟨t918, A80, H⟩ := H
   (try dsimp only at H)
   have A8 := Aside0.mk A80
   clear A80
   by_cases c9 : t918 = true
   ·subst c9
    rw [if_pos rfl] at H
    by_cases c10 : 0 ≤ a1
    ·rw [if_pos c10] at H
     have c10b0 : decide (0 ≤ a1) = true := decide_eq_true c10
     clear c10
     (first | rw [c10b0] | (simp only [i64_w, i32_w]; rw [c10b0]) | skip)
     by_cases c11 : a1 < (l0_2.length : Int)
     ·rw [if_pos c11] at H
      have c11b0 : decide (a1 < (l0_2.length : Int)) = true := decide_eq_true c11
      clear c11
      by_cases c12 : (rd l0_2 a1) = 0
      ·rw [if_pos c12] at H
       have c12b0 : ((rd l0_2 a1) == 0) = true := beq_iff_eq.mpr c12
       have c12b1 : ((rd l0_2 a1) != 0) = false := bne_eq_false_iff_eq.mpr c12
       clear c12
       have H' := Aside0.mk H
       clear H
       have hcz13_0 : w5.cell? ⟨gb916, 0, none⟩ = some (.int .i64 a0_0) := (blk_cell BK916.out 0).trans rfl
       have hcz13_1 : w5.cell? ⟨gb916, 1, none⟩ = some (.int .i64 a0_1) := (blk_cell BK916.out 1).trans rfl
       have hcz13_2 : w5.cell? ⟨gb916, 2, none⟩ = some (.slice A0_2 l0_2.length c0_2) := (blk_cell BK916.out 2).trans rfl
       have hcz13_3 : w5.cell? ⟨gb916, 3, none⟩ = some (.slice A0_3 l0_3.length c0_3) := (blk_cell BK916.out 3).trans rfl
       have hfz13_0 := blk_frozen BK916.out 0
       have hfz13_1 := blk_frozen BK916.out 1
       have hfz13_2 := blk_frozen BK916.out 2
       have hfz13_3 := blk_frozen BK916.out 3
       go_wp2_with (first | (go_at_call 122; (with_reducible refine (spec_SeaOk.calls k a0_0 a0_1 _ _ l0_2 _ _ l0_3 true _ ?side1 ?side2 ?side3 ?side4 A6.out).mono ?_); (case side1 => repeat (first | exact (Kd.C_below HR0_2.out HB.out) | (with_reducible refine Kd.C_alloc ?_ _) | (with_reducible refine Kd.C_drewN ?_ _) | (with_reducible refine Kd.C_drew ?_))); (case side2 => exact HC0_2.out); (case side3 => repeat (first | exact (Kd.C_below HR0_3.out HB.out) | (with_reducible refine Kd.C_alloc ?_ _) | (with_reducible refine Kd.C_drewN ?_ _) | (with_reducible refine Kd.C_drew ?_))); (case side4 => exact HC0_3.out); rintro e w14 ⟨rfl, hb⟩; have n0_ := Aside0.mk (blk_below (g := gb916) (o := .cells #[.int .i64 a0_0, .int .i64 a0_1, .slice A0_2 l0_2.length c0_2, .slice A0_3 l0_3.length c0_3] 98 (0, 0)) (by (with_reducible repeat (first | refine blk_drewN ?_ _ | refine blk_drew ?_ | refine blk_alloc ?_ _)); exact BK916.out) hb); have n1_ := Aside0.mk (below_step (by repeat (first | (with_reducible first | exact HB.out | apply below_alloc | apply pw_below_drewN | apply below_drew1 | refine below_set ?_ GE916.out) | exact HB.out)) hb); clear BK916; clear HB; have BK916 := n0_; have HB := n1_; clear n0_ n1_; (try clear hb); (try clear hb2); (try clear hk); (try clear hi); have hcz15_0 : w14.cell? ⟨gb916, 0, none⟩ = some (.int .i64 a0_0) := (blk_cell BK916.out 0).trans rfl; have hcz15_1 : w14.cell? ⟨gb916, 1, none⟩ = some (.int .i64 a0_1) := (blk_cell BK916.out 1).trans rfl; have hcz15_2 : w14.cell? ⟨gb916, 2, none⟩ = some (.slice A0_2 l0_2.length c0_2) := (blk_cell BK916.out 2).trans rfl; have hcz15_3 : w14.cell? ⟨gb916, 3, none⟩ = some (.slice A0_3 l0_3.length c0_3) := (blk_cell BK916.out 3).trans rfl; have hfz15_0 := blk_frozen BK916.out 0; have hfz15_1 := blk_frozen BK916.out 1; have hfz15_2 := blk_frozen BK916.out 2; have hfz15_3 := blk_frozen BK916.out 3) | (go_at_call 123; (with_reducible refine (spec_l7Place.calls a0_0 a0_1 _ _ l0_2 _ _ l0_3 a1 true _ ?side1 ?side2 ?side3 ?side4 A8.out).mono ?_); (case side1 => repeat (first | exact (Kd.C_below HR0_2.out HB.out) | (with_reducible refine Kd.C_alloc ?_ _) | (with_reducible refine Kd.C_drewN ?_ _) | (with_reducible refine Kd.C_drew ?_))); (case side2 => exact HC0_2.out); (case side3 => repeat (first | exact (Kd.C_below HR0_3.out HB.out) | (with_reducible refine Kd.C_alloc ?_ _) | (with_reducible refine Kd.C_drewN ?_ _) | (with_reducible refine Kd.C_drew ?_))); (case side4 => exact HC0_3.out); rintro e w16 ⟨rfl, hb⟩; have n0_ := Aside0.mk (blk_below (g := gb916) (o := .cells #[.int .i64 a0_0, .int .i64 a0_1, .slice A0_2 l0_2.length c0_2, .slice A0_3 l0_3.length c0_3] 98 (0, 0)) (by (with_reducible repeat (first | refine blk_drewN ?_ _ | refine blk_drew ?_ | refine blk_alloc ?_ _)); exact BK916.out) hb); have n1_ := Aside0.mk (below_step (by repeat (first | (with_reducible first | exact HB.out | apply below_alloc | apply pw_below_drewN | apply below_drew1 | refine below_set ?_ GE916.out) | exact HB.out)) hb); clear BK916; clear HB; have BK916 := n0_; have HB := n1_; clear n0_ n1_; (try clear hb); (try clear hb2); (try clear hk); (try clear hi); have hcz17_0 : w16.cell? ⟨gb916, 0, none⟩ = some (.int .i64 a0_0) := (blk_cell BK916.out 0).trans rfl; have hcz17_1 : w16.cell? ⟨gb916, 1, none⟩ = some (.int .i64 a0_1) := (blk_cell BK916.out 1).trans rfl; have hcz17_2 : w16.cell? ⟨gb916, 2, none⟩ = some (.slice A0_2 l0_2.length c0_2) := (blk_cell BK916.out 2).trans rfl; have hcz17_3 : w16.cell? ⟨gb916, 3, none⟩ = some (.slice A0_3 l0_3.length c0_3) := (blk_cell BK916.out 3).trans rfl; have hfz17_0 := blk_frozen BK916.out 0; have hfz17_1 := blk_frozen BK916.out 1; have hfz17_2 := blk_frozen BK916.out 2; have hfz17_3 := blk_frozen BK916.out 3; have p919 : 0 ≤ (a1 : Int) := of_decide_eq_true (by first | (with_reducible assumption) | assumption); have q919 : a1 < (l0_2.length : Int) := of_decide_eq_true (by first | (with_reducible assumption) | assumption); obtain ⟨ad919, e919, hx919_0⟩ := Kd.at_int HR0_2.out a1 p919 q919; cases e919; replace hx919_0 := (HB.out.cell (World.block_lt_of_cell? w _ hx919_0)).trans hx919_0; replace p919 := eq_true p919; replace q919 := eq_true q919))
       repeat (go_quiet (first | (go_at_call 122; (with_reducible refine (spec_SeaOk.calls k a0_0 a0_1 _ _ l0_2 _ _ l0_3 true _ ?side1 ?side2 ?side3 ?side4 A6.out).mono ?_); (case side1 => repeat (first | exact (Kd.C_below HR0_2.out HB.out) | (with_reducible refine Kd.C_alloc ?_ _) | (with_reducible refine Kd.C_drewN ?_ _) | (with_reducible refine Kd.C_drew ?_))); (case side2 => exact HC0_2.out); (case side3 => repeat (first | exact (Kd.C_below HR0_3.out HB.out) | (with_reducible refine Kd.C_alloc ?_ _) | (with_reducible refine Kd.C_drewN ?_ _) | (with_reducible refine Kd.C_drew ?_))); (case side4 => exact HC0_3.out); rintro e w14 ⟨rfl, hb⟩; have n0_ := Aside0.mk (blk_below (g := gb916) (o := .cells #[.int .i64 a0_0, .int .i64 a0_1, .slice A0_2 l0_2.length c0_2, .slice A0_3 l0_3.length c0_3] 98 (0, 0)) (by (with_reducible repeat (first | refine blk_drewN ?_ _ | refine blk_drew ?_ | refine blk_alloc ?_ _)); exact BK916.out) hb); have n1_ := Aside0.mk (below_step (by repeat (first | (with_reducible first | exact HB.out | apply below_alloc | apply pw_below_drewN | apply below_drew1 | refine below_set ?_ GE916.out) | exact HB.out)) hb); clear BK916; clear HB; have BK916 := n0_; have HB := n1_; clear n0_ n1_; (try clear hb); (try clear hb2); (try clear hk); (try clear hi); have hcz15_0 : w14.cell? ⟨gb916, 0, none⟩ = some (.int .i64 a0_0) := (blk_cell BK916.out 0).trans rfl; have hcz15_1 : w14.cell? ⟨gb916, 1, none⟩ = some (.int .i64 a0_1) := (blk_cell BK916.out 1).trans rfl; have hcz15_2 : w14.cell? ⟨gb916, 2, none⟩ = some (.slice A0_2 l0_2.length c0_2) := (blk_cell BK916.out 2).trans rfl; have hcz15_3 : w14.cell? ⟨gb916, 3, none⟩ = some (.slice A0_3 l0_3.length c0_3) := (blk_cell BK916.out 3).trans rfl; have hfz15_0 := blk_frozen BK916.out 0; have hfz15_1 := blk_frozen BK916.out 1; have hfz15_2 := blk_frozen BK916.out 2; have hfz15_3 := blk_frozen BK916.out 3) | (go_at_call 123; (with_reducible refine (spec_l7Place.calls a0_0 a0_1 _ _ l0_2 _ _ l0_3 a1 true _ ?side1 ?side2 ?side3 ?side4 A8.out).mono ?_); (case side1 => repeat (first | exact (Kd.C_below HR0_2.out HB.out) | (with_reducible refine Kd.C_alloc ?_ _) | (with_reducible refine Kd.C_drewN ?_ _) | (with_reducible refine Kd.C_drew ?_))); (case side2 => exact HC0_2.out); (case side3 => repeat (first | exact (Kd.C_below HR0_3.out HB.out) | (with_reducible refine Kd.C_alloc ?_ _) | (with_reducible refine Kd.C_drewN ?_ _) | (with_reducible refine Kd.C_drew ?_))); (case side4 => exact HC0_3.out); rintro e w16 ⟨rfl, hb⟩; have n0_ := Aside0.mk (blk_below (g := gb916) (o := .cells #[.int .i64 a0_0, .int .i64 a0_1, .slice A0_2 l0_2.length c0_2, .slice A0_3 l0_3.length c0_3] 98 (0, 0)) (by (with_reducible repeat (first | refine blk_drewN ?_ _ | refine blk_drew ?_ | refine blk_alloc ?_ _)); exact BK916.out) hb); have n1_ := Aside0.mk (below_step (by repeat (first | (with_reducible first | exact HB.out | apply below_alloc | apply pw_below_drewN | apply below_drew1 | refine below_set ?_ GE916.out) | exact HB.out)) hb); clear BK916; clear HB; have BK916 := n0_; have HB := n1_; clear n0_ n1_; (try clear hb); (try clear hb2); (try clear hk); (try clear hi); have hcz17_0 : w16.cell? ⟨gb916, 0, none⟩ = some (.int .i64 a0_0) := (blk_cell BK916.out 0).trans rfl; have hcz17_1 : w16.cell? ⟨gb916, 1, none⟩ = some (.int .i64 a0_1) := (blk_cell BK916.out 1).trans rfl; have hcz17_2 : w16.cell? ⟨gb916, 2, none⟩ = some (.slice A0_2 l0_2.length c0_2) := (blk_cell BK916.out 2).trans rfl; have hcz17_3 : w16.cell? ⟨gb916, 3, none⟩ = some (.slice A0_3 l0_3.length c0_3) := (blk_cell BK916.out 3).trans rfl; have hfz17_0 := blk_frozen BK916.out 0; have hfz17_1 := blk_frozen BK916.out 1; have hfz17_2 := blk_frozen BK916.out 2; have hfz17_3 := blk_frozen BK916.out 3; have p919 : 0 ≤ (a1 : Int) := of_decide_eq_true (by first | (with_reducible assumption) | assumption); have q919 : a1 < (l0_2.length : Int) := of_decide_eq_true (by first | (with_reducible assumption) | assumption); obtain ⟨ad919, e919, hx919_0⟩ := Kd.at_int HR0_2.out a1 p919 q919; cases e919; replace hx919_0 := (HB.out.cell (World.block_lt_of_cell? w _ hx919_0)).trans hx919_0; replace p919 := eq_true p919; replace q919 := eq_true q919)); try go_wp2_with (first | (go_at_call 122; (with_reducible refine (spec_SeaOk.calls k a0_0 a0_1 _ _ l0_2 _ _ l0_3 true _ ?side1 ?side2 ?side3 ?side4 A6.out).mono ?_); (case side1 => repeat (first | exact (Kd.C_below HR0_2.out HB.out) | (with_reducible refine Kd.C_alloc ?_ _) | (with_reducible refine Kd.C_drewN ?_ _) | (with_reducible refine Kd.C_drew ?_))); (case side2 => exact HC0_2.out); (case side3 => repeat (first | exact (Kd.C_below HR0_3.out HB.out) | (with_reducible refine Kd.C_alloc ?_ _) | (with_reducible refine Kd.C_drewN ?_ _) | (with_reducible refine Kd.C_drew ?_))); (case side4 => exact HC0_3.out); rintro e w14 ⟨rfl, hb⟩; have n0_ := Aside0.mk (blk_below (g := gb916) (o := .cells #[.int .i64 a0_0, .int .i64 a0_1, .slice A0_2 l0_2.length c0_2, .slice A0_3 l0_3.length c0_3] 98 (0, 0)) (by (with_reducible repeat (first | refine blk_drewN ?_ _ | refine blk_drew ?_ | refine blk_alloc ?_ _)); exact BK916.out) hb); have n1_ := Aside0.mk (below_step (by repeat (first | (with_reducible first | exact HB.out | apply below_alloc | apply pw_below_drewN | apply below_drew1 | refine below_set ?_ GE916.out) | exact HB.out)) hb); clear BK916; clear HB; have BK916 := n0_; have HB := n1_; clear n0_ n1_; (try clear hb); (try clear hb2); (try clear hk); (try clear hi); have hcz15_0 : w14.cell? ⟨gb916, 0, none⟩ = some (.int .i64 a0_0) := (blk_cell BK916.out 0).trans rfl; have hcz15_1 : w14.cell? ⟨gb916, 1, none⟩ = some (.int .i64 a0_1) := (blk_cell BK916.out 1).trans rfl; have hcz15_2 : w14.cell? ⟨gb916, 2, none⟩ = some (.slice A0_2 l0_2.length c0_2) := (blk_cell BK916.out 2).trans rfl; have hcz15_3 : w14.cell? ⟨gb916, 3, none⟩ = some (.slice A0_3 l0_3.length c0_3) := (blk_cell BK916.out 3).trans rfl; have hfz15_0 := blk_frozen BK916.out 0; have hfz15_1 := blk_frozen BK916.out 1; have hfz15_2 := blk_frozen BK916.out 2; have hfz15_3 := blk_frozen BK916.out 3) | (go_at_call 123; (with_reducible refine (spec_l7Place.calls a0_0 a0_1 _ _ l0_2 _ _ l0_3 a1 true _ ?side1 ?side2 ?side3 ?side4 A8.out).mono ?_); (case side1 => repeat (first | exact (Kd.C_below HR0_2.out HB.out) | (with_reducible refine Kd.C_alloc ?_ _) | (with_reducible refine Kd.C_drewN ?_ _) | (with_reducible refine Kd.C_drew ?_))); (case side2 => exact HC0_2.out); (case side3 => repeat (first | exact (Kd.C_below HR0_3.out HB.out) | (with_reducible refine Kd.C_alloc ?_ _) | (with_reducible refine Kd.C_drewN ?_ _) | (with_reducible refine Kd.C_drew ?_))); (case side4 => exact HC0_3.out); rintro e w16 ⟨rfl, hb⟩; have n0_ := Aside0.mk (blk_below (g := gb916) (o := .cells #[.int .i64 a0_0, .int .i64 a0_1, .slice A0_2 l0_2.length c0_2, .slice A0_3 l0_3.length c0_3] 98 (0, 0)) (by (with_reducible repeat (first | refine blk_drewN ?_ _ | refine blk_drew ?_ | refine blk_alloc ?_ _)); exact BK916.out) hb); have n1_ := Aside0.mk (below_step (by repeat (first | (with_reducible first | exact HB.out | apply below_alloc | apply pw_below_drewN | apply below_drew1 | refine below_set ?_ GE916.out) | exact HB.out)) hb); clear BK916; clear HB; have BK916 := n0_; have HB := n1_; clear n0_ n1_; (try clear hb); (try clear hb2); (try clear hk); (try clear hi); have hcz17_0 : w16.cell? ⟨gb916, 0, none⟩ = some (.int .i64 a0_0) := (blk_cell BK916.out 0).trans rfl; have hcz17_1 : w16.cell? ⟨gb916, 1, none⟩ = some (.int .i64 a0_1) := (blk_cell BK916.out 1).trans rfl; have hcz17_2 : w16.cell? ⟨gb916, 2, none⟩ = some (.slice A0_2 l0_2.length c0_2) := (blk_cell BK916.out 2).trans rfl; have hcz17_3 : w16.cell? ⟨gb916, 3, none⟩ = some (.slice A0_3 l0_3.length c0_3) := (blk_cell BK916.out 3).trans rfl; have hfz17_0 := blk_frozen BK916.out 0; have hfz17_1 := blk_frozen BK916.out 1; have hfz17_2 := blk_frozen BK916.out 2; have hfz17_3 := blk_frozen BK916.out 3; have p919 : 0 ≤ (a1 : Int) := of_decide_eq_true (by first | (with_reducible assumption) | assumption); have q919 : a1 < (l0_2.length : Int) := of_decide_eq_true (by first | (with_reducible assumption) | assumption); obtain ⟨ad919, e919, hx919_0⟩ := Kd.at_int HR0_2.out a1 p919 q919; cases e919; replace hx919_0 := (HB.out.cell (World.block_lt_of_cell? w _ hx919_0)).trans hx919_0; replace p919 := eq_true p919; replace q919 := eq_true q919)))
       go_meet
       case rel => exact ⟨_, (true), (by first | rfl | (simp; done) | (simp [*]; done)), H', ⟨by first | omega | exact Nat.le_refl _⟩, ⟨by (with_reducible repeat (first | refine blk_drewN ?_ _ | refine blk_drew ?_ | refine blk_alloc ?_ _)); exact BK916.out⟩, ⟨by repeat (first | (with_reducible first | exact HB.out | apply below_alloc | apply pw_below_drewN | apply below_drew1 | refine below_set ?_ GE916.out) | exact HB.out)⟩⟩
      ·rw [if_neg c12] at H
       have c12b0 : ((rd l0_2 a1) == 0) = false := beq_eq_false_iff_ne.mpr c12
       have c12b1 : ((rd l0_2 a1) != 0) = true := bne_iff_ne.mpr c12
       by_cases c18 : (l2.length : Int) = (l0_2.length : Int)
       ·rw [if_pos c18] at H
        have c18b0 : ((l2.length : Int) == (l0_2.length : Int)) = true := beq_iff_eq.mpr c18
        have c18b1 : ((l2.length : Int) != (l0_2.length : Int)) = false := bne_eq_false_iff_eq.mpr c18
        have c18b2 : (l2.length == l0_2.length) = true := by first | simpa using c18 | (simp at c18 ⊢; omega)
        clear c18
        by_cases c19 : a1 < (l2.length : Int)
        ·rw [if_pos c19] at H
         have c19b0 : decide (a1 < (l2.length : Int)) = true := decide_eq_true c19
         clear c19
         have H' := Aside0.mk H
         clear H
         have hcz20_0 : w5.cell? ⟨gb916, 0, none⟩ = some (.int .i64 a0_0) := (blk_cell BK916.out 0).trans rfl
         have hcz20_1 : w5.cell? ⟨gb916, 1, none⟩ = some (.int .i64 a0_1) := (blk_cell BK916.out 1).trans rfl
         have hcz20_2 : w5.cell? ⟨gb916, 2, none⟩ = some (.slice A0_2 l0_2.length c0_2) := (blk_cell BK916.out 2).trans rfl
         have hcz20_3 : w5.cell? ⟨gb916, 3, none⟩ = some (.slice A0_3 l0_3.length c0_3) := (blk_cell BK916.out 3).trans rfl
         have hfz20_0 := blk_frozen BK916.out 0
         have hfz20_1 := blk_frozen BK916.out 1
         have hfz20_2 := blk_frozen BK916.out 2
         have hfz20_3 := blk_frozen BK916.out 3
         go_wp2_with (first | (go_at_call 122; (with_reducible refine (spec_SeaOk.calls k a0_0 a0_1 _ _ l0_2 _ _ l0_3 true _ ?side1 ?side2 ?side3 ?side4 A6.out).mono ?_); (case side1 => repeat (first | exact (Kd.C_below HR0_2.out HB.out) | (with_reducible refine Kd.C_alloc ?_ _) | (with_reducible refine Kd.C_drewN ?_ _) | (with_reducible refine Kd.C_drew ?_))); (case side2 => exact HC0_2.out); (case side3 => repeat (first | exact (Kd.C_below HR0_3.out HB.out) | (with_reducible refine Kd.C_alloc ?_ _) | (with_reducible refine Kd.C_drewN ?_ _) | (with_reducible refine Kd.C_drew ?_))); (case side4 => exact HC0_3.out); rintro e w21 ⟨rfl, hb⟩; have n0_ := Aside0.mk (blk_below (g := gb916) (o := .cells #[.int .i64 a0_0, .int .i64 a0_1, .slice A0_2 l0_2.length c0_2, .slice A0_3 l0_3.length c0_3] 98 (0, 0)) (by (with_reducible repeat (first | refine blk_drewN ?_ _ | refine blk_drew ?_ | refine blk_alloc ?_ _)); exact BK916.out) hb); have n1_ := Aside0.mk (below_step (by repeat (first | (with_reducible first | exact HB.out | apply below_alloc | apply pw_below_drewN | apply below_drew1 | refine below_set ?_ GE916.out) | exact HB.out)) hb); clear BK916; clear HB; have BK916 := n0_; have HB := n1_; clear n0_ n1_; (try clear hb); (try clear hb2); (try clear hk); (try clear hi); have hcz22_0 : w21.cell? ⟨gb916, 0, none⟩ = some (.int .i64 a0_0) := (blk_cell BK916.out 0).trans rfl; have hcz22_1 : w21.cell? ⟨gb916, 1, none⟩ = some (.int .i64 a0_1) := (blk_cell BK916.out 1).trans rfl; have hcz22_2 : w21.cell? ⟨gb916, 2, none⟩ = some (.slice A0_2 l0_2.length c0_2) := (blk_cell BK916.out 2).trans rfl; have hcz22_3 : w21.cell? ⟨gb916, 3, none⟩ = some (.slice A0_3 l0_3.length c0_3) := (blk_cell BK916.out 3).trans rfl; have hfz22_0 := blk_frozen BK916.out 0; have hfz22_1 := blk_frozen BK916.out 1; have hfz22_2 := blk_frozen BK916.out 2; have hfz22_3 := blk_frozen BK916.out 3) | (go_at_call 123; (with_reducible refine (spec_l7Place.calls a0_0 a0_1 _ _ l0_2 _ _ l0_3 a1 true _ ?side1 ?side2 ?side3 ?side4 A8.out).mono ?_); (case side1 => repeat (first | exact (Kd.C_below HR0_2.out HB.out) | (with_reducible refine Kd.C_alloc ?_ _) | (with_reducible refine Kd.C_drewN ?_ _) | (with_reducible refine Kd.C_drew ?_))); (case side2 => exact HC0_2.out); (case side3 => repeat (first | exact (Kd.C_below HR0_3.out HB.out) | (with_reducible refine Kd.C_alloc ?_ _) | (with_reducible refine Kd.C_drewN ?_ _) | (with_reducible refine Kd.C_drew ?_))); (case side4 => exact HC0_3.out); rintro e w23 ⟨rfl, hb⟩; have n0_ := Aside0.mk (blk_below (g := gb916) (o := .cells #[.int .i64 a0_0, .int .i64 a0_1, .slice A0_2 l0_2.length c0_2, .slice A0_3 l0_3.length c0_3] 98 (0, 0)) (by (with_reducible repeat (first | refine blk_drewN ?_ _ | refine blk_drew ?_ | refine blk_alloc ?_ _)); exact BK916.out) hb); have n1_ := Aside0.mk (below_step (by repeat (first | (with_reducible first | exact HB.out | apply below_alloc | apply pw_below_drewN | apply below_drew1 | refine below_set ?_ GE916.out) | exact HB.out)) hb); clear BK916; clear HB; have BK916 := n0_; have HB := n1_; clear n0_ n1_; (try clear hb); (try clear hb2); (try clear hk); (try clear hi); have hcz24_0 : w23.cell? ⟨gb916, 0, none⟩ = some (.int .i64 a0_0) := (blk_cell BK916.out 0).trans rfl; have hcz24_1 : w23.cell? ⟨gb916, 1, none⟩ = some (.int .i64 a0_1) := (blk_cell BK916.out 1).trans rfl; have hcz24_2 : w23.cell? ⟨gb916, 2, none⟩ = some (.slice A0_2 l0_2.length c0_2) := (blk_cell BK916.out 2).trans rfl; have hcz24_3 : w23.cell? ⟨gb916, 3, none⟩ = some (.slice A0_3 l0_3.length c0_3) := (blk_cell BK916.out 3).trans rfl; have hfz24_0 := blk_frozen BK916.out 0; have hfz24_1 := blk_frozen BK916.out 1; have hfz24_2 := blk_frozen BK916.out 2; have hfz24_3 := blk_frozen BK916.out 3; have p919 : 0 ≤ (a1 : Int) := of_decide_eq_true (by first | (with_reducible assumption) | assumption); have q919 : a1 < (l0_2.length : Int) := of_decide_eq_true (by first | (with_reducible assumption) | assumption); obtain ⟨ad919, e919, hx919_0⟩ := Kd.at_int HR0_2.out a1 p919 q919; cases e919; replace hx919_0 := (HB.out.cell (World.block_lt_of_cell? w _ hx919_0)).trans hx919_0; replace p919 := eq_true p919; replace q919 := eq_true q919; have p920 : 0 ≤ (a1 : Int) := of_decide_eq_true (by first | (with_reducible assumption) | assumption); have q920 : a1 < (l2.length : Int) := of_decide_eq_true (by first | (with_reducible assumption) | assumption); obtain ⟨ad920, e920, hx920_0⟩ := Kd.at_int HR2.out a1 p920 q920; cases e920; replace hx920_0 := (HB.out.cell (World.block_lt_of_cell? w _ hx920_0)).trans hx920_0; replace p920 := eq_true p920; replace q920 := eq_true q920))
         repeat (go_quiet (first | (go_at_call 122; (with_reducible refine (spec_SeaOk.calls k a0_0 a0_1 _ _ l0_2 _ _ l0_3 true _ ?side1 ?side2 ?side3 ?side4 A6.out).mono ?_); (case side1 => repeat (first | exact (Kd.C_below HR0_2.out HB.out) | (with_reducible refine Kd.C_alloc ?_ _) | (with_reducible refine Kd.C_drewN ?_ _) | (with_reducible refine Kd.C_drew ?_))); (case side2 => exact HC0_2.out); (case side3 => repeat (first | exact (Kd.C_below HR0_3.out HB.out) | (with_reducible refine Kd.C_alloc ?_ _) | (with_reducible refine Kd.C_drewN ?_ _) | (with_reducible refine Kd.C_drew ?_))); (case side4 => exact HC0_3.out); rintro e w21 ⟨rfl, hb⟩; have n0_ := Aside0.mk (blk_below (g := gb916) (o := .cells #[.int .i64 a0_0, .int .i64 a0_1, .slice A0_2 l0_2.length c0_2, .slice A0_3 l0_3.length c0_3] 98 (0, 0)) (by (with_reducible repeat (first | refine blk_drewN ?_ _ | refine blk_drew ?_ | refine blk_alloc ?_ _)); exact BK916.out) hb); have n1_ := Aside0.mk (below_step (by repeat (first | (with_reducible first | exact HB.out | apply below_alloc | apply pw_below_drewN | apply below_drew1 | refine below_set ?_ GE916.out) | exact HB.out)) hb); clear BK916; clear HB; have BK916 := n0_; have HB := n1_; clear n0_ n1_; (try clear hb); (try clear hb2); (try clear hk); (try clear hi); have hcz22_0 : w21.cell? ⟨gb916, 0, none⟩ = some (.int .i64 a0_0) := (blk_cell BK916.out 0).trans rfl; have hcz22_1 : w21.cell? ⟨gb916, 1, none⟩ = some (.int .i64 a0_1) := (blk_cell BK916.out 1).trans rfl; have hcz22_2 : w21.cell? ⟨gb916, 2, none⟩ = some (.slice A0_2 l0_2.length c0_2) := (blk_cell BK916.out 2).trans rfl; have hcz22_3 : w21.cell? ⟨gb916, 3, none⟩ = some (.slice A0_3 l0_3.length c0_3) := (blk_cell BK916.out 3).trans rfl; have hfz22_0 := blk_frozen BK916.out 0; have hfz22_1 := blk_frozen BK916.out 1; have hfz22_2 := blk_frozen BK916.out 2; have hfz22_3 := blk_frozen BK916.out 3) | (go_at_call 123; (with_reducible refine (spec_l7Place.calls a0_0 a0_1 _ _ l0_2 _ _ l0_3 a1 true _ ?side1 ?side2 ?side3 ?side4 A8.out).mono ?_); (case side1 => repeat (first | exact (Kd.C_below HR0_2.out HB.out) | (with_reducible refine Kd.C_alloc ?_ _) | (with_reducible refine Kd.C_drewN ?_ _) | (with_reducible refine Kd.C_drew ?_))); (case side2 => exact HC0_2.out); (case side3 => repeat (first | exact (Kd.C_below HR0_3.out HB.out) | (with_reducible refine Kd.C_alloc ?_ _) | (with_reducible refine Kd.C_drewN ?_ _) | (with_reducible refine Kd.C_drew ?_))); (case side4 => exact HC0_3.out); rintro e w23 ⟨rfl, hb⟩; have n0_ := Aside0.mk (blk_below (g := gb916) (o := .cells #[.int .i64 a0_0, .int .i64 a0_1, .slice A0_2 l0_2.length c0_2, .slice A0_3 l0_3.length c0_3] 98 (0, 0)) (by (with_reducible repeat (first | refine blk_drewN ?_ _ | refine blk_drew ?_ | refine blk_alloc ?_ _)); exact BK916.out) hb); have n1_ := Aside0.mk (below_step (by repeat (first | (with_reducible first | exact HB.out | apply below_alloc | apply pw_below_drewN | apply below_drew1 | refine below_set ?_ GE916.out) | exact HB.out)) hb); clear BK916; clear HB; have BK916 := n0_; have HB := n1_; clear n0_ n1_; (try clear hb); (try clear hb2); (try clear hk); (try clear hi); have hcz24_0 : w23.cell? ⟨gb916, 0, none⟩ = some (.int .i64 a0_0) := (blk_cell BK916.out 0).trans rfl; have hcz24_1 : w23.cell? ⟨gb916, 1, none⟩ = some (.int .i64 a0_1) := (blk_cell BK916.out 1).trans rfl; have hcz24_2 : w23.cell? ⟨gb916, 2, none⟩ = some (.slice A0_2 l0_2.length c0_2) := (blk_cell BK916.out 2).trans rfl; have hcz24_3 : w23.cell? ⟨gb916, 3, none⟩ = some (.slice A0_3 l0_3.length c0_3) := (blk_cell BK916.out 3).trans rfl; have hfz24_0 := blk_frozen BK916.out 0; have hfz24_1 := blk_frozen BK916.out 1; have hfz24_2 := blk_frozen BK916.out 2; have hfz24_3 := blk_frozen BK916.out 3; have p919 : 0 ≤ (a1 : Int) := of_decide_eq_true (by first | (with_reducible assumption) | assumption); have q919 : a1 < (l0_2.length : Int) := of_decide_eq_true (by first | (with_reducible assumption) | assumption); obtain ⟨ad919, e919, hx919_0⟩ := Kd.at_int HR0_2.out a1 p919 q919; cases e919; replace hx919_0 := (HB.out.cell (World.block_lt_of_cell? w _ hx919_0)).trans hx919_0; replace p919 := eq_true p919; replace q919 := eq_true q919; have p920 : 0 ≤ (a1 : Int) := of_decide_eq_true (by first | (with_reducible assumption) | assumption); have q920 : a1 < (l2.length : Int) := of_decide_eq_true (by first | (with_reducible assumption) | assumption); obtain ⟨ad920, e920, hx920_0⟩ := Kd.at_int HR2.out a1 p920 q920; cases e920; replace hx920_0 := (HB.out.cell (World.block_lt_of_cell? w _ hx920_0)).trans hx920_0; replace p920 := eq_true p920; replace q920 := eq_true q920)); try go_wp2_with (first | (go_at_call 122; (with_reducible refine (spec_SeaOk.calls k a0_0 a0_1 _ _ l0_2 _ _ l0_3 true _ ?side1 ?side2 ?side3 ?side4 A6.out).mono ?_); (case side1 => repeat (first | exact (Kd.C_below HR0_2.out HB.out) | (with_reducible refine Kd.C_alloc ?_ _) | (with_reducible refine Kd.C_drewN ?_ _) | (with_reducible refine Kd.C_drew ?_))); (case side2 => exact HC0_2.out); (case side3 => repeat (first | exact (Kd.C_below HR0_3.out HB.out) | (with_reducible refine Kd.C_alloc ?_ _) | (with_reducible refine Kd.C_drewN ?_ _) | (with_reducible refine Kd.C_drew ?_))); (case side4 => exact HC0_3.out); rintro e w21 ⟨rfl, hb⟩; have n0_ := Aside0.mk (blk_below (g := gb916) (o := .cells #[.int .i64 a0_0, .int .i64 a0_1, .slice A0_2 l0_2.length c0_2, .slice A0_3 l0_3.length c0_3] 98 (0, 0)) (by (with_reducible repeat (first | refine blk_drewN ?_ _ | refine blk_drew ?_ | refine blk_alloc ?_ _)); exact BK916.out) hb); have n1_ := Aside0.mk (below_step (by repeat (first | (with_reducible first | exact HB.out | apply below_alloc | apply pw_below_drewN | apply below_drew1 | refine below_set ?_ GE916.out) | exact HB.out)) hb); clear BK916; clear HB; have BK916 := n0_; have HB := n1_; clear n0_ n1_; (try clear hb); (try clear hb2); (try clear hk); (try clear hi); have hcz22_0 : w21.cell? ⟨gb916, 0, none⟩ = some (.int .i64 a0_0) := (blk_cell BK916.out 0).trans rfl; have hcz22_1 : w21.cell? ⟨gb916, 1, none⟩ = some (.int .i64 a0_1) := (blk_cell BK916.out 1).trans rfl; have hcz22_2 : w21.cell? ⟨gb916, 2, none⟩ = some (.slice A0_2 l0_2.length c0_2) := (blk_cell BK916.out 2).trans rfl; have hcz22_3 : w21.cell? ⟨gb916, 3, none⟩ = some (.slice A0_3 l0_3.length c0_3) := (blk_cell BK916.out 3).trans rfl; have hfz22_0 := blk_frozen BK916.out 0; have hfz22_1 := blk_frozen BK916.out 1; have hfz22_2 := blk_frozen BK916.out 2; have hfz22_3 := blk_frozen BK916.out 3) | (go_at_call 123; (with_reducible refine (spec_l7Place.calls a0_0 a0_1 _ _ l0_2 _ _ l0_3 a1 true _ ?side1 ?side2 ?side3 ?side4 A8.out).mono ?_); (case side1 => repeat (first | exact (Kd.C_below HR0_2.out HB.out) | (with_reducible refine Kd.C_alloc ?_ _) | (with_reducible refine Kd.C_drewN ?_ _) | (with_reducible refine Kd.C_drew ?_))); (case side2 => exact HC0_2.out); (case side3 => repeat (first | exact (Kd.C_below HR0_3.out HB.out) | (with_reducible refine Kd.C_alloc ?_ _) | (with_reducible refine Kd.C_drewN ?_ _) | (with_reducible refine Kd.C_drew ?_))); (case side4 => exact HC0_3.out); rintro e w23 ⟨rfl, hb⟩; have n0_ := Aside0.mk (blk_below (g := gb916) (o := .cells #[.int .i64 a0_0, .int .i64 a0_1, .slice A0_2 l0_2.length c0_2, .slice A0_3 l0_3.length c0_3] 98 (0, 0)) (by (with_reducible repeat (first | refine blk_drewN ?_ _ | refine blk_drew ?_ | refine blk_alloc ?_ _)); exact BK916.out) hb); have n1_ := Aside0.mk (below_step (by repeat (first | (with_reducible first | exact HB.out | apply below_alloc | apply pw_below_drewN | apply below_drew1 | refine below_set ?_ GE916.out) | exact HB.out)) hb); clear BK916; clear HB; have BK916 := n0_; have HB := n1_; clear n0_ n1_; (try clear hb); (try clear hb2); (try clear hk); (try clear hi); have hcz24_0 : w23.cell? ⟨gb916, 0, none⟩ = some (.int .i64 a0_0) := (blk_cell BK916.out 0).trans rfl; have hcz24_1 : w23.cell? ⟨gb916, 1, none⟩ = some (.int .i64 a0_1) := (blk_cell BK916.out 1).trans rfl; have hcz24_2 : w23.cell? ⟨gb916, 2, none⟩ = some (.slice A0_2 l0_2.length c0_2) := (blk_cell BK916.out 2).trans rfl; have hcz24_3 : w23.cell? ⟨gb916, 3, none⟩ = some (.slice A0_3 l0_3.length c0_3) := (blk_cell BK916.out 3).trans rfl; have hfz24_0 := blk_frozen BK916.out 0; have hfz24_1 := blk_frozen BK916.out 1; have hfz24_2 := blk_frozen BK916.out 2; have hfz24_3 := blk_frozen BK916.out 3; have p919 : 0 ≤ (a1 : Int) := of_decide_eq_true (by first | (with_reducible assumption) | assumption); have q919 : a1 < (l0_2.length : Int) := of_decide_eq_true (by first | (with_reducible assumption) | assumption); obtain ⟨ad919, e919, hx919_0⟩ := Kd.at_int HR0_2.out a1 p919 q919; cases e919; replace hx919_0 := (HB.out.cell (World.block_lt_of_cell? w _ hx919_0)).trans hx919_0; replace p919 := eq_true p919; replace q919 := eq_true q919; have p920 : 0 ≤ (a1 : Int) := of_decide_eq_true (by first | (with_reducible assumption) | assumption); have q920 : a1 < (l2.length : Int) := of_decide_eq_true (by first | (with_reducible assumption) | assumption); obtain ⟨ad920, e920, hx920_0⟩ := Kd.at_int HR2.out a1 p920 q920; cases e920; replace hx920_0 := (HB.out.cell (World.block_lt_of_cell? w _ hx920_0)).trans hx920_0; replace p920 := eq_true p920; replace q920 := eq_true q920)))
         go_meet
         case rel => exact ⟨_, (((rd l2 a1) != 0)), (by first | rfl | (simp; done) | (simp [*]; done)), H', ⟨by first | omega | exact Nat.le_refl _⟩, ⟨by (with_reducible repeat (first | refine blk_drewN ?_ _ | refine blk_drew ?_ | refine blk_alloc ?_ _)); exact BK916.out⟩, ⟨by repeat (first | (with_reducible first | exact HB.out | apply below_alloc | apply pw_below_drewN | apply below_drew1 | refine below_set ?_ GE916.out) | exact HB.out)⟩⟩
        ·rw [if_neg c19] at H
         exact absurd H (by simp)
       ·rw [if_neg c18] at H
        have c18b0 : ((l2.length : Int) == (l0_2.length : Int)) = false := beq_eq_false_iff_ne.mpr c18
        have c18b1 : ((l2.length : Int) != (l0_2.length : Int)) = true := bne_iff_ne.mpr c18
        have c18b2 : (l2.length == l0_2.length) = false := by first | simpa using c18 | (simp at c18 ⊢; omega)
        have H' := Aside0.mk H
        clear H
        have hcz25_0 : w5.cell? ⟨gb916, 0, none⟩ = some (.int .i64 a0_0) := (blk_cell BK916.out 0).trans rfl
        have hcz25_1 : w5.cell? ⟨gb916, 1, none⟩ = some (.int .i64 a0_1) := (blk_cell BK916.out 1).trans rfl
        have hcz25_2 : w5.cell? ⟨gb916, 2, none⟩ = some (.slice A0_2 l0_2.length c0_2) := (blk_cell BK916.out 2).trans rfl
        have hcz25_3 : w5.cell? ⟨gb916, 3, none⟩ = some (.slice A0_3 l0_3.length c0_3) := (blk_cell BK916.out 3).trans rfl
        have hfz25_0 := blk_frozen BK916.out 0
        have hfz25_1 := blk_frozen BK916.out 1
        have hfz25_2 := blk_frozen BK916.out 2
        have hfz25_3 := blk_frozen BK916.out 3
        go_wp2_with (first | (go_at_call 122; (with_reducible refine (spec_SeaOk.calls k a0_0 a0_1 _ _ l0_2 _ _ l0_3 true _ ?side1 ?side2 ?side3 ?side4 A6.out).mono ?_); (case side1 => repeat (first | exact (Kd.C_below HR0_2.out HB.out) | (with_reducible refine Kd.C_alloc ?_ _) | (with_reducible refine Kd.C_drewN ?_ _) | (with_reducible refine Kd.C_drew ?_))); (case side2 => exact HC0_2.out); (case side3 => repeat (first | exact (Kd.C_below HR0_3.out HB.out) | (with_reducible refine Kd.C_alloc ?_ _) | (with_reducible refine Kd.C_drewN ?_ _) | (with_reducible refine Kd.C_drew ?_))); (case side4 => exact HC0_3.out); rintro e w26 ⟨rfl, hb⟩; have n0_ := Aside0.mk (blk_below (g := gb916) (o := .cells #[.int .i64 a0_0, .int .i64 a0_1, .slice A0_2 l0_2.length c0_2, .slice A0_3 l0_3.length c0_3] 98 (0, 0)) (by (with_reducible repeat (first | refine blk_drewN ?_ _ | refine blk_drew ?_ | refine blk_alloc ?_ _)); exact BK916.out) hb); have n1_ := Aside0.mk (below_step (by repeat (first | (with_reducible first | exact HB.out | apply below_alloc | apply pw_below_drewN | apply below_drew1 | refine below_set ?_ GE916.out) | exact HB.out)) hb); clear BK916; clear HB; have BK916 := n0_; have HB := n1_; clear n0_ n1_; (try clear hb); (try clear hb2); (try clear hk); (try clear hi); have hcz27_0 : w26.cell? ⟨gb916, 0, none⟩ = some (.int .i64 a0_0) := (blk_cell BK916.out 0).trans rfl; have hcz27_1 : w26.cell? ⟨gb916, 1, none⟩ = some (.int .i64 a0_1) := (blk_cell BK916.out 1).trans rfl; have hcz27_2 : w26.cell? ⟨gb916, 2, none⟩ = some (.slice A0_2 l0_2.length c0_2) := (blk_cell BK916.out 2).trans rfl; have hcz27_3 : w26.cell? ⟨gb916, 3, none⟩ = some (.slice A0_3 l0_3.length c0_3) := (blk_cell BK916.out 3).trans rfl; have hfz27_0 := blk_frozen BK916.out 0; have hfz27_1 := blk_frozen BK916.out 1; have hfz27_2 := blk_frozen BK916.out 2; have hfz27_3 := blk_frozen BK916.out 3) | (go_at_call 123; (with_reducible refine (spec_l7Place.calls a0_0 a0_1 _ _ l0_2 _ _ l0_3 a1 true _ ?side1 ?side2 ?side3 ?side4 A8.out).mono ?_); (case side1 => repeat (first | exact (Kd.C_below HR0_2.out HB.out) | (with_reducible refine Kd.C_alloc ?_ _) | (with_reducible refine Kd.C_drewN ?_ _) | (with_reducible refine Kd.C_drew ?_))); (case side2 => exact HC0_2.out); (case side3 => repeat (first | exact (Kd.C_below HR0_3.out HB.out) | (with_reducible refine Kd.C_alloc ?_ _) | (with_reducible refine Kd.C_drewN ?_ _) | (with_reducible refine Kd.C_drew ?_))); (case side4 => exact HC0_3.out); rintro e w28 ⟨rfl, hb⟩; have n0_ := Aside0.mk (blk_below (g := gb916) (o := .cells #[.int .i64 a0_0, .int .i64 a0_1, .slice A0_2 l0_2.length c0_2, .slice A0_3 l0_3.length c0_3] 98 (0, 0)) (by (with_reducible repeat (first | refine blk_drewN ?_ _ | refine blk_drew ?_ | refine blk_alloc ?_ _)); exact BK916.out) hb); have n1_ := Aside0.mk (below_step (by repeat (first | (with_reducible first | exact HB.out | apply below_alloc | apply pw_below_drewN | apply below_drew1 | refine below_set ?_ GE916.out) | exact HB.out)) hb); clear BK916; clear HB; have BK916 := n0_; have HB := n1_; clear n0_ n1_; (try clear hb); (try clear hb2); (try clear hk); (try clear hi); have hcz29_0 : w28.cell? ⟨gb916, 0, none⟩ = some (.int .i64 a0_0) := (blk_cell BK916.out 0).trans rfl; have hcz29_1 : w28.cell? ⟨gb916, 1, none⟩ = some (.int .i64 a0_1) := (blk_cell BK916.out 1).trans rfl; have hcz29_2 : w28.cell? ⟨gb916, 2, none⟩ = some (.slice A0_2 l0_2.length c0_2) := (blk_cell BK916.out 2).trans rfl; have hcz29_3 : w28.cell? ⟨gb916, 3, none⟩ = some (.slice A0_3 l0_3.length c0_3) := (blk_cell BK916.out 3).trans rfl; have hfz29_0 := blk_frozen BK916.out 0; have hfz29_1 := blk_frozen BK916.out 1; have hfz29_2 := blk_frozen BK916.out 2; have hfz29_3 := blk_frozen BK916.out 3; have p919 : 0 ≤ (a1 : Int) := of_decide_eq_true (by first | (with_reducible assumption) | assumption); have q919 : a1 < (l0_2.length : Int) := of_decide_eq_true (by first | (with_reducible assumption) | assumption); obtain ⟨ad919, e919, hx919_0⟩ := Kd.at_int HR0_2.out a1 p919 q919; cases e919; replace hx919_0 := (HB.out.cell (World.block_lt_of_cell? w _ hx919_0)).trans hx919_0; replace p919 := eq_true p919; replace q919 := eq_true q919))
        repeat (go_quiet (first | (go_at_call 122; (with_reducible refine (spec_SeaOk.calls k a0_0 a0_1 _ _ l0_2 _ _ l0_3 true _ ?side1 ?side2 ?side3 ?side4 A6.out).mono ?_); (case side1 => repeat (first | exact (Kd.C_below HR0_2.out HB.out) | (with_reducible refine Kd.C_alloc ?_ _) | (with_reducible refine Kd.C_drewN ?_ _) | (with_reducible refine Kd.C_drew ?_))); (case side2 => exact HC0_2.out); (case side3 => repeat (first | exact (Kd.C_below HR0_3.out HB.out) | (with_reducible refine Kd.C_alloc ?_ _) | (with_reducible refine Kd.C_drewN ?_ _) | (with_reducible refine Kd.C_drew ?_))); (case side4 => exact HC0_3.out); rintro e w26 ⟨rfl, hb⟩; have n0_ := Aside0.mk (blk_below (g := gb916) (o := .cells #[.int .i64 a0_0, .int .i64 a0_1, .slice A0_2 l0_2.length c0_2, .slice A0_3 l0_3.length c0_3] 98 (0, 0)) (by (with_reducible repeat (first | refine blk_drewN ?_ _ | refine blk_drew ?_ | refine blk_alloc ?_ _)); exact BK916.out) hb); have n1_ := Aside0.mk (below_step (by repeat (first | (with_reducible first | exact HB.out | apply below_alloc | apply pw_below_drewN | apply below_drew1 | refine below_set ?_ GE916.out) | exact HB.out)) hb); clear BK916; clear HB; have BK916 := n0_; have HB := n1_; clear n0_ n1_; (try clear hb); (try clear hb2); (try clear hk); (try clear hi); have hcz27_0 : w26.cell? ⟨gb916, 0, none⟩ = some (.int .i64 a0_0) := (blk_cell BK916.out 0).trans rfl; have hcz27_1 : w26.cell? ⟨gb916, 1, none⟩ = some (.int .i64 a0_1) := (blk_cell BK916.out 1).trans rfl; have hcz27_2 : w26.cell? ⟨gb916, 2, none⟩ = some (.slice A0_2 l0_2.length c0_2) := (blk_cell BK916.out 2).trans rfl; have hcz27_3 : w26.cell? ⟨gb916, 3, none⟩ = some (.slice A0_3 l0_3.length c0_3) := (blk_cell BK916.out 3).trans rfl; have hfz27_0 := blk_frozen BK916.out 0; have hfz27_1 := blk_frozen BK916.out 1; have hfz27_2 := blk_frozen BK916.out 2; have hfz27_3 := blk_frozen BK916.out 3) | (go_at_call 123; (with_reducible refine (spec_l7Place.calls a0_0 a0_1 _ _ l0_2 _ _ l0_3 a1 true _ ?side1 ?side2 ?side3 ?side4 A8.out).mono ?_); (case side1 => repeat (first | exact (Kd.C_below HR0_2.out HB.out) | (with_reducible refine Kd.C_alloc ?_ _) | (with_reducible refine Kd.C_drewN ?_ _) | (with_reducible refine Kd.C_drew ?_))); (case side2 => exact HC0_2.out); (case side3 => repeat (first | exact (Kd.C_below HR0_3.out HB.out) | (with_reducible refine Kd.C_alloc ?_ _) | (with_reducible refine Kd.C_drewN ?_ _) | (with_reducible refine Kd.C_drew ?_))); (case side4 => exact HC0_3.out); rintro e w28 ⟨rfl, hb⟩; have n0_ := Aside0.mk (blk_below (g := gb916) (o := .cells #[.int .i64 a0_0, .int .i64 a0_1, .slice A0_2 l0_2.length c0_2, .slice A0_3 l0_3.length c0_3] 98 (0, 0)) (by (with_reducible repeat (first | refine blk_drewN ?_ _ | refine blk_drew ?_ | refine blk_alloc ?_ _)); exact BK916.out) hb); have n1_ := Aside0.mk (below_step (by repeat (first | (with_reducible first | exact HB.out | apply below_alloc | apply pw_below_drewN | apply below_drew1 | refine below_set ?_ GE916.out) | exact HB.out)) hb); clear BK916; clear HB; have BK916 := n0_; have HB := n1_; clear n0_ n1_; (try clear hb); (try clear hb2); (try clear hk); (try clear hi); have hcz29_0 : w28.cell? ⟨gb916, 0, none⟩ = some (.int .i64 a0_0) := (blk_cell BK916.out 0).trans rfl; have hcz29_1 : w28.cell? ⟨gb916, 1, none⟩ = some (.int .i64 a0_1) := (blk_cell BK916.out 1).trans rfl; have hcz29_2 : w28.cell? ⟨gb916, 2, none⟩ = some (.slice A0_2 l0_2.length c0_2) := (blk_cell BK916.out 2).trans rfl; have hcz29_3 : w28.cell? ⟨gb916, 3, none⟩ = some (.slice A0_3 l0_3.length c0_3) := (blk_cell BK916.out 3).trans rfl; have hfz29_0 := blk_frozen BK916.out 0; have hfz29_1 := blk_frozen BK916.out 1; have hfz29_2 := blk_frozen BK916.out 2; have hfz29_3 := blk_frozen BK916.out 3; have p919 : 0 ≤ (a1 : Int) := of_decide_eq_true (by first | (with_reducible assumption) | assumption); have q919 : a1 < (l0_2.length : Int) := of_decide_eq_true (by first | (with_reducible assumption) | assumption); obtain ⟨ad919, e919, hx919_0⟩ := Kd.at_int HR0_2.out a1 p919 q919; cases e919; replace hx919_0 := (HB.out.cell (World.block_lt_of_cell? w _ hx919_0)).trans hx919_0; replace p919 := eq_true p919; replace q919 := eq_true q919)); try go_wp2_with (first | (go_at_call 122; (with_reducible refine (spec_SeaOk.calls k a0_0 a0_1 _ _ l0_2 _ _ l0_3 true _ ?side1 ?side2 ?side3 ?side4 A6.out).mono ?_); (case side1 => repeat (first | exact (Kd.C_below HR0_2.out HB.out) | (with_reducible refine Kd.C_alloc ?_ _) | (with_reducible refine Kd.C_drewN ?_ _) | (with_reducible refine Kd.C_drew ?_))); (case side2 => exact HC0_2.out); (case side3 => repeat (first | exact (Kd.C_below HR0_3.out HB.out) | (with_reducible refine Kd.C_alloc ?_ _) | (with_reducible refine Kd.C_drewN ?_ _) | (with_reducible refine Kd.C_drew ?_))); (case side4 => exact HC0_3.out); rintro e w26 ⟨rfl, hb⟩; have n0_ := Aside0.mk (blk_below (g := gb916) (o := .cells #[.int .i64 a0_0, .int .i64 a0_1, .slice A0_2 l0_2.length c0_2, .slice A0_3 l0_3.length c0_3] 98 (0, 0)) (by (with_reducible repeat (first | refine blk_drewN ?_ _ | refine blk_drew ?_ | refine blk_alloc ?_ _)); exact BK916.out) hb); have n1_ := Aside0.mk (below_step (by repeat (first | (with_reducible first | exact HB.out | apply below_alloc | apply pw_below_drewN | apply below_drew1 | refine below_set ?_ GE916.out) | exact HB.out)) hb); clear BK916; clear HB; have BK916 := n0_; have HB := n1_; clear n0_ n1_; (try clear hb); (try clear hb2); (try clear hk); (try clear hi); have hcz27_0 : w26.cell? ⟨gb916, 0, none⟩ = some (.int .i64 a0_0) := (blk_cell BK916.out 0).trans rfl; have hcz27_1 : w26.cell? ⟨gb916, 1, none⟩ = some (.int .i64 a0_1) := (blk_cell BK916.out 1).trans rfl; have hcz27_2 : w26.cell? ⟨gb916, 2, none⟩ = some (.slice A0_2 l0_2.length c0_2) := (blk_cell BK916.out 2).trans rfl; have hcz27_3 : w26.cell? ⟨gb916, 3, none⟩ = some (.slice A0_3 l0_3.length c0_3) := (blk_cell BK916.out 3).trans rfl; have hfz27_0 := blk_frozen BK916.out 0; have hfz27_1 := blk_frozen BK916.out 1; have hfz27_2 := blk_frozen BK916.out 2; have hfz27_3 := blk_frozen BK916.out 3) | (go_at_call 123; (with_reducible refine (spec_l7Place.calls a0_0 a0_1 _ _ l0_2 _ _ l0_3 a1 true _ ?side1 ?side2 ?side3 ?side4 A8.out).mono ?_); (case side1 => repeat (first | exact (Kd.C_below HR0_2.out HB.out) | (with_reducible refine Kd.C_alloc ?_ _) | (with_reducible refine Kd.C_drewN ?_ _) | (with_reducible refine Kd.C_drew ?_))); (case side2 => exact HC0_2.out); (case side3 => repeat (first | exact (Kd.C_below HR0_3.out HB.out) | (with_reducible refine Kd.C_alloc ?_ _) | (with_reducible refine Kd.C_drewN ?_ _) | (with_reducible refine Kd.C_drew ?_))); (case side4 => exact HC0_3.out); rintro e w28 ⟨rfl, hb⟩; have n0_ := Aside0.mk (blk_below (g := gb916) (o := .cells #[.int .i64 a0_0, .int .i64 a0_1, .slice A0_2 l0_2.length c0_2, .slice A0_3 l0_3.length c0_3] 98 (0, 0)) (by (with_reducible repeat (first | refine blk_drewN ?_ _ | refine blk_drew ?_ | refine blk_alloc ?_ _)); exact BK916.out) hb); have n1_ := Aside0.mk (below_step (by repeat (first | (with_reducible first | exact HB.out | apply below_alloc | apply pw_below_drewN | apply below_drew1 | refine below_set ?_ GE916.out) | exact HB.out)) hb); clear BK916; clear HB; have BK916 := n0_; have HB := n1_; clear n0_ n1_; (try clear hb); (try clear hb2); (try clear hk); (try clear hi); have hcz29_0 : w28.cell? ⟨gb916, 0, none⟩ = some (.int .i64 a0_0) := (blk_cell BK916.out 0).trans rfl; have hcz29_1 : w28.cell? ⟨gb916, 1, none⟩ = some (.int .i64 a0_1) := (blk_cell BK916.out 1).trans rfl; have hcz29_2 : w28.cell? ⟨gb916, 2, none⟩ = some (.slice A0_2 l0_2.length c0_2) := (blk_cell BK916.out 2).trans rfl; have hcz29_3 : w28.cell? ⟨gb916, 3, none⟩ = some (.slice A0_3 l0_3.length c0_3) := (blk_cell BK916.out 3).trans rfl; have hfz29_0 := blk_frozen BK916.out 0; have hfz29_1 := blk_frozen BK916.out 1; have hfz29_2 := blk_frozen BK916.out 2; have hfz29_3 := blk_frozen BK916.out 3; have p919 : 0 ≤ (a1 : Int) := of_decide_eq_true (by first | (with_reducible assumption) | assumption); have q919 : a1 < (l0_2.length : Int) := of_decide_eq_true (by first | (with_reducible assumption) | assumption); obtain ⟨ad919, e919, hx919_0⟩ := Kd.at_int HR0_2.out a1 p919 q919; cases e919; replace hx919_0 := (HB.out.cell (World.block_lt_of_cell? w _ hx919_0)).trans hx919_0; replace p919 := eq_true p919; replace q919 := eq_true q919)))
        go_meet
        case rel => exact ⟨_, (true), (by first | rfl | (simp; done) | (simp [*]; done)), H', ⟨by first | omega | exact Nat.le_refl _⟩, ⟨by (with_reducible repeat (first | refine blk_drewN ?_ _ | refine blk_drew ?_ | refine blk_alloc ?_ _)); exact BK916.out⟩, ⟨by repeat (first | (with_reducible first | exact HB.out | apply below_alloc | apply pw_below_drewN | apply below_drew1 | refine below_set ?_ GE916.out) | exact HB.out)⟩⟩
     ·rw [if_neg c11] at H
      exact absurd H (by simp)
    ·rw [if_neg c10] at H
     exact absurd H (by simp)
   ·replace c9 := Bool.eq_false_iff.mpr c9
    subst c9
    rw [if_neg (show ¬ (false = true) by decide)] at H
    have H' := Aside0.mk H
    clear H
    have hcz30_0 : w5.cell? ⟨gb916, 0, none⟩ = some (.int .i64 a0_0) := (blk_cell BK916.out 0).trans rfl
    have hcz30_1 : w5.cell? ⟨gb916, 1, none⟩ = some (.int .i64 a0_1) := (blk_cell BK916.out 1).trans rfl
    have hcz30_2 : w5.cell? ⟨gb916, 2, none⟩ = some (.slice A0_2 l0_2.length c0_2) := (blk_cell BK916.out 2).trans rfl
    have hcz30_3 : w5.cell? ⟨gb916, 3, none⟩ = some (.slice A0_3 l0_3.length c0_3) := (blk_cell BK916.out 3).trans rfl
    have hfz30_0 := blk_frozen BK916.out 0
    have hfz30_1 := blk_frozen BK916.out 1
    have hfz30_2 := blk_frozen BK916.out 2
    have hfz30_3 := blk_frozen BK916.out 3
    go_wp2_with (first | (go_at_call 122; (with_reducible refine (spec_SeaOk.calls k a0_0 a0_1 _ _ l0_2 _ _ l0_3 true _ ?side1 ?side2 ?side3 ?side4 A6.out).mono ?_); (case side1 => repeat (first | exact (Kd.C_below HR0_2.out HB.out) | (with_reducible refine Kd.C_alloc ?_ _) | (with_reducible refine Kd.C_drewN ?_ _) | (with_reducible refine Kd.C_drew ?_))); (case side2 => exact HC0_2.out); (case side3 => repeat (first | exact (Kd.C_below HR0_3.out HB.out) | (with_reducible refine Kd.C_alloc ?_ _) | (with_reducible refine Kd.C_drewN ?_ _) | (with_reducible refine Kd.C_drew ?_))); (case side4 => exact HC0_3.out); rintro e w31 ⟨rfl, hb⟩; have n0_ := Aside0.mk (blk_below (g := gb916) (o := .cells #[.int .i64 a0_0, .int .i64 a0_1, .slice A0_2 l0_2.length c0_2, .slice A0_3 l0_3.length c0_3] 98 (0, 0)) (by (with_reducible repeat (first | refine blk_drewN ?_ _ | refine blk_drew ?_ | refine blk_alloc ?_ _)); exact BK916.out) hb); have n1_ := Aside0.mk (below_step (by repeat (first | (with_reducible first | exact HB.out | apply below_alloc | apply pw_below_drewN | apply below_drew1 | refine below_set ?_ GE916.out) | exact HB.out)) hb); clear BK916; clear HB; have BK916 := n0_; have HB := n1_; clear n0_ n1_; (try clear hb); (try clear hb2); (try clear hk); (try clear hi); have hcz32_0 : w31.cell? ⟨gb916, 0, none⟩ = some (.int .i64 a0_0) := (blk_cell BK916.out 0).trans rfl; have hcz32_1 : w31.cell? ⟨gb916, 1, none⟩ = some (.int .i64 a0_1) := (blk_cell BK916.out 1).trans rfl; have hcz32_2 : w31.cell? ⟨gb916, 2, none⟩ = some (.slice A0_2 l0_2.length c0_2) := (blk_cell BK916.out 2).trans rfl; have hcz32_3 : w31.cell? ⟨gb916, 3, none⟩ = some (.slice A0_3 l0_3.length c0_3) := (blk_cell BK916.out 3).trans rfl; have hfz32_0 := blk_frozen BK916.out 0; have hfz32_1 := blk_frozen BK916.out 1; have hfz32_2 := blk_frozen BK916.out 2; have hfz32_3 := blk_frozen BK916.out 3) | (go_at_call 123; (with_reducible refine (spec_l7Place.calls a0_0 a0_1 _ _ l0_2 _ _ l0_3 a1 false _ ?side1 ?side2 ?side3 ?side4 A8.out).mono ?_); (case side1 => repeat (first | exact (Kd.C_below HR0_2.out HB.out) | (with_reducible refine Kd.C_alloc ?_ _) | (with_reducible refine Kd.C_drewN ?_ _) | (with_reducible refine Kd.C_drew ?_))); (case side2 => exact HC0_2.out); (case side3 => repeat (first | exact (Kd.C_below HR0_3.out HB.out) | (with_reducible refine Kd.C_alloc ?_ _) | (with_reducible refine Kd.C_drewN ?_ _) | (with_reducible refine Kd.C_drew ?_))); (case side4 => exact HC0_3.out); rintro e w33 ⟨rfl, hb⟩; have n0_ := Aside0.mk (blk_below (g := gb916) (o := .cells #[.int .i64 a0_0, .int .i64 a0_1, .slice A0_2 l0_2.length c0_2, .slice A0_3 l0_3.length c0_3] 98 (0, 0)) (by (with_reducible repeat (first | refine blk_drewN ?_ _ | refine blk_drew ?_ | refine blk_alloc ?_ _)); exact BK916.out) hb); have n1_ := Aside0.mk (below_step (by repeat (first | (with_reducible first | exact HB.out | apply below_alloc | apply pw_below_drewN | apply below_drew1 | refine below_set ?_ GE916.out) | exact HB.out)) hb); clear BK916; clear HB; have BK916 := n0_; have HB := n1_; clear n0_ n1_; (try clear hb); (try clear hb2); (try clear hk); (try clear hi)))
    repeat (go_quiet (first | (go_at_call 122; (with_reducible refine (spec_SeaOk.calls k a0_0 a0_1 _ _ l0_2 _ _ l0_3 true _ ?side1 ?side2 ?side3 ?side4 A6.out).mono ?_); (case side1 => repeat (first | exact (Kd.C_below HR0_2.out HB.out) | (with_reducible refine Kd.C_alloc ?_ _) | (with_reducible refine Kd.C_drewN ?_ _) | (with_reducible refine Kd.C_drew ?_))); (case side2 => exact HC0_2.out); (case side3 => repeat (first | exact (Kd.C_below HR0_3.out HB.out) | (with_reducible refine Kd.C_alloc ?_ _) | (with_reducible refine Kd.C_drewN ?_ _) | (with_reducible refine Kd.C_drew ?_))); (case side4 => exact HC0_3.out); rintro e w31 ⟨rfl, hb⟩; have n0_ := Aside0.mk (blk_below (g := gb916) (o := .cells #[.int .i64 a0_0, .int .i64 a0_1, .slice A0_2 l0_2.length c0_2, .slice A0_3 l0_3.length c0_3] 98 (0, 0)) (by (with_reducible repeat (first | refine blk_drewN ?_ _ | refine blk_drew ?_ | refine blk_alloc ?_ _)); exact BK916.out) hb); have n1_ := Aside0.mk (below_step (by repeat (first | (with_reducible first | exact HB.out | apply below_alloc | apply pw_below_drewN | apply below_drew1 | refine below_set ?_ GE916.out) | exact HB.out)) hb); clear BK916; clear HB; have BK916 := n0_; have HB := n1_; clear n0_ n1_; (try clear hb); (try clear hb2); (try clear hk); (try clear hi); have hcz32_0 : w31.cell? ⟨gb916, 0, none⟩ = some (.int .i64 a0_0) := (blk_cell BK916.out 0).trans rfl; have hcz32_1 : w31.cell? ⟨gb916, 1, none⟩ = some (.int .i64 a0_1) := (blk_cell BK916.out 1).trans rfl; have hcz32_2 : w31.cell? ⟨gb916, 2, none⟩ = some (.slice A0_2 l0_2.length c0_2) := (blk_cell BK916.out 2).trans rfl; have hcz32_3 : w31.cell? ⟨gb916, 3, none⟩ = some (.slice A0_3 l0_3.length c0_3) := (blk_cell BK916.out 3).trans rfl; have hfz32_0 := blk_frozen BK916.out 0; have hfz32_1 := blk_frozen BK916.out 1; have hfz32_2 := blk_frozen BK916.out 2; have hfz32_3 := blk_frozen BK916.out 3) | (go_at_call 123; (with_reducible refine (spec_l7Place.calls a0_0 a0_1 _ _ l0_2 _ _ l0_3 a1 false _ ?side1 ?side2 ?side3 ?side4 A8.out).mono ?_); (case side1 => repeat (first | exact (Kd.C_below HR0_2.out HB.out) | (with_reducible refine Kd.C_alloc ?_ _) | (with_reducible refine Kd.C_drewN ?_ _) | (with_reducible refine Kd.C_drew ?_))); (case side2 => exact HC0_2.out); (case side3 => repeat (first | exact (Kd.C_below HR0_3.out HB.out) | (with_reducible refine Kd.C_alloc ?_ _) | (with_reducible refine Kd.C_drewN ?_ _) | (with_reducible refine Kd.C_drew ?_))); (case side4 => exact HC0_3.out); rintro e w33 ⟨rfl, hb⟩; have n0_ := Aside0.mk (blk_below (g := gb916) (o := .cells #[.int .i64 a0_0, .int .i64 a0_1, .slice A0_2 l0_2.length c0_2, .slice A0_3 l0_3.length c0_3] 98 (0, 0)) (by (with_reducible repeat (first | refine blk_drewN ?_ _ | refine blk_drew ?_ | refine blk_alloc ?_ _)); exact BK916.out) hb); have n1_ := Aside0.mk (below_step (by repeat (first | (with_reducible first | exact HB.out | apply below_alloc | apply pw_below_drewN | apply below_drew1 | refine below_set ?_ GE916.out) | exact HB.out)) hb); clear BK916; clear HB; have BK916 := n0_; have HB := n1_; clear n0_ n1_; (try clear hb); (try clear hb2); (try clear hk); (try clear hi))); try go_wp2_with (first | (go_at_call 122; (with_reducible refine (spec_SeaOk.calls k a0_0 a0_1 _ _ l0_2 _ _ l0_3 true _ ?side1 ?side2 ?side3 ?side4 A6.out).mono ?_); (case side1 => repeat (first | exact (Kd.C_below HR0_2.out HB.out) | (with_reducible refine Kd.C_alloc ?_ _) | (with_reducible refine Kd.C_drewN ?_ _) | (with_reducible refine Kd.C_drew ?_))); (case side2 => exact HC0_2.out); (case side3 => repeat (first | exact (Kd.C_below HR0_3.out HB.out) | (with_reducible refine Kd.C_alloc ?_ _) | (with_reducible refine Kd.C_drewN ?_ _) | (with_reducible refine Kd.C_drew ?_))); (case side4 => exact HC0_3.out); rintro e w31 ⟨rfl, hb⟩; have n0_ := Aside0.mk (blk_below (g := gb916) (o := .cells #[.int .i64 a0_0, .int .i64 a0_1, .slice A0_2 l0_2.length c0_2, .slice A0_3 l0_3.length c0_3] 98 (0, 0)) (by (with_reducible repeat (first | refine blk_drewN ?_ _ | refine blk_drew ?_ | refine blk_alloc ?_ _)); exact BK916.out) hb); have n1_ := Aside0.mk (below_step (by repeat (first | (with_reducible first | exact HB.out | apply below_alloc | apply pw_below_drewN | apply below_drew1 | refine below_set ?_ GE916.out) | exact HB.out)) hb); clear BK916; clear HB; have BK916 := n0_; have HB := n1_; clear n0_ n1_; (try clear hb); (try clear hb2); (try clear hk); (try clear hi); have hcz32_0 : w31.cell? ⟨gb916, 0, none⟩ = some (.int .i64 a0_0) := (blk_cell BK916.out 0).trans rfl; have hcz32_1 : w31.cell? ⟨gb916, 1, none⟩ = some (.int .i64 a0_1) := (blk_cell BK916.out 1).trans rfl; have hcz32_2 : w31.cell? ⟨gb916, 2, none⟩ = some (.slice A0_2 l0_2.length c0_2) := (blk_cell BK916.out 2).trans rfl; have hcz32_3 : w31.cell? ⟨gb916, 3, none⟩ = some (.slice A0_3 l0_3.length c0_3) := (blk_cell BK916.out 3).trans rfl; have hfz32_0 := blk_frozen BK916.out 0; have hfz32_1 := blk_frozen BK916.out 1; have hfz32_2 := blk_frozen BK916.out 2; have hfz32_3 := blk_frozen BK916.out 3) | (go_at_call 123; (with_reducible refine (spec_l7Place.calls a0_0 a0_1 _ _ l0_2 _ _ l0_3 a1 false _ ?side1 ?side2 ?side3 ?side4 A8.out).mono ?_); (case side1 => repeat (first | exact (Kd.C_below HR0_2.out HB.out) | (with_reducible refine Kd.C_alloc ?_ _) | (with_reducible refine Kd.C_drewN ?_ _) | (with_reducible refine Kd.C_drew ?_))); (case side2 => exact HC0_2.out); (case side3 => repeat (first | exact (Kd.C_below HR0_3.out HB.out) | (with_reducible refine Kd.C_alloc ?_ _) | (with_reducible refine Kd.C_drewN ?_ _) | (with_reducible refine Kd.C_drew ?_))); (case side4 => exact HC0_3.out); rintro e w33 ⟨rfl, hb⟩; have n0_ := Aside0.mk (blk_below (g := gb916) (o := .cells #[.int .i64 a0_0, .int .i64 a0_1, .slice A0_2 l0_2.length c0_2, .slice A0_3 l0_3.length c0_3] 98 (0, 0)) (by (with_reducible repeat (first | refine blk_drewN ?_ _ | refine blk_drew ?_ | refine blk_alloc ?_ _)); exact BK916.out) hb); have n1_ := Aside0.mk (below_step (by repeat (first | (with_reducible first | exact HB.out | apply below_alloc | apply pw_below_drewN | apply below_drew1 | refine below_set ?_ GE916.out) | exact HB.out)) hb); clear BK916; clear HB; have BK916 := n0_; have HB := n1_; clear n0_ n1_; (try clear hb); (try clear hb2); (try clear hk); (try clear hi))))
    go_meet
    case rel => exact ⟨_, (true), (by first | rfl | (simp; done) | (simp [*]; done)), H', ⟨by first | omega | exact Nat.le_refl _⟩, ⟨by (with_reducible repeat (first | refine blk_drewN ?_ _ | refine blk_drew ?_ | refine blk_alloc ?_ _)); exact BK916.out⟩, ⟨by repeat (first | (with_reducible first | exact HB.out | apply below_alloc | apply pw_below_drewN | apply below_drew1 | refine below_set ?_ GE916.out) | exact HB.out)⟩⟩
  ·replace c7 := Bool.eq_false_iff.mpr c7
   subst c7
   rw [if_neg (show ¬ (false = true) by decide)] at H
   have H' := Aside0.mk H
   clear H
   have hcz34_0 : w5.cell? ⟨gb916, 0, none⟩ = some (.int .i64 a0_0) := (blk_cell BK916.out 0).trans rfl
   have hcz34_1 : w5.cell? ⟨gb916, 1, none⟩ = some (.int .i64 a0_1) := (blk_cell BK916.out 1).trans rfl
   have hcz34_2 : w5.cell? ⟨gb916, 2, none⟩ = some (.slice A0_2 l0_2.length c0_2) := (blk_cell BK916.out 2).trans rfl
   have hcz34_3 : w5.cell? ⟨gb916, 3, none⟩ = some (.slice A0_3 l0_3.length c0_3) := (blk_cell BK916.out 3).trans rfl
   have hfz34_0 := blk_frozen BK916.out 0
   have hfz34_1 := blk_frozen BK916.out 1
   have hfz34_2 := blk_frozen BK916.out 2
   have hfz34_3 := blk_frozen BK916.out 3
   go_wp2_with (first | (go_at_call 122; (with_reducible refine (spec_SeaOk.calls k a0_0 a0_1 _ _ l0_2 _ _ l0_3 false _ ?side1 ?side2 ?side3 ?side4 A6.out).mono ?_); (case side1 => repeat (first | exact (Kd.C_below HR0_2.out HB.out) | (with_reducible refine Kd.C_alloc ?_ _) | (with_reducible refine Kd.C_drewN ?_ _) | (with_reducible refine Kd.C_drew ?_))); (case side2 => exact HC0_2.out); (case side3 => repeat (first | exact (Kd.C_below HR0_3.out HB.out) | (with_reducible refine Kd.C_alloc ?_ _) | (with_reducible refine Kd.C_drewN ?_ _) | (with_reducible refine Kd.C_drew ?_))); (case side4 => exact HC0_3.out); rintro e w35 ⟨rfl, hb⟩; have n0_ := Aside0.mk (blk_below (g := gb916) (o := .cells #[.int .i64 a0_0, .int .i64 a0_1, .slice A0_2 l0_2.length c0_2, .slice A0_3 l0_3.length c0_3] 98 (0, 0)) (by (with_reducible repeat (first | refine blk_drewN ?_ _ | refine blk_drew ?_ | refine blk_alloc ?_ _)); exact BK916.out) hb); have n1_ := Aside0.mk (below_step (by repeat (first | (with_reducible first | exact HB.out | apply below_alloc | apply pw_below_drewN | apply below_drew1 | refine below_set ?_ GE916.out) | exact HB.out)) hb); clear BK916; clear HB; have BK916 := n0_; have HB := n1_; clear n0_ n1_; (try clear hb); (try clear hb2); (try clear hk); (try clear hi)))
   repeat (go_quiet (first | (go_at_call 122; (with_reducible refine (spec_SeaOk.calls k a0_0 a0_1 _ _ l0_2 _ _ l0_3 false _ ?side1 ?side2 ?side3 ?side4 A6.out).mono ?_); (case side1 => repeat (first | exact (Kd.C_below HR0_2.out HB.out) | (with_reducible refine Kd.C_alloc ?_ _) | (with_reducible refine Kd.C_drewN ?_ _) | (with_reducible refine Kd.C_drew ?_))); (case side2 => exact HC0_2.out); (case side3 => repeat (first | exact (Kd.C_below HR0_3.out HB.out) | (with_reducible refine Kd.C_alloc ?_ _) | (with_reducible refine Kd.C_drewN ?_ _) | (with_reducible refine Kd.C_drew ?_))); (case side4 => exact HC0_3.out); rintro e w35 ⟨rfl, hb⟩; have n0_ := Aside0.mk (blk_below (g := gb916) (o := .cells #[.int .i64 a0_0, .int .i64 a0_1, .slice A0_2 l0_2.length c0_2, .slice A0_3 l0_3.length c0_3] 98 (0, 0)) (by (with_reducible repeat (first | refine blk_drewN ?_ _ | refine blk_drew ?_ | refine blk_alloc ?_ _)); exact BK916.out) hb); have n1_ := Aside0.mk (below_step (by repeat (first | (with_reducible first | exact HB.out | apply below_alloc | apply pw_below_drewN | apply below_drew1 | refine below_set ?_ GE916.out) | exact HB.out)) hb); clear BK916; clear HB; have BK916 := n0_; have HB := n1_; clear n0_ n1_; (try clear hb); (try clear hb2); (try clear hk); (try clear hi))); try go_wp2_with (first | (go_at_call 122; (with_reducible refine (spec_SeaOk.calls k a0_0 a0_1 _ _ l0_2 _ _ l0_3 false _ ?side1 ?side2 ?side3 ?side4 A6.out).mono ?_); (case side1 => repeat (first | exact (Kd.C_below HR0_2.out HB.out) | (with_reducible refine Kd.C_alloc ?_ _) | (with_reducible refine Kd.C_drewN ?_ _) | (with_reducible refine Kd.C_drew ?_))); (case side2 => exact HC0_2.out); (case side3 => repeat (first | exact (Kd.C_below HR0_3.out HB.out) | (with_reducible refine Kd.C_alloc ?_ _) | (with_reducible refine Kd.C_drewN ?_ _) | (with_reducible refine Kd.C_drew ?_))); (case side4 => exact HC0_3.out); rintro e w35 ⟨rfl, hb⟩; have n0_ := Aside0.mk (blk_below (g := gb916) (o := .cells #[.int .i64 a0_0, .int .i64 a0_1, .slice A0_2 l0_2.length c0_2, .slice A0_3 l0_3.length c0_3] 98 (0, 0)) (by (with_reducible repeat (first | refine blk_drewN ?_ _ | refine blk_drew ?_ | refine blk_alloc ?_ _)); exact BK916.out) hb); have n1_ := Aside0.mk (below_step (by repeat (first | (with_reducible first | exact HB.out | apply below_alloc | apply pw_below_drewN | apply below_drew1 | refine below_set ?_ GE916.out) | exact HB.out)) hb); clear BK916; clear HB; have BK916 := n0_; have HB := n1_; clear n0_ n1_; (try clear hb); (try clear hb2); (try clear hk); (try clear hi))))
   go_meet
   case rel => exact ⟨_, (true), (by first | rfl | (simp; done) | (simp [*]; done)), H', ⟨by first | omega | exact Nat.le_refl _⟩, ⟨by (with_reducible repeat (first | refine blk_drewN ?_ _ | refine blk_drew ?_ | refine blk_alloc ?_ _)); exact BK916.out⟩, ⟨by repeat (first | (with_reducible first | exact HB.out | apply below_alloc | apply pw_below_drewN | apply below_drew1 | refine below_set ?_ GE916.out) | exact HB.out)⟩⟩
 case rest =>
  clear HC4
  (try clear c1); (try clear c2); (try clear p2); (try clear c6); (try clear c7); (try clear c9); (try clear p9); (try clear q9); (try clear hx9); (try clear c10); (try clear c10b0); (try clear c11); (try clear c11b0); (try clear c12); (try clear c12b0); (try clear c12b1); (try clear c18); (try clear c18b0); (try clear c18b1); (try clear c18b2); (try clear c19); (try clear c19b0); (try clear hcz13_0); (try clear hcz13_1); (try clear hcz13_2); (try clear hcz13_3); (try clear hcz15_0); (try clear hcz15_1); (try clear hcz15_2); (try clear hcz15_3); (try clear hcz17_0); (try clear hcz17_1); (try clear hcz17_2); (try clear hcz17_3); (try clear hcz20_0); (try clear hcz20_1); (try clear hcz20_2); (try clear hcz20_3); (try clear hcz22_0); (try clear hcz22_1); (try clear hcz22_2); (try clear hcz22_3); (try clear hcz24_0); (try clear hcz24_1); (try clear hcz24_2); (try clear hcz24_3); (try clear hcz25_0); (try clear hcz25_1); (try clear hcz25_2); (try clear hcz25_3); (try clear hcz27_0); (try clear hcz27_1); (try clear hcz27_2); (try clear hcz27_3); (try clear hcz29_0); (try clear hcz29_1); (try clear hcz29_2); (try clear hcz29_3); (try clear hcz30_0); (try clear hcz30_1); (try clear hcz30_2); (try clear hcz30_3); (try clear hcz32_0); (try clear hcz32_1); (try clear hcz32_2); (try clear hcz32_3); (try clear hcz34_0); (try clear hcz34_1); (try clear hcz34_2); (try clear hcz34_3); (try clear hfz13_0); (try clear hfz13_1); (try clear hfz13_2); (try clear hfz13_3); (try clear hfz15_0); (try clear hfz15_1); (try clear hfz15_2); (try clear hfz15_3); (try clear hfz17_0); (try clear hfz17_1); (try clear hfz17_2); (try clear hfz17_3); (try clear hfz20_0); (try clear hfz20_1); (try clear hfz20_2); (try clear hfz20_3); (try clear hfz22_0); (try clear hfz22_1); (try clear hfz22_2); (try clear hfz22_3); (try clear hfz24_0); (try clear hfz24_1); (try clear hfz24_2); (try clear hfz24_3); (try clear hfz25_0); (try clear hfz25_1); (try clear hfz25_2); (try clear hfz25_3); (try clear hfz27_0); (try clear hfz27_1); (try clear hfz27_2); (try clear hfz27_3); (try clear hfz29_0); (try clear hfz29_1); (try clear hfz29_2); (try clear hfz29_3); (try clear hfz30_0); (try clear hfz30_1); (try clear hfz30_2); (try clear hfz30_3); (try clear hfz32_0); (try clear hfz32_1); (try clear hfz32_2); (try clear hfz32_3); (try clear hfz34_0); (try clear hfz34_1); (try clear hfz34_2); (try clear hfz34_3); (try clear hx919_0); (try clear hx920_0); (try clear p919); (try clear p920); (try clear q919); (try clear q920)
  obtain ⟨kq, x41_3, rfl, HA, HJ3, BK916, HB⟩ := hcut
  cases kq with
  | zero => exact absurd HA.out (by simp [spec_Proves.j0])
  | succ kj3 =>
   have H := HA.out
   clear HA
   simp only [spec_Proves.j0] at H
   by_cases c36 : x41_3 = true
   ·subst c36
    rw [if_pos rfl] at H
    obtain rfl := Option.some.inj H
    go_wp2
    repeat (go_quiet (fail); try go_wp2)
    go_ret
    exact ⟨by first | rfl | (simp [errW_none, errW_some] <;> rfl) | (simp [*, errW_none, errW_some] <;> rfl), by repeat (first | (with_reducible first | exact HB.out | apply below_alloc | apply pw_below_drewN | apply below_drew1 | refine below_set ?_ GE916.out) | exact HB.out)⟩
   ·replace c36 := Bool.eq_false_iff.mpr c36
    subst c36
    rw [if_neg (show ¬ (false = true) by decide)] at H
    have H' := Aside0.mk H
    clear H
    go_wp2
    repeat (go_quiet (fail); try go_wp2)
    go_loopg [7] kj3 (fun kq v7 w' => ∃ (x7_2 : Int), v7 = .int .i64 x7_2 ∧ Aside0 (spec_Proves.l0 kq a1 l2 x7_2 a0_0 a0_1 l0_2 l0_3 = some r) ∧ Aside0 (kq ≤ kj3) ∧ Aside0 (w'.heap[gb916]? = some (.cells #[.int .i64 a0_0, .int .i64 a0_1, (.slice A0_2 l0_2.length c0_2), (.slice A0_3 l0_3.length c0_3)] 98 (0, 0))) ∧ Aside0 (Below w.heap.size w w'))
    case atStart => exact ⟨(0), (by first | rfl | (simp; done) | (simp [*]; done)), H', ⟨Nat.le_refl _⟩, ⟨by (with_reducible repeat (first | refine blk_drewN ?_ _ | refine blk_drew ?_ | refine blk_alloc ?_ _)); exact BK916.out⟩, ⟨by repeat (first | (with_reducible first | exact HB.out | apply below_alloc | apply pw_below_drewN | apply below_drew1 | refine below_set ?_ GE916.out) | exact HB.out)⟩⟩
    case round =>
     clear H'
     (try clear c1); (try clear c2); (try clear p2); (try clear c3); (try clear c6); (try clear c7); (try clear c9); (try clear p9); (try clear q9); (try clear hx9); (try clear c10); (try clear c10b0); (try clear c11); (try clear c11b0); (try clear c12); (try clear c12b0); (try clear c12b1); (try clear c18); (try clear c18b0); (try clear c18b1); (try clear c18b2); (try clear c19); (try clear c19b0); (try clear c36); (try clear hcz13_0); (try clear hcz13_1); (try clear hcz13_2); (try clear hcz13_3); (try clear hcz15_0); (try clear hcz15_1); (try clear hcz15_2); (try clear hcz15_3); (try clear hcz17_0); (try clear hcz17_1); (try clear hcz17_2); (try clear hcz17_3); (try clear hcz20_0); (try clear hcz20_1); (try clear hcz20_2); (try clear hcz20_3); (try clear hcz22_0); (try clear hcz22_1); (try clear hcz22_2); (try clear hcz22_3); (try clear hcz24_0); (try clear hcz24_1); (try clear hcz24_2); (try clear hcz24_3); (try clear hcz25_0); (try clear hcz25_1); (try clear hcz25_2); (try clear hcz25_3); (try clear hcz27_0); (try clear hcz27_1); (try clear hcz27_2); (try clear hcz27_3); (try clear hcz29_0); (try clear hcz29_1); (try clear hcz29_2); (try clear hcz29_3); (try clear hcz30_0); (try clear hcz30_1); (try clear hcz30_2); (try clear hcz30_3); (try clear hcz32_0); (try clear hcz32_1); (try clear hcz32_2); (try clear hcz32_3); (try clear hcz34_0); (try clear hcz34_1); (try clear hcz34_2); (try clear hcz34_3); (try clear hfz13_0); (try clear hfz13_1); (try clear hfz13_2); (try clear hfz13_3); (try clear hfz15_0); (try clear hfz15_1); (try clear hfz15_2); (try clear hfz15_3); (try clear hfz17_0); (try clear hfz17_1); (try clear hfz17_2); (try clear hfz17_3); (try clear hfz20_0); (try clear hfz20_1); (try clear hfz20_2); (try clear hfz20_3); (try clear hfz22_0); (try clear hfz22_1); (try clear hfz22_2); (try clear hfz22_3); (try clear hfz24_0); (try clear hfz24_1); (try clear hfz24_2); (try clear hfz24_3); (try clear hfz25_0); (try clear hfz25_1); (try clear hfz25_2); (try clear hfz25_3); (try clear hfz27_0); (try clear hfz27_1); (try clear hfz27_2); (try clear hfz27_3); (try clear hfz29_0); (try clear hfz29_1); (try clear hfz29_2); (try clear hfz29_3); (try clear hfz30_0); (try clear hfz30_1); (try clear hfz30_2); (try clear hfz30_3); (try clear hfz32_0); (try clear hfz32_1); (try clear hfz32_2); (try clear hfz32_3); (try clear hfz34_0); (try clear hfz34_1); (try clear hfz34_2); (try clear hfz34_3); (try clear hx919_0); (try clear hx920_0); (try clear p2); (try clear p9); (try clear p919); (try clear p920); (try clear q9); (try clear q919); (try clear q920)
     obtain ⟨x7_2, rfl, HA, HK2, BK916, HB⟩ := hrel
     cases gk with
     | zero => exact absurd HA.out (by simp [spec_Proves.l0])
     | succ k2 =>
      have H := HA.out
      clear HA
      simp only [spec_Proves.l0] at H
      by_cases c37 : x7_2 < (l2.length : Int)
      ·rw [if_pos c37] at H
       have c37b0 : decide (x7_2 < (l2.length : Int)) = true := decide_eq_true c37
       clear c37
       have HC38 := Aside0.mk H
       clear H
       go_upto_region 6 with (fail)
       repeat (go_quiet (fail); go_upto_region 6 with (fail))
       go_cut [67] (fun v67 wc => ∃ (kq : Nat) (x67_37 : Bool), v67 = .bool x67_37 ∧ Aside0 (spec_Proves.j2 kq a1 l2 x7_2 x67_37 a0_0 a0_1 l0_2 l0_3 = some r) ∧ Aside0 (kq ≤ k2) ∧ Aside0 (wc.heap[gb916]? = some (.cells #[.int .i64 a0_0, .int .i64 a0_1, (.slice A0_2 l0_2.length c0_2), (.slice A0_3 l0_3.length c0_3)] 98 (0, 0))) ∧ Aside0 (Below w.heap.size w wc))
       case first =>
        have H := HC38.out
        clear HC38
        by_cases c39 : 0 ≤ x7_2
        ·rw [if_pos c39] at H
         have c39b0 : decide (0 ≤ x7_2) = true := decide_eq_true c39
         clear c39
         (first | rw [c39b0] | (simp only [i64_w, i32_w]; rw [c39b0]) | skip)
         by_cases c40 : (rd l2 x7_2) < (-1)
         ·rw [if_pos c40] at H
          have c40b0 : decide ((rd l2 x7_2) < (-1)) = true := decide_eq_true c40
          clear c40
          have H' := Aside0.mk H
          clear H
          have p921 : 0 ≤ (x7_2 : Int) := of_decide_eq_true (by first | (with_reducible assumption) | assumption)
          have q921 : x7_2 < (l2.length : Int) := of_decide_eq_true (by first | (with_reducible assumption) | assumption)
          obtain ⟨ad921, e921, hx921_0⟩ := Kd.at_int HR2.out x7_2 p921 q921
          cases e921
          replace hx921_0 := (HB.out.cell (World.block_lt_of_cell? w _ hx921_0)).trans hx921_0
          replace p921 := eq_true p921
          replace q921 := eq_true q921
          go_wp2
          repeat (go_quiet (fail); try go_wp2)
          go_meet
          case rel => exact ⟨_, (true), (by first | rfl | (simp; done) | (simp [*]; done)), H', ⟨by have := HJ3.out; have := HK2.out; first | omega | exact Nat.le_refl _⟩, ⟨by (with_reducible repeat (first | refine blk_drewN ?_ _ | refine blk_drew ?_ | refine blk_alloc ?_ _)); exact BK916.out⟩, ⟨by repeat (first | (with_reducible first | exact HB.out | apply below_alloc | apply pw_below_drewN | apply below_drew1 | refine below_set ?_ GE916.out) | exact HB.out)⟩⟩
         ·rw [if_neg c40] at H
          have c40b0 : decide ((rd l2 x7_2) < (-1)) = false := decide_eq_false c40
          clear c40
          by_cases c41 : x7_2 < (l0_2.length : Int)
          ·rw [if_pos c41] at H
           have c41b0 : decide (x7_2 < (l0_2.length : Int)) = true := decide_eq_true c41
           clear c41
           by_cases c42 : (rd l0_2 x7_2) = 0
           ·rw [if_pos c42] at H
            have c42b0 : ((rd l0_2 x7_2) == 0) = true := beq_iff_eq.mpr c42
            have c42b1 : ((rd l0_2 x7_2) != 0) = false := bne_eq_false_iff_eq.mpr c42
            clear c42
            have H' := Aside0.mk H
            clear H
            have p921 : 0 ≤ (x7_2 : Int) := of_decide_eq_true (by first | (with_reducible assumption) | assumption)
            have q921 : x7_2 < (l2.length : Int) := of_decide_eq_true (by first | (with_reducible assumption) | assumption)
            obtain ⟨ad921, e921, hx921_0⟩ := Kd.at_int HR2.out x7_2 p921 q921
            cases e921
            replace hx921_0 := (HB.out.cell (World.block_lt_of_cell? w _ hx921_0)).trans hx921_0
            replace p921 := eq_true p921
            replace q921 := eq_true q921
            have hcz43_0 : wr.cell? ⟨gb916, 0, none⟩ = some (.int .i64 a0_0) := (blk_cell BK916.out 0).trans rfl
            have hcz43_1 : wr.cell? ⟨gb916, 1, none⟩ = some (.int .i64 a0_1) := (blk_cell BK916.out 1).trans rfl
            have hcz43_2 : wr.cell? ⟨gb916, 2, none⟩ = some (.slice A0_2 l0_2.length c0_2) := (blk_cell BK916.out 2).trans rfl
            have hcz43_3 : wr.cell? ⟨gb916, 3, none⟩ = some (.slice A0_3 l0_3.length c0_3) := (blk_cell BK916.out 3).trans rfl
            have hfz43_0 := blk_frozen BK916.out 0
            have hfz43_1 := blk_frozen BK916.out 1
            have hfz43_2 := blk_frozen BK916.out 2
            have hfz43_3 := blk_frozen BK916.out 3
            have p922 : 0 ≤ (x7_2 : Int) := of_decide_eq_true (by first | (with_reducible assumption) | assumption)
            have q922 : x7_2 < (l0_2.length : Int) := of_decide_eq_true (by first | (with_reducible assumption) | assumption)
            obtain ⟨ad922, e922, hx922_0⟩ := Kd.at_int HR0_2.out x7_2 p922 q922
            cases e922
            replace hx922_0 := (HB.out.cell (World.block_lt_of_cell? w _ hx922_0)).trans hx922_0
            replace p922 := eq_true p922
            replace q922 := eq_true q922
            have p923 : 0 ≤ (x7_2 : Int) := of_decide_eq_true (by first | (with_reducible assumption) | assumption)
            have q923 : x7_2 < (l2.length : Int) := of_decide_eq_true (by first | (with_reducible assumption) | assumption)
            obtain ⟨ad923, e923, hx923_0⟩ := Kd.at_int HR2.out x7_2 p923 q923
            obtain rfl : ad921 = ad923 := (by injection e923)
            replace hx923_0 := (HB.out.cell (World.block_lt_of_cell? w _ hx923_0)).trans hx923_0
            replace p923 := eq_true p923
            replace q923 := eq_true q923
            go_wp2
            repeat (go_quiet (fail); try go_wp2)
            go_meet
            case rel => exact ⟨_, (((rd l2 x7_2) != (-1))), (by first | rfl | (simp; done) | (simp [*]; done)), H', ⟨by have := HJ3.out; have := HK2.out; first | omega | exact Nat.le_refl _⟩, ⟨by (with_reducible repeat (first | refine blk_drewN ?_ _ | refine blk_drew ?_ | refine blk_alloc ?_ _)); exact BK916.out⟩, ⟨by repeat (first | (with_reducible first | exact HB.out | apply below_alloc | apply pw_below_drewN | apply below_drew1 | refine below_set ?_ GE916.out) | exact HB.out)⟩⟩
           ·rw [if_neg c42] at H
            have c42b0 : ((rd l0_2 x7_2) == 0) = false := beq_eq_false_iff_ne.mpr c42
            have c42b1 : ((rd l0_2 x7_2) != 0) = true := bne_iff_ne.mpr c42
            have H' := Aside0.mk H
            clear H
            have p921 : 0 ≤ (x7_2 : Int) := of_decide_eq_true (by first | (with_reducible assumption) | assumption)
            have q921 : x7_2 < (l2.length : Int) := of_decide_eq_true (by first | (with_reducible assumption) | assumption)
            obtain ⟨ad921, e921, hx921_0⟩ := Kd.at_int HR2.out x7_2 p921 q921
            cases e921
            replace hx921_0 := (HB.out.cell (World.block_lt_of_cell? w _ hx921_0)).trans hx921_0
            replace p921 := eq_true p921
            replace q921 := eq_true q921
            have hcz44_0 : wr.cell? ⟨gb916, 0, none⟩ = some (.int .i64 a0_0) := (blk_cell BK916.out 0).trans rfl
            have hcz44_1 : wr.cell? ⟨gb916, 1, none⟩ = some (.int .i64 a0_1) := (blk_cell BK916.out 1).trans rfl
            have hcz44_2 : wr.cell? ⟨gb916, 2, none⟩ = some (.slice A0_2 l0_2.length c0_2) := (blk_cell BK916.out 2).trans rfl
            have hcz44_3 : wr.cell? ⟨gb916, 3, none⟩ = some (.slice A0_3 l0_3.length c0_3) := (blk_cell BK916.out 3).trans rfl
            have hfz44_0 := blk_frozen BK916.out 0
            have hfz44_1 := blk_frozen BK916.out 1
            have hfz44_2 := blk_frozen BK916.out 2
            have hfz44_3 := blk_frozen BK916.out 3
            have p922 : 0 ≤ (x7_2 : Int) := of_decide_eq_true (by first | (with_reducible assumption) | assumption)
            have q922 : x7_2 < (l0_2.length : Int) := of_decide_eq_true (by first | (with_reducible assumption) | assumption)
            obtain ⟨ad922, e922, hx922_0⟩ := Kd.at_int HR0_2.out x7_2 p922 q922
            cases e922
            replace hx922_0 := (HB.out.cell (World.block_lt_of_cell? w _ hx922_0)).trans hx922_0
            replace p922 := eq_true p922
            replace q922 := eq_true q922
            go_wp2
            repeat (go_quiet (fail); try go_wp2)
            go_meet
            case rel => exact ⟨_, (false), (by first | rfl | (simp; done) | (simp [*]; done)), H', ⟨by have := HJ3.out; have := HK2.out; first | omega | exact Nat.le_refl _⟩, ⟨by (with_reducible repeat (first | refine blk_drewN ?_ _ | refine blk_drew ?_ | refine blk_alloc ?_ _)); exact BK916.out⟩, ⟨by repeat (first | (with_reducible first | exact HB.out | apply below_alloc | apply pw_below_drewN | apply below_drew1 | refine below_set ?_ GE916.out) | exact HB.out)⟩⟩
          ·rw [if_neg c41] at H
           exact absurd H (by simp)
        ·rw [if_neg c39] at H
         exact absurd H (by simp)
       case rest =>
        clear HC38
        (try clear c1); (try clear c2); (try clear p2); (try clear c3); (try clear c4); (try clear c6); (try clear c7); (try clear c9); (try clear p9); (try clear q9); (try clear hx9); (try clear c10); (try clear c10b0); (try clear c11); (try clear c11b0); (try clear c12); (try clear c12b0); (try clear c12b1); (try clear c18); (try clear c18b0); (try clear c18b1); (try clear c18b2); (try clear c19); (try clear c19b0); (try clear c36); (try clear c37); (try clear c37b0); (try clear c39); (try clear c39b0); (try clear c40); (try clear c40b0); (try clear c41); (try clear c41b0); (try clear c42); (try clear c42b0); (try clear c42b1); (try clear hcz13_0); (try clear hcz13_1); (try clear hcz13_2); (try clear hcz13_3); (try clear hcz15_0); (try clear hcz15_1); (try clear hcz15_2); (try clear hcz15_3); (try clear hcz17_0); (try clear hcz17_1); (try clear hcz17_2); (try clear hcz17_3); (try clear hcz20_0); (try clear hcz20_1); (try clear hcz20_2); (try clear hcz20_3); (try clear hcz22_0); (try clear hcz22_1); (try clear hcz22_2); (try clear hcz22_3); (try clear hcz24_0); (try clear hcz24_1); (try clear hcz24_2); (try clear hcz24_3); (try clear hcz25_0); (try clear hcz25_1); (try clear hcz25_2); (try clear hcz25_3); (try clear hcz27_0); (try clear hcz27_1); (try clear hcz27_2); (try clear hcz27_3); (try clear hcz29_0); (try clear hcz29_1); (try clear hcz29_2); (try clear hcz29_3); (try clear hcz30_0); (try clear hcz30_1); (try clear hcz30_2); (try clear hcz30_3); (try clear hcz32_0); (try clear hcz32_1); (try clear hcz32_2); (try clear hcz32_3); (try clear hcz34_0); (try clear hcz34_1); (try clear hcz34_2); (try clear hcz34_3); (try clear hcz43_0); (try clear hcz43_1); (try clear hcz43_2); (try clear hcz43_3); (try clear hcz44_0); (try clear hcz44_1); (try clear hcz44_2); (try clear hcz44_3); (try clear hfz13_0); (try clear hfz13_1); (try clear hfz13_2); (try clear hfz13_3); (try clear hfz15_0); (try clear hfz15_1); (try clear hfz15_2); (try clear hfz15_3); (try clear hfz17_0); (try clear hfz17_1); (try clear hfz17_2); (try clear hfz17_3); (try clear hfz20_0); (try clear hfz20_1); (try clear hfz20_2); (try clear hfz20_3); (try clear hfz22_0); (try clear hfz22_1); (try clear hfz22_2); (try clear hfz22_3); (try clear hfz24_0); (try clear hfz24_1); (try clear hfz24_2); (try clear hfz24_3); (try clear hfz25_0); (try clear hfz25_1); (try clear hfz25_2); (try clear hfz25_3); (try clear hfz27_0); (try clear hfz27_1); (try clear hfz27_2); (try clear hfz27_3); (try clear hfz29_0); (try clear hfz29_1); (try clear hfz29_2); (try clear hfz29_3); (try clear hfz30_0); (try clear hfz30_1); (try clear hfz30_2); (try clear hfz30_3); (try clear hfz32_0); (try clear hfz32_1); (try clear hfz32_2); (try clear hfz32_3); (try clear hfz34_0); (try clear hfz34_1); (try clear hfz34_2); (try clear hfz34_3); (try clear hfz43_0); (try clear hfz43_1); (try clear hfz43_2); (try clear hfz43_3); (try clear hfz44_0); (try clear hfz44_1); (try clear hfz44_2); (try clear hfz44_3); (try clear hx919_0); (try clear hx920_0); (try clear hx921_0); (try clear hx922_0); (try clear hx923_0); (try clear p2); (try clear p9); (try clear p919); (try clear p920); (try clear p921); (try clear p922); (try clear p923); (try clear q9); (try clear q919); (try clear q920); (try clear q921); (try clear q922); (try clear q923)
        obtain ⟨kq, x67_37, rfl, HA, HJ37, BK916, HB⟩ := hcut
        cases kq with
        | zero => exact absurd HA.out (by simp [spec_Proves.j2])
        | succ kj37 =>
         have H := HA.out
         clear HA
         simp only [spec_Proves.j2] at H
         by_cases c45 : x67_37 = true
         ·subst c45
          rw [if_pos rfl] at H
          obtain rfl := Option.some.inj H
          go_wp2
          repeat (go_quiet (fail); try go_wp2)
          go_ret
          exact ⟨by first | rfl | (simp [errW_none, errW_some] <;> rfl) | (simp [*, errW_none, errW_some] <;> rfl), by repeat (first | (with_reducible first | exact HB.out | apply below_alloc | apply pw_below_drewN | apply below_drew1 | refine below_set ?_ GE916.out) | exact HB.out)⟩
         ·replace c45 := Bool.eq_false_iff.mpr c45
          subst c45
          rw [if_neg (show ¬ (false = true) by decide)] at H
          have HC46 := Aside0.mk H
          clear H
          go_upto_region 8 with (fail)
          repeat (go_quiet (fail); go_upto_region 8 with (fail))
          go_cut [8] (fun v8 wc => ∃ (kq : Nat) (x8_45 : Bool), v8 = .bool x8_45 ∧ Aside0 (spec_Proves.j3 kq a1 l2 x7_2 x8_45 a0_0 a0_1 l0_2 l0_3 = some r) ∧ Aside0 (kq ≤ kj37) ∧ Aside0 (wc.heap[gb916]? = some (.cells #[.int .i64 a0_0, .int .i64 a0_1, (.slice A0_2 l0_2.length c0_2), (.slice A0_3 l0_3.length c0_3)] 98 (0, 0))) ∧ Aside0 (Below w.heap.size w wc))
          case first =>
           have H := HC46.out
           clear HC46
           by_cases c47 : x7_2 = a1
           ·rw [if_pos c47] at H
            have c47b0 : (x7_2 == a1) = true := beq_iff_eq.mpr c47
            have c47b1 : (x7_2 != a1) = false := bne_eq_false_iff_eq.mpr c47
            clear c47
            (first | rw [c47b0] | (simp only [i64_w, i32_w]; rw [c47b0]) | skip)
            have H' := Aside0.mk H
            clear H
            go_wp2
            repeat (go_quiet (fail); try go_wp2)
            go_meet
            case rel => exact ⟨_, (true), (by first | rfl | (simp; done) | (simp [*]; done)), H', ⟨by have := HJ3.out; have := HK2.out; have := HJ37.out; first | omega | exact Nat.le_refl _⟩, ⟨by (with_reducible repeat (first | refine blk_drewN ?_ _ | refine blk_drew ?_ | refine blk_alloc ?_ _)); exact BK916.out⟩, ⟨by repeat (first | (with_reducible first | exact HB.out | apply below_alloc | apply pw_below_drewN | apply below_drew1 | refine below_set ?_ GE916.out) | exact HB.out)⟩⟩
           ·rw [if_neg c47] at H
            have c47b0 : (x7_2 == a1) = false := beq_eq_false_iff_ne.mpr c47
            have c47b1 : (x7_2 != a1) = true := bne_iff_ne.mpr c47
            (first | rw [c47b0] | (simp only [i64_w, i32_w]; rw [c47b0]) | skip)
            by_cases c48 : 0 ≤ x7_2
            ·rw [if_pos c48] at H
             have c48b0 : decide (0 ≤ x7_2) = true := decide_eq_true c48
             clear c48
             by_cases c49 : x7_2 < (l2.length : Int)
             ·rw [if_pos c49] at H
              have c49b0 : decide (x7_2 < (l2.length : Int)) = true := decide_eq_true c49
              clear c49
              have H' := Aside0.mk H
              clear H
              have p924 : 0 ≤ (x7_2 : Int) := of_decide_eq_true (by first | (with_reducible assumption) | assumption)
              have q924 : x7_2 < (l2.length : Int) := of_decide_eq_true (by first | (with_reducible assumption) | assumption)
              obtain ⟨ad924, e924, hx924_0⟩ := Kd.at_int HR2.out x7_2 p924 q924
              cases e924
              replace hx924_0 := (HB.out.cell (World.block_lt_of_cell? w _ hx924_0)).trans hx924_0
              replace p924 := eq_true p924
              replace q924 := eq_true q924
              go_wp2
              repeat (go_quiet (fail); try go_wp2)
              go_meet
              case rel => exact ⟨_, (decide ((rd l2 x7_2) < 0)), (by first | rfl | (simp; done) | (simp [*]; done)), H', ⟨by have := HJ3.out; have := HK2.out; have := HJ37.out; first | omega | exact Nat.le_refl _⟩, ⟨by (with_reducible repeat (first | refine blk_drewN ?_ _ | refine blk_drew ?_ | refine blk_alloc ?_ _)); exact BK916.out⟩, ⟨by repeat (first | (with_reducible first | exact HB.out | apply below_alloc | apply pw_below_drewN | apply below_drew1 | refine below_set ?_ GE916.out) | exact HB.out)⟩⟩
             ·rw [if_neg c49] at H
              exact absurd H (by simp)
            ·rw [if_neg c48] at H
             exact absurd H (by simp)
          case rest =>
           clear HC46
           (try clear c1); (try clear c2); (try clear p2); (try clear c3); (try clear c4); (try clear c6); (try clear c7); (try clear c9); (try clear p9); (try clear q9); (try clear hx9); (try clear c10); (try clear c10b0); (try clear c11); (try clear c11b0); (try clear c12); (try clear c12b0); (try clear c12b1); (try clear c18); (try clear c18b0); (try clear c18b1); (try clear c18b2); (try clear c19); (try clear c19b0); (try clear c36); (try clear c37); (try clear c37b0); (try clear c39); (try clear c39b0); (try clear c40); (try clear c40b0); (try clear c41); (try clear c41b0); (try clear c42); (try clear c42b0); (try clear c42b1); (try clear c45); (try clear c47); (try clear c47b0); (try clear c47b1); (try clear c48); (try clear c48b0); (try clear c49); (try clear c49b0); (try clear hcz13_0); (try clear hcz13_1); (try clear hcz13_2); (try clear hcz13_3); (try clear hcz15_0); (try clear hcz15_1); (try clear hcz15_2); (try clear hcz15_3); (try clear hcz17_0); (try clear hcz17_1); (try clear hcz17_2); (try clear hcz17_3); (try clear hcz20_0); (try clear hcz20_1); (try clear hcz20_2); (try clear hcz20_3); (try clear hcz22_0); (try clear hcz22_1); (try clear hcz22_2); (try clear hcz22_3); (try clear hcz24_0); (try clear hcz24_1); (try clear hcz24_2); (try clear hcz24_3); (try clear hcz25_0); (try clear hcz25_1); (try clear hcz25_2); (try clear hcz25_3); (try clear hcz27_0); (try clear hcz27_1); (try clear hcz27_2); (try clear hcz27_3); (try clear hcz29_0); (try clear hcz29_1); (try clear hcz29_2); (try clear hcz29_3); (try clear hcz30_0); (try clear hcz30_1); (try clear hcz30_2); (try clear hcz30_3); (try clear hcz32_0); (try clear hcz32_1); (try clear hcz32_2); (try clear hcz32_3); (try clear hcz34_0); (try clear hcz34_1); (try clear hcz34_2); (try clear hcz34_3); (try clear hcz43_0); (try clear hcz43_1); (try clear hcz43_2); (try clear hcz43_3); (try clear hcz44_0); (try clear hcz44_1); (try clear hcz44_2); (try clear hcz44_3); (try clear hfz13_0); (try clear hfz13_1); (try clear hfz13_2); (try clear hfz13_3); (try clear hfz15_0); (try clear hfz15_1); (try clear hfz15_2); (try clear hfz15_3); (try clear hfz17_0); (try clear hfz17_1); (try clear hfz17_2); (try clear hfz17_3); (try clear hfz20_0); (try clear hfz20_1); (try clear hfz20_2); (try clear hfz20_3); (try clear hfz22_0); (try clear hfz22_1); (try clear hfz22_2); (try clear hfz22_3); (try clear hfz24_0); (try clear hfz24_1); (try clear hfz24_2); (try clear hfz24_3); (try clear hfz25_0); (try clear hfz25_1); (try clear hfz25_2); (try clear hfz25_3); (try clear hfz27_0); (try clear hfz27_1); (try clear hfz27_2); (try clear hfz27_3); (try clear hfz29_0); (try clear hfz29_1); (try clear hfz29_2); (try clear hfz29_3); (try clear hfz30_0); (try clear hfz30_1); (try clear hfz30_2); (try clear hfz30_3); (try clear hfz32_0); (try clear hfz32_1); (try clear hfz32_2); (try clear hfz32_3); (try clear hfz34_0); (try clear hfz34_1); (try clear hfz34_2); (try clear hfz34_3); (try clear hfz43_0); (try clear hfz43_1); (try clear hfz43_2); (try clear hfz43_3); (try clear hfz44_0); (try clear hfz44_1); (try clear hfz44_2); (try clear hfz44_3); (try clear hx919_0); (try clear hx920_0); (try clear hx921_0); (try clear hx922_0); (try clear hx923_0); (try clear hx924_0); (try clear p2); (try clear p9); (try clear p919); (try clear p920); (try clear p921); (try clear p922); (try clear p923); (try clear p924); (try clear q9); (try clear q919); (try clear q920); (try clear q921); (try clear q922); (try clear q923); (try clear q924)
           obtain ⟨kq, x8_45, rfl, HA, HJ45, BK916, HB⟩ := hcut
           cases kq with
           | zero => exact absurd HA.out (by simp [spec_Proves.j3])
           | succ kj45 =>
            have H := HA.out
            clear HA
            simp only [spec_Proves.j3] at H
            have H' := Aside0.mk H
            clear H
            go_wp2
            repeat (go_quiet (fail); try go_wp2)
            go_loopg [8, 9] kj45 (fun kq v8 v9 w' => ∃ (x8_5 : Bool) (x9_5 : Int), v8 = .bool x8_5 ∧ v9 = .int .i64 x9_5 ∧ Aside0 (spec_Proves.l1 kq a1 l2 x7_2 x8_5 x9_5 a0_0 a0_1 l0_2 l0_3 = some r) ∧ Aside0 (kq ≤ kj45) ∧ Aside0 (w'.heap[gb916]? = some (.cells #[.int .i64 a0_0, .int .i64 a0_1, (.slice A0_2 l0_2.length c0_2), (.slice A0_3 l0_3.length c0_3)] 98 (0, 0))) ∧ Aside0 (Below w.heap.size w w'))
            case atStart => exact ⟨(x8_45), (0), (by first | rfl | (simp; done) | (simp [*]; done)), (by first | rfl | (simp; done) | (simp [*]; done)), H', ⟨Nat.le_refl _⟩, ⟨by (with_reducible repeat (first | refine blk_drewN ?_ _ | refine blk_drew ?_ | refine blk_alloc ?_ _)); exact BK916.out⟩, ⟨by repeat (first | (with_reducible first | exact HB.out | apply below_alloc | apply pw_below_drewN | apply below_drew1 | refine below_set ?_ GE916.out) | exact HB.out)⟩⟩
            case round =>
             clear H'
             (try clear c1); (try clear c2); (try clear p2); (try clear c3); (try clear c4); (try clear c6); (try clear c7); (try clear c9); (try clear p9); (try clear q9); (try clear hx9); (try clear c10); (try clear c10b0); (try clear c11); (try clear c11b0); (try clear c12); (try clear c12b0); (try clear c12b1); (try clear c18); (try clear c18b0); (try clear c18b1); (try clear c18b2); (try clear c19); (try clear c19b0); (try clear c36); (try clear c37); (try clear c37b0); (try clear c39); (try clear c39b0); (try clear c40); (try clear c40b0); (try clear c41); (try clear c41b0); (try clear c42); (try clear c42b0); (try clear c42b1); (try clear c45); (try clear c47); (try clear c47b0); (try clear c47b1); (try clear c48); (try clear c48b0); (try clear c49); (try clear c49b0); (try clear hcz13_0); (try clear hcz13_1); (try clear hcz13_2); (try clear hcz13_3); (try clear hcz15_0); (try clear hcz15_1); (try clear hcz15_2); (try clear hcz15_3); (try clear hcz17_0); (try clear hcz17_1); (try clear hcz17_2); (try clear hcz17_3); (try clear hcz20_0); (try clear hcz20_1); (try clear hcz20_2); (try clear hcz20_3); (try clear hcz22_0); (try clear hcz22_1); (try clear hcz22_2); (try clear hcz22_3); (try clear hcz24_0); (try clear hcz24_1); (try clear hcz24_2); (try clear hcz24_3); (try clear hcz25_0); (try clear hcz25_1); (try clear hcz25_2); (try clear hcz25_3); (try clear hcz27_0); (try clear hcz27_1); (try clear hcz27_2); (try clear hcz27_3); (try clear hcz29_0); (try clear hcz29_1); (try clear hcz29_2); (try clear hcz29_3); (try clear hcz30_0); (try clear hcz30_1); (try clear hcz30_2); (try clear hcz30_3); (try clear hcz32_0); (try clear hcz32_1); (try clear hcz32_2); (try clear hcz32_3); (try clear hcz34_0); (try clear hcz34_1); (try clear hcz34_2); (try clear hcz34_3); (try clear hcz43_0); (try clear hcz43_1); (try clear hcz43_2); (try clear hcz43_3); (try clear hcz44_0); (try clear hcz44_1); (try clear hcz44_2); (try clear hcz44_3); (try clear hfz13_0); (try clear hfz13_1); (try clear hfz13_2); (try clear hfz13_3); (try clear hfz15_0); (try clear hfz15_1); (try clear hfz15_2); (try clear hfz15_3); (try clear hfz17_0); (try clear hfz17_1); (try clear hfz17_2); (try clear hfz17_3); (try clear hfz20_0); (try clear hfz20_1); (try clear hfz20_2); (try clear hfz20_3); (try clear hfz22_0); (try clear hfz22_1); (try clear hfz22_2); (try clear hfz22_3); (try clear hfz24_0); (try clear hfz24_1); (try clear hfz24_2); (try clear hfz24_3); (try clear hfz25_0); (try clear hfz25_1); (try clear hfz25_2); (try clear hfz25_3); (try clear hfz27_0); (try clear hfz27_1); (try clear hfz27_2); (try clear hfz27_3); (try clear hfz29_0); (try clear hfz29_1); (try clear hfz29_2); (try clear hfz29_3); (try clear hfz30_0); (try clear hfz30_1); (try clear hfz30_2); (try clear hfz30_3); (try clear hfz32_0); (try clear hfz32_1); (try clear hfz32_2); (try clear hfz32_3); (try clear hfz34_0); (try clear hfz34_1); (try clear hfz34_2); (try clear hfz34_3); (try clear hfz43_0); (try clear hfz43_1); (try clear hfz43_2); (try clear hfz43_3); (try clear hfz44_0); (try clear hfz44_1); (try clear hfz44_2); (try clear hfz44_3); (try clear hx919_0); (try clear hx920_0); (try clear hx921_0); (try clear hx922_0); (try clear hx923_0); (try clear hx924_0); (try clear p2); (try clear p9); (try clear p919); (try clear p920); (try clear p921); (try clear p922); (try clear p923); (try clear p924); (try clear q9); (try clear q919); (try clear q920); (try clear q921); (try clear q922); (try clear q923); (try clear q924)
             obtain ⟨x8_5, x9_5, rfl, rfl, HA, HK5, BK916, HB⟩ := hrel
             cases gk with
             | zero => exact absurd HA.out (by simp [spec_Proves.l1])
             | succ k5 =>
              have H := HA.out
              clear HA
              simp only [spec_Proves.l1] at H
              have HC50 := Aside0.mk H
              clear H
              go_upto_region 10 with (fail)
              repeat (go_quiet (fail); go_upto_region 10 with (fail))
              go_cut [88] (fun v88 wc => ∃ (kq : Nat) (x88_49 : Bool), v88 = .bool x88_49 ∧ Aside0 (spec_Proves.j5 kq a1 l2 x7_2 x8_5 x9_5 x88_49 a0_0 a0_1 l0_2 l0_3 = some r) ∧ Aside0 (kq ≤ k5) ∧ Aside0 (wc.heap[gb916]? = some (.cells #[.int .i64 a0_0, .int .i64 a0_1, (.slice A0_2 l0_2.length c0_2), (.slice A0_3 l0_3.length c0_3)] 98 (0, 0))) ∧ Aside0 (Below w.heap.size w wc))
              case first =>
               have H := HC50.out
               clear HC50
               by_cases c51 : x9_5 < (l2.length : Int)
               ·rw [if_pos c51] at H
                have c51b0 : decide (x9_5 < (l2.length : Int)) = true := decide_eq_true c51
                clear c51
                (first | rw [c51b0] | (simp only [i64_w, i32_w]; rw [c51b0]) | skip)
                by_cases c52 : 0 ≤ x7_2
                ·rw [if_pos c52] at H
                 have c52b0 : decide (0 ≤ x7_2) = true := decide_eq_true c52
                 clear c52
                 by_cases c53 : x7_2 < (l2.length : Int)
                 ·rw [if_pos c53] at H
                  have c53b0 : decide (x7_2 < (l2.length : Int)) = true := decide_eq_true c53
                  clear c53
                  have H' := Aside0.mk H
                  clear H
                  have p925 : 0 ≤ (x7_2 : Int) := of_decide_eq_true (by first | (with_reducible assumption) | assumption)
                  have q925 : x7_2 < (l2.length : Int) := of_decide_eq_true (by first | (with_reducible assumption) | assumption)
                  obtain ⟨ad925, e925, hx925_0⟩ := Kd.at_int HR2.out x7_2 p925 q925
                  cases e925
                  replace hx925_0 := (HB.out.cell (World.block_lt_of_cell? w _ hx925_0)).trans hx925_0
                  replace p925 := eq_true p925
                  replace q925 := eq_true q925
                  go_wp2
                  repeat (go_quiet (fail); try go_wp2)
                  go_meet
                  case rel => exact ⟨_, (decide ((rd l2 x7_2) ≥ 0)), (by first | rfl | (simp; done) | (simp [*]; done)), H', ⟨by have := HJ3.out; have := HK2.out; have := HJ37.out; have := HJ45.out; have := HK5.out; first | omega | exact Nat.le_refl _⟩, ⟨by (with_reducible repeat (first | refine blk_drewN ?_ _ | refine blk_drew ?_ | refine blk_alloc ?_ _)); exact BK916.out⟩, ⟨by repeat (first | (with_reducible first | exact HB.out | apply below_alloc | apply pw_below_drewN | apply below_drew1 | refine below_set ?_ GE916.out) | exact HB.out)⟩⟩
                 ·rw [if_neg c53] at H
                  exact absurd H (by simp)
                ·rw [if_neg c52] at H
                 exact absurd H (by simp)
               ·rw [if_neg c51] at H
                have c51b0 : decide (x9_5 < (l2.length : Int)) = false := decide_eq_false c51
                clear c51
                (first | rw [c51b0] | (simp only [i64_w, i32_w]; rw [c51b0]) | skip)
                have H' := Aside0.mk H
                clear H
                go_wp2
                repeat (go_quiet (fail); try go_wp2)
                go_meet
                case rel => exact ⟨_, (false), (by first | rfl | (simp; done) | (simp [*]; done)), H', ⟨by have := HJ3.out; have := HK2.out; have := HJ37.out; have := HJ45.out; have := HK5.out; first | omega | exact Nat.le_refl _⟩, ⟨by (with_reducible repeat (first | refine blk_drewN ?_ _ | refine blk_drew ?_ | refine blk_alloc ?_ _)); exact BK916.out⟩, ⟨by repeat (first | (with_reducible first | exact HB.out | apply below_alloc | apply pw_below_drewN | apply below_drew1 | refine below_set ?_ GE916.out) | exact HB.out)⟩⟩
              case rest =>
               clear HC50
               (try clear c1); (try clear c2); (try clear p2); (try clear c3); (try clear c4); (try clear c5); (try clear c6); (try clear c7); (try clear c9); (try clear p9); (try clear q9); (try clear hx9); (try clear c10); (try clear c10b0); (try clear c11); (try clear c11b0); (try clear c12); (try clear c12b0); (try clear c12b1); (try clear c18); (try clear c18b0); (try clear c18b1); (try clear c18b2); (try clear c19); (try clear c19b0); (try clear c36); (try clear c37); (try clear c37b0); (try clear c39); (try clear c39b0); (try clear c40); (try clear c40b0); (try clear c41); (try clear c41b0); (try clear c42); (try clear c42b0); (try clear c42b1); (try clear c45); (try clear c47); (try clear c47b0); (try clear c47b1); (try clear c48); (try clear c48b0); (try clear c49); (try clear c49b0); (try clear c51); (try clear c51b0); (try clear c52); (try clear c52b0); (try clear c53); (try clear c53b0); (try clear hcz13_0); (try clear hcz13_1); (try clear hcz13_2); (try clear hcz13_3); (try clear hcz15_0); (try clear hcz15_1); (try clear hcz15_2); (try clear hcz15_3); (try clear hcz17_0); (try clear hcz17_1); (try clear hcz17_2); (try clear hcz17_3); (try clear hcz20_0); (try clear hcz20_1); (try clear hcz20_2); (try clear hcz20_3); (try clear hcz22_0); (try clear hcz22_1); (try clear hcz22_2); (try clear hcz22_3); (try clear hcz24_0); (try clear hcz24_1); (try clear hcz24_2); (try clear hcz24_3); (try clear hcz25_0); (try clear hcz25_1); (try clear hcz25_2); (try clear hcz25_3); (try clear hcz27_0); (try clear hcz27_1); (try clear hcz27_2); (try clear hcz27_3); (try clear hcz29_0); (try clear hcz29_1); (try clear hcz29_2); (try clear hcz29_3); (try clear hcz30_0); (try clear hcz30_1); (try clear hcz30_2); (try clear hcz30_3); (try clear hcz32_0); (try clear hcz32_1); (try clear hcz32_2); (try clear hcz32_3); (try clear hcz34_0); (try clear hcz34_1); (try clear hcz34_2); (try clear hcz34_3); (try clear hcz43_0); (try clear hcz43_1); (try clear hcz43_2); (try clear hcz43_3); (try clear hcz44_0); (try clear hcz44_1); (try clear hcz44_2); (try clear hcz44_3); (try clear hfz13_0); (try clear hfz13_1); (try clear hfz13_2); (try clear hfz13_3); (try clear hfz15_0); (try clear hfz15_1); (try clear hfz15_2); (try clear hfz15_3); (try clear hfz17_0); (try clear hfz17_1); (try clear hfz17_2); (try clear hfz17_3); (try clear hfz20_0); (try clear hfz20_1); (try clear hfz20_2); (try clear hfz20_3); (try clear hfz22_0); (try clear hfz22_1); (try clear hfz22_2); (try clear hfz22_3); (try clear hfz24_0); (try clear hfz24_1); (try clear hfz24_2); (try clear hfz24_3); (try clear hfz25_0); (try clear hfz25_1); (try clear hfz25_2); (try clear hfz25_3); (try clear hfz27_0); (try clear hfz27_1); (try clear hfz27_2); (try clear hfz27_3); (try clear hfz29_0); (try clear hfz29_1); (try clear hfz29_2); (try clear hfz29_3); (try clear hfz30_0); (try clear hfz30_1); (try clear hfz30_2); (try clear hfz30_3); (try clear hfz32_0); (try clear hfz32_1); (try clear hfz32_2); (try clear hfz32_3); (try clear hfz34_0); (try clear hfz34_1); (try clear hfz34_2); (try clear hfz34_3); (try clear hfz43_0); (try clear hfz43_1); (try clear hfz43_2); (try clear hfz43_3); (try clear hfz44_0); (try clear hfz44_1); (try clear hfz44_2); (try clear hfz44_3); (try clear hx919_0); (try clear hx920_0); (try clear hx921_0); (try clear hx922_0); (try clear hx923_0); (try clear hx924_0); (try clear hx925_0); (try clear p2); (try clear p9); (try clear p919); (try clear p920); (try clear p921); (try clear p922); (try clear p923); (try clear p924); (try clear p925); (try clear q9); (try clear q919); (try clear q920); (try clear q921); (try clear q922); (try clear q923); (try clear q924); (try clear q925)
               obtain ⟨kq, x88_49, rfl, HA, HJ49, BK916, HB⟩ := hcut
               cases kq with
               | zero => exact absurd HA.out (by simp [spec_Proves.j5])
               | succ kj49 =>
                have H := HA.out
                clear HA
                simp only [spec_Proves.j5] at H
                by_cases c54 : x88_49 = true
                ·subst c54
                 rw [if_pos rfl] at H
                 have HC55 := Aside0.mk H
                 clear H
                 go_upto_region 12 with (fail)
                 repeat (go_quiet (fail); go_upto_region 12 with (fail))
                 go_cut [103] (fun v103 wc => ∃ (kq : Nat) (x103_54 : Bool), v103 = .bool x103_54 ∧ Aside0 (spec_Proves.j6 kq a1 l2 x7_2 x8_5 x9_5 x103_54 a0_0 a0_1 l0_2 l0_3 = some r) ∧ Aside0 (kq ≤ kj49) ∧ Aside0 (wc.heap[gb916]? = some (.cells #[.int .i64 a0_0, .int .i64 a0_1, (.slice A0_2 l0_2.length c0_2), (.slice A0_3 l0_3.length c0_3)] 98 (0, 0))) ∧ Aside0 (Below w.heap.size w wc))
                 case first =>
                  have H := HC55.out
                  clear HC55
                  by_cases c56 : 0 ≤ x9_5
                  ·rw [if_pos c56] at H
                   have c56b0 : decide (0 ≤ x9_5) = true := decide_eq_true c56
                   clear c56
                   (first | rw [c56b0] | (simp only [i64_w, i32_w]; rw [c56b0]) | skip)
                   by_cases c57 : x9_5 < (l0_2.length : Int)
                   ·rw [if_pos c57] at H
                    have c57b0 : decide (x9_5 < (l0_2.length : Int)) = true := decide_eq_true c57
                    clear c57
                    by_cases c58 : (rd l0_2 x9_5) = 0
                    ·rw [if_pos c58] at H
                     have c58b0 : ((rd l0_2 x9_5) == 0) = true := beq_iff_eq.mpr c58
                     have c58b1 : ((rd l0_2 x9_5) != 0) = false := bne_eq_false_iff_eq.mpr c58
                     clear c58
                     have H' := Aside0.mk H
                     clear H
                     have hcz59_0 : wc.cell? ⟨gb916, 0, none⟩ = some (.int .i64 a0_0) := (blk_cell BK916.out 0).trans rfl
                     have hcz59_1 : wc.cell? ⟨gb916, 1, none⟩ = some (.int .i64 a0_1) := (blk_cell BK916.out 1).trans rfl
                     have hcz59_2 : wc.cell? ⟨gb916, 2, none⟩ = some (.slice A0_2 l0_2.length c0_2) := (blk_cell BK916.out 2).trans rfl
                     have hcz59_3 : wc.cell? ⟨gb916, 3, none⟩ = some (.slice A0_3 l0_3.length c0_3) := (blk_cell BK916.out 3).trans rfl
                     have hfz59_0 := blk_frozen BK916.out 0
                     have hfz59_1 := blk_frozen BK916.out 1
                     have hfz59_2 := blk_frozen BK916.out 2
                     have hfz59_3 := blk_frozen BK916.out 3
                     have p926 : 0 ≤ (x9_5 : Int) := of_decide_eq_true (by first | (with_reducible assumption) | assumption)
                     have q926 : x9_5 < (l0_2.length : Int) := of_decide_eq_true (by first | (with_reducible assumption) | assumption)
                     obtain ⟨ad926, e926, hx926_0⟩ := Kd.at_int HR0_2.out x9_5 p926 q926
                     cases e926
                     replace hx926_0 := (HB.out.cell (World.block_lt_of_cell? w _ hx926_0)).trans hx926_0
                     replace p926 := eq_true p926
                     replace q926 := eq_true q926
                     go_wp2
                     repeat (go_quiet (fail); try go_wp2)
                     go_meet
                     case rel => exact ⟨_, (true), (by first | rfl | (simp; done) | (simp [*]; done)), H', ⟨by have := HJ3.out; have := HK2.out; have := HJ37.out; have := HJ45.out; have := HK5.out; have := HJ49.out; first | omega | exact Nat.le_refl _⟩, ⟨by (with_reducible repeat (first | refine blk_drewN ?_ _ | refine blk_drew ?_ | refine blk_alloc ?_ _)); exact BK916.out⟩, ⟨by repeat (first | (with_reducible first | exact HB.out | apply below_alloc | apply pw_below_drewN | apply below_drew1 | refine below_set ?_ GE916.out) | exact HB.out)⟩⟩
                    ·rw [if_neg c58] at H
                     have c58b0 : ((rd l0_2 x9_5) == 0) = false := beq_eq_false_iff_ne.mpr c58
                     have c58b1 : ((rd l0_2 x9_5) != 0) = true := bne_iff_ne.mpr c58
                     replace H := Option.bind_eq_some_iff.mp H
                     obtain ⟨t927, A600, H⟩ := H
                     (try dsimp only at H)
                     have A60 := Aside0.mk A600
                     clear A600
                     have H' := Aside0.mk H
                     clear H
                     have hcz61_0 : wc.cell? ⟨gb916, 0, none⟩ = some (.int .i64 a0_0) := (blk_cell BK916.out 0).trans rfl
                     have hcz61_1 : wc.cell? ⟨gb916, 1, none⟩ = some (.int .i64 a0_1) := (blk_cell BK916.out 1).trans rfl
                     have hcz61_2 : wc.cell? ⟨gb916, 2, none⟩ = some (.slice A0_2 l0_2.length c0_2) := (blk_cell BK916.out 2).trans rfl
                     have hcz61_3 : wc.cell? ⟨gb916, 3, none⟩ = some (.slice A0_3 l0_3.length c0_3) := (blk_cell BK916.out 3).trans rfl
                     have hfz61_0 := blk_frozen BK916.out 0
                     have hfz61_1 := blk_frozen BK916.out 1
                     have hfz61_2 := blk_frozen BK916.out 2
                     have hfz61_3 := blk_frozen BK916.out 3
                     have p926 : 0 ≤ (x9_5 : Int) := of_decide_eq_true (by first | (with_reducible assumption) | assumption)
                     have q926 : x9_5 < (l0_2.length : Int) := of_decide_eq_true (by first | (with_reducible assumption) | assumption)
                     obtain ⟨ad926, e926, hx926_0⟩ := Kd.at_int HR0_2.out x9_5 p926 q926
                     cases e926
                     replace hx926_0 := (HB.out.cell (World.block_lt_of_cell? w _ hx926_0)).trans hx926_0
                     replace p926 := eq_true p926
                     replace q926 := eq_true q926
                     go_wp2_with (first | (go_at_call 124; (with_reducible refine (spec_l7Next.calls a0_0 a0_1 _ _ l0_2 _ _ l0_3 x7_2 x9_5 t927 _ ?side1 ?side2 ?side3 ?side4 A60.out).mono ?_); (case side1 => repeat (first | exact (Kd.C_below HR0_2.out HB.out) | (with_reducible refine Kd.C_alloc ?_ _) | (with_reducible refine Kd.C_drewN ?_ _) | (with_reducible refine Kd.C_drew ?_))); (case side2 => exact HC0_2.out); (case side3 => repeat (first | exact (Kd.C_below HR0_3.out HB.out) | (with_reducible refine Kd.C_alloc ?_ _) | (with_reducible refine Kd.C_drewN ?_ _) | (with_reducible refine Kd.C_drew ?_))); (case side4 => exact HC0_3.out); rintro e w62 ⟨rfl, hb⟩; have n0_ := Aside0.mk (blk_below (g := gb916) (o := .cells #[.int .i64 a0_0, .int .i64 a0_1, .slice (some ad926) l0_2.length c0_2, .slice A0_3 l0_3.length c0_3] 98 (0, 0)) (by (with_reducible repeat (first | refine blk_drewN ?_ _ | refine blk_drew ?_ | refine blk_alloc ?_ _)); exact BK916.out) hb); have n1_ := Aside0.mk (below_step (by repeat (first | (with_reducible first | exact HB.out | apply below_alloc | apply pw_below_drewN | apply below_drew1 | refine below_set ?_ GE916.out) | exact HB.out)) hb); clear BK916; clear HB; have BK916 := n0_; have HB := n1_; clear n0_ n1_; (try clear hb); (try clear hb2); (try clear hk); (try clear hi)))
                     repeat (go_quiet (first | (go_at_call 124; (with_reducible refine (spec_l7Next.calls a0_0 a0_1 _ _ l0_2 _ _ l0_3 x7_2 x9_5 t927 _ ?side1 ?side2 ?side3 ?side4 A60.out).mono ?_); (case side1 => repeat (first | exact (Kd.C_below HR0_2.out HB.out) | (with_reducible refine Kd.C_alloc ?_ _) | (with_reducible refine Kd.C_drewN ?_ _) | (with_reducible refine Kd.C_drew ?_))); (case side2 => exact HC0_2.out); (case side3 => repeat (first | exact (Kd.C_below HR0_3.out HB.out) | (with_reducible refine Kd.C_alloc ?_ _) | (with_reducible refine Kd.C_drewN ?_ _) | (with_reducible refine Kd.C_drew ?_))); (case side4 => exact HC0_3.out); rintro e w62 ⟨rfl, hb⟩; have n0_ := Aside0.mk (blk_below (g := gb916) (o := .cells #[.int .i64 a0_0, .int .i64 a0_1, .slice (some ad926) l0_2.length c0_2, .slice A0_3 l0_3.length c0_3] 98 (0, 0)) (by (with_reducible repeat (first | refine blk_drewN ?_ _ | refine blk_drew ?_ | refine blk_alloc ?_ _)); exact BK916.out) hb); have n1_ := Aside0.mk (below_step (by repeat (first | (with_reducible first | exact HB.out | apply below_alloc | apply pw_below_drewN | apply below_drew1 | refine below_set ?_ GE916.out) | exact HB.out)) hb); clear BK916; clear HB; have BK916 := n0_; have HB := n1_; clear n0_ n1_; (try clear hb); (try clear hb2); (try clear hk); (try clear hi))); try go_wp2_with (first | (go_at_call 124; (with_reducible refine (spec_l7Next.calls a0_0 a0_1 _ _ l0_2 _ _ l0_3 x7_2 x9_5 t927 _ ?side1 ?side2 ?side3 ?side4 A60.out).mono ?_); (case side1 => repeat (first | exact (Kd.C_below HR0_2.out HB.out) | (with_reducible refine Kd.C_alloc ?_ _) | (with_reducible refine Kd.C_drewN ?_ _) | (with_reducible refine Kd.C_drew ?_))); (case side2 => exact HC0_2.out); (case side3 => repeat (first | exact (Kd.C_below HR0_3.out HB.out) | (with_reducible refine Kd.C_alloc ?_ _) | (with_reducible refine Kd.C_drewN ?_ _) | (with_reducible refine Kd.C_drew ?_))); (case side4 => exact HC0_3.out); rintro e w62 ⟨rfl, hb⟩; have n0_ := Aside0.mk (blk_below (g := gb916) (o := .cells #[.int .i64 a0_0, .int .i64 a0_1, .slice (some ad926) l0_2.length c0_2, .slice A0_3 l0_3.length c0_3] 98 (0, 0)) (by (with_reducible repeat (first | refine blk_drewN ?_ _ | refine blk_drew ?_ | refine blk_alloc ?_ _)); exact BK916.out) hb); have n1_ := Aside0.mk (below_step (by repeat (first | (with_reducible first | exact HB.out | apply below_alloc | apply pw_below_drewN | apply below_drew1 | refine below_set ?_ GE916.out) | exact HB.out)) hb); clear BK916; clear HB; have BK916 := n0_; have HB := n1_; clear n0_ n1_; (try clear hb); (try clear hb2); (try clear hk); (try clear hi))))
                     go_meet
                     case rel => exact ⟨_, (!t927), (by first | rfl | (simp; done) | (simp [*]; done)), H', ⟨by have := HJ3.out; have := HK2.out; have := HJ37.out; have := HJ45.out; have := HK5.out; have := HJ49.out; first | omega | exact Nat.le_refl _⟩, ⟨by (with_reducible repeat (first | refine blk_drewN ?_ _ | refine blk_drew ?_ | refine blk_alloc ?_ _)); exact BK916.out⟩, ⟨by repeat (first | (with_reducible first | exact HB.out | apply below_alloc | apply pw_below_drewN | apply below_drew1 | refine below_set ?_ GE916.out) | exact HB.out)⟩⟩
                   ·rw [if_neg c57] at H
                    exact absurd H (by simp)
                  ·rw [if_neg c56] at H
                   exact absurd H (by simp)
                 case rest =>
                  clear HC55
                  (try clear c1); (try clear c2); (try clear p2); (try clear c3); (try clear c4); (try clear c5); (try clear c6); (try clear c7); (try clear c9); (try clear p9); (try clear q9); (try clear hx9); (try clear c10); (try clear c10b0); (try clear c11); (try clear c11b0); (try clear c12); (try clear c12b0); (try clear c12b1); (try clear c18); (try clear c18b0); (try clear c18b1); (try clear c18b2); (try clear c19); (try clear c19b0); (try clear c36); (try clear c37); (try clear c37b0); (try clear c39); (try clear c39b0); (try clear c40); (try clear c40b0); (try clear c41); (try clear c41b0); (try clear c42); (try clear c42b0); (try clear c42b1); (try clear c45); (try clear c47); (try clear c47b0); (try clear c47b1); (try clear c48); (try clear c48b0); (try clear c49); (try clear c49b0); (try clear c51); (try clear c51b0); (try clear c52); (try clear c52b0); (try clear c53); (try clear c53b0); (try clear c54); (try clear c56); (try clear c56b0); (try clear c57); (try clear c57b0); (try clear c58); (try clear c58b0); (try clear c58b1); (try clear hcz13_0); (try clear hcz13_1); (try clear hcz13_2); (try clear hcz13_3); (try clear hcz15_0); (try clear hcz15_1); (try clear hcz15_2); (try clear hcz15_3); (try clear hcz17_0); (try clear hcz17_1); (try clear hcz17_2); (try clear hcz17_3); (try clear hcz20_0); (try clear hcz20_1); (try clear hcz20_2); (try clear hcz20_3); (try clear hcz22_0); (try clear hcz22_1); (try clear hcz22_2); (try clear hcz22_3); (try clear hcz24_0); (try clear hcz24_1); (try clear hcz24_2); (try clear hcz24_3); (try clear hcz25_0); (try clear hcz25_1); (try clear hcz25_2); (try clear hcz25_3); (try clear hcz27_0); (try clear hcz27_1); (try clear hcz27_2); (try clear hcz27_3); (try clear hcz29_0); (try clear hcz29_1); (try clear hcz29_2); (try clear hcz29_3); (try clear hcz30_0); (try clear hcz30_1); (try clear hcz30_2); (try clear hcz30_3); (try clear hcz32_0); (try clear hcz32_1); (try clear hcz32_2); (try clear hcz32_3); (try clear hcz34_0); (try clear hcz34_1); (try clear hcz34_2); (try clear hcz34_3); (try clear hcz43_0); (try clear hcz43_1); (try clear hcz43_2); (try clear hcz43_3); (try clear hcz44_0); (try clear hcz44_1); (try clear hcz44_2); (try clear hcz44_3); (try clear hcz59_0); (try clear hcz59_1); (try clear hcz59_2); (try clear hcz59_3); (try clear hcz61_0); (try clear hcz61_1); (try clear hcz61_2); (try clear hcz61_3); (try clear hfz13_0); (try clear hfz13_1); (try clear hfz13_2); (try clear hfz13_3); (try clear hfz15_0); (try clear hfz15_1); (try clear hfz15_2); (try clear hfz15_3); (try clear hfz17_0); (try clear hfz17_1); (try clear hfz17_2); (try clear hfz17_3); (try clear hfz20_0); (try clear hfz20_1); (try clear hfz20_2); (try clear hfz20_3); (try clear hfz22_0); (try clear hfz22_1); (try clear hfz22_2); (try clear hfz22_3); (try clear hfz24_0); (try clear hfz24_1); (try clear hfz24_2); (try clear hfz24_3); (try clear hfz25_0); (try clear hfz25_1); (try clear hfz25_2); (try clear hfz25_3); (try clear hfz27_0); (try clear hfz27_1); (try clear hfz27_2); (try clear hfz27_3); (try clear hfz29_0); (try clear hfz29_1); (try clear hfz29_2); (try clear hfz29_3); (try clear hfz30_0); (try clear hfz30_1); (try clear hfz30_2); (try clear hfz30_3); (try clear hfz32_0); (try clear hfz32_1); (try clear hfz32_2); (try clear hfz32_3); (try clear hfz34_0); (try clear hfz34_1); (try clear hfz34_2); (try clear hfz34_3); (try clear hfz43_0); (try clear hfz43_1); (try clear hfz43_2); (try clear hfz43_3); (try clear hfz44_0); (try clear hfz44_1); (try clear hfz44_2); (try clear hfz44_3); (try clear hfz59_0); (try clear hfz59_1); (try clear hfz59_2); (try clear hfz59_3); (try clear hfz61_0); (try clear hfz61_1); (try clear hfz61_2); (try clear hfz61_3); (try clear hx919_0); (try clear hx920_0); (try clear hx921_0); (try clear hx922_0); (try clear hx923_0); (try clear hx924_0); (try clear hx925_0); (try clear hx926_0); (try clear p2); (try clear p9); (try clear p919); (try clear p920); (try clear p921); (try clear p922); (try clear p923); (try clear p924); (try clear p925); (try clear p926); (try clear q9); (try clear q919); (try clear q920); (try clear q921); (try clear q922); (try clear q923); (try clear q924); (try clear q925); (try clear q926)
                  obtain ⟨kq, x103_54, rfl, HA, HJ54, BK916, HB⟩ := hcut
                  cases kq with
                  | zero => exact absurd HA.out (by simp [spec_Proves.j6])
                  | succ kj54 =>
                   have H := HA.out
                   clear HA
                   simp only [spec_Proves.j6] at H
                   by_cases c63 : x103_54 = true
                   ·subst c63
                    rw [if_pos rfl] at H
                    have H' := Aside0.mk H
                    clear H
                    go_wp2
                    repeat (go_quiet (fail); try go_wp2)
                    go_roundg kj54
                    case measure => have := HJ3.out; have := HK2.out; have := HJ37.out; have := HJ45.out; have := HK5.out; have := HJ49.out; have := HJ54.out; omega
                    case rel => exact ⟨(x8_5), (wrap64 (x9_5 + 1)), (by first | rfl | (simp; done) | (simp [*]; done)), (by first | rfl | (simp; done) | (simp [*]; done)), H', ⟨by have := HJ3.out; have := HK2.out; have := HJ37.out; have := HJ45.out; have := HK5.out; have := HJ49.out; have := HJ54.out; omega⟩, ⟨by (with_reducible repeat (first | refine blk_drewN ?_ _ | refine blk_drew ?_ | refine blk_alloc ?_ _)); exact BK916.out⟩, ⟨by repeat (first | (with_reducible first | exact HB.out | apply below_alloc | apply pw_below_drewN | apply below_drew1 | refine below_set ?_ GE916.out) | exact HB.out)⟩⟩
                   ·replace c63 := Bool.eq_false_iff.mpr c63
                    subst c63
                    rw [if_neg (show ¬ (false = true) by decide)] at H
                    by_cases c64 : 0 ≤ x9_5
                    ·rw [if_pos c64] at H
                     have c64b0 : decide (0 ≤ x9_5) = true := decide_eq_true c64
                     clear c64
                     by_cases c65 : x9_5 < (l2.length : Int)
                     ·rw [if_pos c65] at H
                      have c65b0 : decide (x9_5 < (l2.length : Int)) = true := decide_eq_true c65
                      clear c65
                      by_cases c66 : (rd l2 x9_5) < 0
                      ·rw [if_pos c66] at H
                       have c66b0 : decide ((rd l2 x9_5) < 0) = true := decide_eq_true c66
                       clear c66
                       obtain rfl := Option.some.inj H
                       have p928 : 0 ≤ (x9_5 : Int) := of_decide_eq_true (by first | (with_reducible assumption) | assumption)
                       have q928 : x9_5 < (l2.length : Int) := of_decide_eq_true (by first | (with_reducible assumption) | assumption)
                       obtain ⟨ad928, e928, hx928_0⟩ := Kd.at_int HR2.out x9_5 p928 q928
                       cases e928
                       replace hx928_0 := (HB.out.cell (World.block_lt_of_cell? w _ hx928_0)).trans hx928_0
                       replace p928 := eq_true p928
                       replace q928 := eq_true q928
                       go_wp2
                       repeat (go_quiet (fail); try go_wp2)
                       go_ret
                       exact ⟨by first | rfl | (simp [errW_none, errW_some] <;> rfl) | (simp [*, errW_none, errW_some] <;> rfl), by repeat (first | (with_reducible first | exact HB.out | apply below_alloc | apply pw_below_drewN | apply below_drew1 | refine below_set ?_ GE916.out) | exact HB.out)⟩
                      ·rw [if_neg c66] at H
                       have c66b0 : decide ((rd l2 x9_5) < 0) = false := decide_eq_false c66
                       clear c66
                       by_cases c67 : x9_5 < (l0_2.length : Int)
                       ·rw [if_pos c67] at H
                        have c67b0 : decide (x9_5 < (l0_2.length : Int)) = true := decide_eq_true c67
                        clear c67
                        by_cases c68 : 0 ≤ x7_2
                        ·rw [if_pos c68] at H
                         have c68b0 : decide (0 ≤ x7_2) = true := decide_eq_true c68
                         clear c68
                         by_cases c69 : x7_2 < (l2.length : Int)
                         ·rw [if_pos c69] at H
                          have c69b0 : decide (x7_2 < (l2.length : Int)) = true := decide_eq_true c69
                          clear c69
                          by_cases c70 : (wrap64 ((rd l2 x9_5) - (rd l0_2 x9_5))) > (rd l2 x7_2)
                          ·rw [if_pos c70] at H
                           have c70b0 : decide ((rd l2 x7_2) < (wrap64 ((rd l2 x9_5) - (rd l0_2 x9_5)))) = true := decide_eq_true c70
                           clear c70
                           obtain rfl := Option.some.inj H
                           have p928 : 0 ≤ (x9_5 : Int) := of_decide_eq_true (by first | (with_reducible assumption) | assumption)
                           have q928 : x9_5 < (l2.length : Int) := of_decide_eq_true (by first | (with_reducible assumption) | assumption)
                           obtain ⟨ad928, e928, hx928_0⟩ := Kd.at_int HR2.out x9_5 p928 q928
                           cases e928
                           replace hx928_0 := (HB.out.cell (World.block_lt_of_cell? w _ hx928_0)).trans hx928_0
                           replace p928 := eq_true p928
                           replace q928 := eq_true q928
                           have p929 : 0 ≤ (x9_5 : Int) := of_decide_eq_true (by first | (with_reducible assumption) | assumption)
                           have q929 : x9_5 < (l2.length : Int) := of_decide_eq_true (by first | (with_reducible assumption) | assumption)
                           obtain ⟨ad929, e929, hx929_0⟩ := Kd.at_int HR2.out x9_5 p929 q929
                           obtain rfl : ad928 = ad929 := (by injection e929)
                           replace hx929_0 := (HB.out.cell (World.block_lt_of_cell? w _ hx929_0)).trans hx929_0
                           replace p929 := eq_true p929
                           replace q929 := eq_true q929
                           have hcz71_0 : wc.cell? ⟨gb916, 0, none⟩ = some (.int .i64 a0_0) := (blk_cell BK916.out 0).trans rfl
                           have hcz71_1 : wc.cell? ⟨gb916, 1, none⟩ = some (.int .i64 a0_1) := (blk_cell BK916.out 1).trans rfl
                           have hcz71_2 : wc.cell? ⟨gb916, 2, none⟩ = some (.slice A0_2 l0_2.length c0_2) := (blk_cell BK916.out 2).trans rfl
                           have hcz71_3 : wc.cell? ⟨gb916, 3, none⟩ = some (.slice A0_3 l0_3.length c0_3) := (blk_cell BK916.out 3).trans rfl
                           have hfz71_0 := blk_frozen BK916.out 0
                           have hfz71_1 := blk_frozen BK916.out 1
                           have hfz71_2 := blk_frozen BK916.out 2
                           have hfz71_3 := blk_frozen BK916.out 3
                           have p930 : 0 ≤ (x9_5 : Int) := of_decide_eq_true (by first | (with_reducible assumption) | assumption)
                           have q930 : x9_5 < (l0_2.length : Int) := of_decide_eq_true (by first | (with_reducible assumption) | assumption)
                           obtain ⟨ad930, e930, hx930_0⟩ := Kd.at_int HR0_2.out x9_5 p930 q930
                           cases e930
                           replace hx930_0 := (HB.out.cell (World.block_lt_of_cell? w _ hx930_0)).trans hx930_0
                           replace p930 := eq_true p930
                           replace q930 := eq_true q930
                           have p931 : 0 ≤ (x7_2 : Int) := of_decide_eq_true (by first | (with_reducible assumption) | assumption)
                           have q931 : x7_2 < (l2.length : Int) := of_decide_eq_true (by first | (with_reducible assumption) | assumption)
                           obtain ⟨ad931, e931, hx931_0⟩ := Kd.at_int HR2.out x7_2 p931 q931
                           obtain rfl : ad928 = ad931 := (by injection e931)
                           replace hx931_0 := (HB.out.cell (World.block_lt_of_cell? w _ hx931_0)).trans hx931_0
                           replace p931 := eq_true p931
                           replace q931 := eq_true q931
                           go_wp2
                           repeat (go_quiet (fail); try go_wp2)
                           go_ret
                           exact ⟨by first | rfl | (simp [errW_none, errW_some] <;> rfl) | (simp [*, errW_none, errW_some] <;> rfl), by repeat (first | (with_reducible first | exact HB.out | apply below_alloc | apply pw_below_drewN | apply below_drew1 | refine below_set ?_ GE916.out) | exact HB.out)⟩
                          ·rw [if_neg c70] at H
                           have c70b0 : decide ((rd l2 x7_2) < (wrap64 ((rd l2 x9_5) - (rd l0_2 x9_5)))) = false := decide_eq_false c70
                           clear c70
                           by_cases c72 : x8_5 = true
                           ·subst c72
                            rw [if_pos rfl] at H
                            have H' := Aside0.mk H
                            clear H
                            have p928 : 0 ≤ (x9_5 : Int) := of_decide_eq_true (by first | (with_reducible assumption) | assumption)
                            have q928 : x9_5 < (l2.length : Int) := of_decide_eq_true (by first | (with_reducible assumption) | assumption)
                            obtain ⟨ad928, e928, hx928_0⟩ := Kd.at_int HR2.out x9_5 p928 q928
                            cases e928
                            replace hx928_0 := (HB.out.cell (World.block_lt_of_cell? w _ hx928_0)).trans hx928_0
                            replace p928 := eq_true p928
                            replace q928 := eq_true q928
                            have p929 : 0 ≤ (x9_5 : Int) := of_decide_eq_true (by first | (with_reducible assumption) | assumption)
                            have q929 : x9_5 < (l2.length : Int) := of_decide_eq_true (by first | (with_reducible assumption) | assumption)
                            obtain ⟨ad929, e929, hx929_0⟩ := Kd.at_int HR2.out x9_5 p929 q929
                            obtain rfl : ad928 = ad929 := (by injection e929)
                            replace hx929_0 := (HB.out.cell (World.block_lt_of_cell? w _ hx929_0)).trans hx929_0
                            replace p929 := eq_true p929
                            replace q929 := eq_true q929
                            have hcz73_0 : wc.cell? ⟨gb916, 0, none⟩ = some (.int .i64 a0_0) := (blk_cell BK916.out 0).trans rfl
                            have hcz73_1 : wc.cell? ⟨gb916, 1, none⟩ = some (.int .i64 a0_1) := (blk_cell BK916.out 1).trans rfl
                            have hcz73_2 : wc.cell? ⟨gb916, 2, none⟩ = some (.slice A0_2 l0_2.length c0_2) := (blk_cell BK916.out 2).trans rfl
                            have hcz73_3 : wc.cell? ⟨gb916, 3, none⟩ = some (.slice A0_3 l0_3.length c0_3) := (blk_cell BK916.out 3).trans rfl
                            have hfz73_0 := blk_frozen BK916.out 0
                            have hfz73_1 := blk_frozen BK916.out 1
                            have hfz73_2 := blk_frozen BK916.out 2
                            have hfz73_3 := blk_frozen BK916.out 3
                            have p930 : 0 ≤ (x9_5 : Int) := of_decide_eq_true (by first | (with_reducible assumption) | assumption)
                            have q930 : x9_5 < (l0_2.length : Int) := of_decide_eq_true (by first | (with_reducible assumption) | assumption)
                            obtain ⟨ad930, e930, hx930_0⟩ := Kd.at_int HR0_2.out x9_5 p930 q930
                            cases e930
                            replace hx930_0 := (HB.out.cell (World.block_lt_of_cell? w _ hx930_0)).trans hx930_0
                            replace p930 := eq_true p930
                            replace q930 := eq_true q930
                            have p931 : 0 ≤ (x7_2 : Int) := of_decide_eq_true (by first | (with_reducible assumption) | assumption)
                            have q931 : x7_2 < (l2.length : Int) := of_decide_eq_true (by first | (with_reducible assumption) | assumption)
                            obtain ⟨ad931, e931, hx931_0⟩ := Kd.at_int HR2.out x7_2 p931 q931
                            obtain rfl : ad928 = ad931 := (by injection e931)
                            replace hx931_0 := (HB.out.cell (World.block_lt_of_cell? w _ hx931_0)).trans hx931_0
                            replace p931 := eq_true p931
                            replace q931 := eq_true q931
                            go_wp2
                            repeat (go_quiet (fail); try go_wp2)
                            go_roundg kj54
                            case measure => have := HJ3.out; have := HK2.out; have := HJ37.out; have := HJ45.out; have := HK5.out; have := HJ49.out; have := HJ54.out; omega
                            case rel => exact ⟨(true), (wrap64 (x9_5 + 1)), (by first | rfl | (simp; done) | (simp [*]; done)), (by first | rfl | (simp; done) | (simp [*]; done)), H', ⟨by have := HJ3.out; have := HK2.out; have := HJ37.out; have := HJ45.out; have := HK5.out; have := HJ49.out; have := HJ54.out; omega⟩, ⟨by (with_reducible repeat (first | refine blk_drewN ?_ _ | refine blk_drew ?_ | refine blk_alloc ?_ _)); exact BK916.out⟩, ⟨by repeat (first | (with_reducible first | exact HB.out | apply below_alloc | apply pw_below_drewN | apply below_drew1 | refine below_set ?_ GE916.out) | exact HB.out)⟩⟩
                           ·replace c72 := Bool.eq_false_iff.mpr c72
                            subst c72
                            rw [if_neg (show ¬ (false = true) by decide)] at H
                            by_cases c74 : x7_2 < (l0_2.length : Int)
                            ·rw [if_pos c74] at H
                             have c74b0 : decide (x7_2 < (l0_2.length : Int)) = true := decide_eq_true c74
                             clear c74
                             have H' := Aside0.mk H
                             clear H
                             have p928 : 0 ≤ (x9_5 : Int) := of_decide_eq_true (by first | (with_reducible assumption) | assumption)
                             have q928 : x9_5 < (l2.length : Int) := of_decide_eq_true (by first | (with_reducible assumption) | assumption)
                             obtain ⟨ad928, e928, hx928_0⟩ := Kd.at_int HR2.out x9_5 p928 q928
                             cases e928
                             replace hx928_0 := (HB.out.cell (World.block_lt_of_cell? w _ hx928_0)).trans hx928_0
                             replace p928 := eq_true p928
                             replace q928 := eq_true q928
                             have p929 : 0 ≤ (x9_5 : Int) := of_decide_eq_true (by first | (with_reducible assumption) | assumption)
                             have q929 : x9_5 < (l2.length : Int) := of_decide_eq_true (by first | (with_reducible assumption) | assumption)
                             obtain ⟨ad929, e929, hx929_0⟩ := Kd.at_int HR2.out x9_5 p929 q929
                             obtain rfl : ad928 = ad929 := (by injection e929)
                             replace hx929_0 := (HB.out.cell (World.block_lt_of_cell? w _ hx929_0)).trans hx929_0
                             replace p929 := eq_true p929
                             replace q929 := eq_true q929
                             have hcz75_0 : wc.cell? ⟨gb916, 0, none⟩ = some (.int .i64 a0_0) := (blk_cell BK916.out 0).trans rfl
                             have hcz75_1 : wc.cell? ⟨gb916, 1, none⟩ = some (.int .i64 a0_1) := (blk_cell BK916.out 1).trans rfl
                             have hcz75_2 : wc.cell? ⟨gb916, 2, none⟩ = some (.slice A0_2 l0_2.length c0_2) := (blk_cell BK916.out 2).trans rfl
                             have hcz75_3 : wc.cell? ⟨gb916, 3, none⟩ = some (.slice A0_3 l0_3.length c0_3) := (blk_cell BK916.out 3).trans rfl
                             have hfz75_0 := blk_frozen BK916.out 0
                             have hfz75_1 := blk_frozen BK916.out 1
                             have hfz75_2 := blk_frozen BK916.out 2
                             have hfz75_3 := blk_frozen BK916.out 3
                             have p930 : 0 ≤ (x9_5 : Int) := of_decide_eq_true (by first | (with_reducible assumption) | assumption)
                             have q930 : x9_5 < (l0_2.length : Int) := of_decide_eq_true (by first | (with_reducible assumption) | assumption)
                             obtain ⟨ad930, e930, hx930_0⟩ := Kd.at_int HR0_2.out x9_5 p930 q930
                             cases e930
                             replace hx930_0 := (HB.out.cell (World.block_lt_of_cell? w _ hx930_0)).trans hx930_0
                             replace p930 := eq_true p930
                             replace q930 := eq_true q930
                             have p931 : 0 ≤ (x7_2 : Int) := of_decide_eq_true (by first | (with_reducible assumption) | assumption)
                             have q931 : x7_2 < (l2.length : Int) := of_decide_eq_true (by first | (with_reducible assumption) | assumption)
                             obtain ⟨ad931, e931, hx931_0⟩ := Kd.at_int HR2.out x7_2 p931 q931
                             obtain rfl : ad928 = ad931 := (by injection e931)
                             replace hx931_0 := (HB.out.cell (World.block_lt_of_cell? w _ hx931_0)).trans hx931_0
                             replace p931 := eq_true p931
                             replace q931 := eq_true q931
                             have p932 : 0 ≤ (x9_5 : Int) := of_decide_eq_true (by first | (with_reducible assumption) | assumption)
                             have q932 : x9_5 < (l2.length : Int) := of_decide_eq_true (by first | (with_reducible assumption) | assumption)
                             obtain ⟨ad932, e932, hx932_0⟩ := Kd.at_int HR2.out x9_5 p932 q932
                             obtain rfl : ad928 = ad932 := (by injection e932)
                             replace hx932_0 := (HB.out.cell (World.block_lt_of_cell? w _ hx932_0)).trans hx932_0
                             replace p932 := eq_true p932
                             replace q932 := eq_true q932
                             have p933 : 0 ≤ (x7_2 : Int) := of_decide_eq_true (by first | (with_reducible assumption) | assumption)
                             have q933 : x7_2 < (l2.length : Int) := of_decide_eq_true (by first | (with_reducible assumption) | assumption)
                             obtain ⟨ad933, e933, hx933_0⟩ := Kd.at_int HR2.out x7_2 p933 q933
                             obtain rfl : ad928 = ad933 := (by injection e933)
                             replace hx933_0 := (HB.out.cell (World.block_lt_of_cell? w _ hx933_0)).trans hx933_0
                             replace p933 := eq_true p933
                             replace q933 := eq_true q933
                             have p934 : 0 ≤ (x7_2 : Int) := of_decide_eq_true (by first | (with_reducible assumption) | assumption)
                             have q934 : x7_2 < (l0_2.length : Int) := of_decide_eq_true (by first | (with_reducible assumption) | assumption)
                             obtain ⟨ad934, e934, hx934_0⟩ := Kd.at_int HR0_2.out x7_2 p934 q934
                             obtain rfl : ad930 = ad934 := (by injection e934)
                             replace hx934_0 := (HB.out.cell (World.block_lt_of_cell? w _ hx934_0)).trans hx934_0
                             replace p934 := eq_true p934
                             replace q934 := eq_true q934
                             go_wp2
                             repeat (go_quiet (fail); try go_wp2)
                             go_roundg kj54
                             case measure => have := HJ3.out; have := HK2.out; have := HJ37.out; have := HJ45.out; have := HK5.out; have := HJ49.out; have := HJ54.out; omega
                             case rel => exact ⟨(((rd l2 x9_5) == (wrap64 ((rd l2 x7_2) - (rd l0_2 x7_2))))), (wrap64 (x9_5 + 1)), (by first | rfl | (simp; done) | (simp [*]; done)), (by first | rfl | (simp; done) | (simp [*]; done)), H', ⟨by have := HJ3.out; have := HK2.out; have := HJ37.out; have := HJ45.out; have := HK5.out; have := HJ49.out; have := HJ54.out; omega⟩, ⟨by (with_reducible repeat (first | refine blk_drewN ?_ _ | refine blk_drew ?_ | refine blk_alloc ?_ _)); exact BK916.out⟩, ⟨by repeat (first | (with_reducible first | exact HB.out | apply below_alloc | apply pw_below_drewN | apply below_drew1 | refine below_set ?_ GE916.out) | exact HB.out)⟩⟩
                            ·rw [if_neg c74] at H
                             exact absurd H (by simp)
                         ·rw [if_neg c69] at H
                          exact absurd H (by simp)
                        ·rw [if_neg c68] at H
                         exact absurd H (by simp)
                       ·rw [if_neg c67] at H
                        exact absurd H (by simp)
                     ·rw [if_neg c65] at H
                      exact absurd H (by simp)
                    ·rw [if_neg c64] at H
                     exact absurd H (by simp)
                ·replace c54 := Bool.eq_false_iff.mpr c54
                 subst c54
                 rw [if_neg (show ¬ (false = true) by decide)] at H
                 by_cases c76 : x8_5 = true
                 ·subst c76
                  rw [if_pos rfl] at H
                  have H' := Aside0.mk H
                  clear H
                  go_wp2
                  repeat (go_quiet (fail); try go_wp2)
                  go_roundg kj49
                  case measure => have := HJ3.out; have := HK2.out; have := HJ37.out; have := HJ45.out; have := HK5.out; have := HJ49.out; omega
                  case rel => exact ⟨(wrap64 (x7_2 + 1)), (by first | rfl | (simp; done) | (simp [*]; done)), H', ⟨by have := HJ3.out; have := HK2.out; have := HJ37.out; have := HJ45.out; have := HK5.out; have := HJ49.out; omega⟩, ⟨by (with_reducible repeat (first | refine blk_drewN ?_ _ | refine blk_drew ?_ | refine blk_alloc ?_ _)); exact BK916.out⟩, ⟨by repeat (first | (with_reducible first | exact HB.out | apply below_alloc | apply pw_below_drewN | apply below_drew1 | refine below_set ?_ GE916.out) | exact HB.out)⟩⟩
                 ·replace c76 := Bool.eq_false_iff.mpr c76
                  subst c76
                  rw [if_neg (show ¬ (false = true) by decide)] at H
                  obtain rfl := Option.some.inj H
                  go_wp2
                  repeat (go_quiet (fail); try go_wp2)
                  go_ret
                  exact ⟨by first | rfl | (simp [errW_none, errW_some] <;> rfl) | (simp [*, errW_none, errW_some] <;> rfl), by repeat (first | (with_reducible first | exact HB.out | apply below_alloc | apply pw_below_drewN | apply below_drew1 | refine below_set ?_ GE916.out) | exact HB.out)⟩
      ·rw [if_neg c37] at H
       have c37b0 : decide (x7_2 < (l2.length : Int)) = false := decide_eq_false c37
       clear c37
       obtain rfl := Option.some.inj H
       go_wp2
       repeat (go_quiet (fail); try go_wp2)
       go_ret
       exact ⟨by first | rfl | (simp [errW_none, errW_some] <;> rfl) | (simp [*, errW_none, errW_some] <;> rfl), by repeat (first | (with_reducible first | exact HB.out | apply below_alloc | apply pw_below_drewN | apply below_drew1 | refine below_set ?_ GE916.out) | exact HB.out)⟩

end Go.Proofs.Ytlmohamgfindmac.PA
