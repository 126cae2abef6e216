/- What Go's functions that the laws reach come to: laid by a program of this session over the print's words. -/
import Derived.Test.YtlmohamgfindmacPAx0
import Derived.Test.YtlmohamgfindmacPAx34
import Derived.Test.YtlmohamgfindmacPAx35
namespace Go.Proofs.Ytlmohamgfindmac.PA
open Go.RowKit Go.Proofs.YtlmohamgfindmacW.PrintWords Go.Proofs.YtlmohamgfindmacW.PrintLast Go.Proofs.YtlmohamgfindmacW.PrintMore
attribute [local go_sem] max2_int min2_int max_two min_two max_three min_three max_four min_four   -- for this text's walks alone
set_option linter.unusedVariables false
set_option linter.unusedSimpArgs false

/-! ### impl_Proves: function 61 -/
mutual
def impl_Proves.j0 : Nat → Int → List Int → Bool → Int → Int → List Int → List (S192) → Option (Bool)
  | 0, _, _, _, _, _, _, _ => none
  | k + 1, x1, x2, x44, x956000, x956001, x956002, x956003 => if x44 = true then (some false) else (impl_Proves.l0 k x1 x2 x2 (x2.length : Int) 0 x956000 x956001 x956002 x956003)
def impl_Proves.l0 : Nat → Int → List Int → List Int → Int → Int → Int → Int → List Int → List (S192) → Option (Bool)
  | 0, _, _, _, _, _, _, _, _, _ => none
  | k + 1, x1, x2, x45, x46, x47, x956000, x956001, x956002, x956003 => if x47 < x46 then (if 0 ≤ x47 then (if x47 < (x45.length : Int) then (if (rd x45 x47) < (-1) then (impl_Proves.j2 k x1 x2 x47 (rd x45 x47) x45 x46 x47 true x956000 x956001 x956002 x956003) else (if x47 < (x956002.length : Int) then (if (rd x956002 x47) = 0 then (impl_Proves.j2 k x1 x2 x47 (rd x45 x47) x45 x46 x47 ((rd x45 x47) != (-1)) x956000 x956001 x956002 x956003) else (impl_Proves.j2 k x1 x2 x47 (rd x45 x47) x45 x46 x47 false x956000 x956001 x956002 x956003)) else (none))) else (none)) else (none)) else (some true)
def impl_Proves.j2 : Nat → Int → List Int → Int → Int → List Int → Int → Int → Bool → Int → Int → List Int → List (S192) → Option (Bool)
  | 0, _, _, _, _, _, _, _, _, _, _, _, _ => none
  | k + 1, x1, x2, x7, x8, x45, x46, x47, x65, x956000, x956001, x956002, x956003 => if x65 = true then (some false) else (if x8 < 0 then (impl_Proves.l0 k x1 x2 x45 x46 (wrap64 (x47 + 1)) x956000 x956001 x956002 x956003) else ((impl_Sea_next.f k x956000 x956001 x956002 x956003 x7).bind fun t962 => (impl_Proves.l1 k x1 x2 x7 x8 (x7 == x1) x45 x46 x47 t962 (t962.length : Int) 0 x956000 x956001 x956002 x956003)))
def impl_Proves.l1 : Nat → Int → List Int → Int → Int → Bool → List Int → Int → Int → List Int → Int → Int → Int → Int → List Int → List (S192) → Option (Bool)
  | 0, _, _, _, _, _, _, _, _, _, _, _, _, _, _, _ => none
  | k + 1, x1, x2, x7, x8, x9, x45, x46, x47, x73, x74, x75, x956000, x956001, x956002, x956003 => if x75 < x74 then (if 0 ≤ x75 then (if x75 < (x73.length : Int) then (if 0 ≤ (rd x73 x75) then (if (rd x73 x75) < (x956002.length : Int) then (if (rd x956002 (rd x73 x75)) > 0 then (if (rd x73 x75) < (x2.length : Int) then (if (rd x2 (rd x73 x75)) = (-1) then (impl_Proves.j4 k x1 x2 x7 x8 x9 (rd x73 x75) x45 x46 x47 x73 x74 x75 true x956000 x956001 x956002 x956003) else (impl_Proves.j4 k x1 x2 x7 x8 x9 (rd x73 x75) x45 x46 x47 x73 x74 x75 (decide ((wrap64 ((rd x2 (rd x73 x75)) - (rd x956002 (rd x73 x75)))) > x8)) x956000 x956001 x956002 x956003)) else (none)) else (impl_Proves.j4 k x1 x2 x7 x8 x9 (rd x73 x75) x45 x46 x47 x73 x74 x75 false x956000 x956001 x956002 x956003)) else (none)) else (none)) else (none)) else (none)) else (if x9 = true then (impl_Proves.l0 k x1 x2 x45 x46 (wrap64 (x47 + 1)) x956000 x956001 x956002 x956003) else (some false))
def impl_Proves.j4 : Nat → Int → List Int → Int → Int → Bool → Int → List Int → Int → Int → List Int → Int → Int → Bool → Int → Int → List Int → List (S192) → Option (Bool)
  | 0, _, _, _, _, _, _, _, _, _, _, _, _, _, _, _, _, _ => none
  | k + 1, x1, x2, x7, x8, x9, x11, x45, x46, x47, x73, x74, x75, x102, x956000, x956001, x956002, x956003 => if x102 = true then (some false) else (if x9 = true then (impl_Proves.l1 k x1 x2 x7 x8 true x45 x46 x47 x73 x74 (wrap64 (x75 + 1)) x956000 x956001 x956002 x956003) else (if 0 ≤ x11 then (if x11 < (x2.length : Int) then (if (rd x2 x11) ≥ 0 then (if 0 ≤ x7 then (if x7 < (x956002.length : Int) then (impl_Proves.l1 k x1 x2 x7 x8 ((rd x2 x11) == (wrap64 (x8 - (rd x956002 x7)))) x45 x46 x47 x73 x74 (wrap64 (x75 + 1)) x956000 x956001 x956002 x956003) else (none)) else (none)) else (impl_Proves.l1 k x1 x2 x7 x8 false x45 x46 x47 x73 x74 (wrap64 (x75 + 1)) x956000 x956001 x956002 x956003)) else (none)) else (none)))
end
def impl_Proves.f (k : Nat) (a0_0 : Int) (a0_1 : Int) (l0_2 : List Int) (l0_3 : List (S192)) (a1 : Int) (l2 : List Int) : Option (Bool) := (impl_SeaOk.f k a0_0 a0_1 l0_2 l0_3).bind fun t956 => (if t956 = true then ((impl_Sea_place.f a0_0 a0_1 l0_2 l0_3 a1).bind fun t957 => (if t957 = true then (if 0 ≤ a1 then (if a1 < (l0_2.length : Int) then (if (rd l0_2 a1) = 0 then (impl_Proves.j0 k a1 l2 true a0_0 a0_1 l0_2 l0_3) else (if (l2.length : Int) = (l0_2.length : Int) then (if a1 < (l2.length : Int) then (impl_Proves.j0 k a1 l2 ((rd l2 a1) != 0) a0_0 a0_1 l0_2 l0_3) else (none)) else (impl_Proves.j0 k a1 l2 true a0_0 a0_1 l0_2 l0_3))) else (none)) else (none)) else (impl_Proves.j0 k a1 l2 true a0_0 a0_1 l0_2 l0_3))) else (impl_Proves.j0 k a1 l2 true a0_0 a0_1 l0_2 l0_3))
theorem impl_Proves.mono_l : ∀ k, (∀ y0 y1 y2 y3 y4 y5 y6, LeO (impl_Proves.j0 k y0 y1 y2 y3 y4 y5 y6) (impl_Proves.j0 (k + 1) y0 y1 y2 y3 y4 y5 y6)) ∧ (∀ y0 y1 y2 y3 y4 y5 y6 y7 y8, LeO (impl_Proves.l0 k y0 y1 y2 y3 y4 y5 y6 y7 y8) (impl_Proves.l0 (k + 1) y0 y1 y2 y3 y4 y5 y6 y7 y8)) ∧ (∀ y0 y1 y2 y3 y4 y5 y6 y7 y8 y9 y10 y11, LeO (impl_Proves.j2 k y0 y1 y2 y3 y4 y5 y6 y7 y8 y9 y10 y11) (impl_Proves.j2 (k + 1) y0 y1 y2 y3 y4 y5 y6 y7 y8 y9 y10 y11)) ∧ (∀ y0 y1 y2 y3 y4 y5 y6 y7 y8 y9 y10 y11 y12 y13 y14, LeO (impl_Proves.l1 k y0 y1 y2 y3 y4 y5 y6 y7 y8 y9 y10 y11 y12 y13 y14) (impl_Proves.l1 (k + 1) y0 y1 y2 y3 y4 y5 y6 y7 y8 y9 y10 y11 y12 y13 y14)) ∧ (∀ y0 y1 y2 y3 y4 y5 y6 y7 y8 y9 y10 y11 y12 y13 y14 y15 y16, LeO (impl_Proves.j4 k y0 y1 y2 y3 y4 y5 y6 y7 y8 y9 y10 y11 y12 y13 y14 y15 y16) (impl_Proves.j4 (k + 1) y0 y1 y2 y3 y4 y5 y6 y7 y8 y9 y10 y11 y12 y13 y14 y15 y16))
  | 0 => ⟨fun _ _ _ _ _ _ _ r h => by simp [impl_Proves.j0] at h, fun _ _ _ _ _ _ _ _ _ r h => by simp [impl_Proves.l0] at h, fun _ _ _ _ _ _ _ _ _ _ _ _ r h => by simp [impl_Proves.j2] at h, fun _ _ _ _ _ _ _ _ _ _ _ _ _ _ _ r h => by simp [impl_Proves.l1] at h, fun _ _ _ _ _ _ _ _ _ _ _ _ _ _ _ _ _ r h => by simp [impl_Proves.j4] at h⟩
  | k + 1 => by
    obtain ⟨ih0, ih1, ih2, ih3, ih4⟩ := impl_Proves.mono_l k
    refine ⟨?_, ?_, ?_, ?_, ?_⟩
    · intro y0 y1 y2 y3 y4 y5 y6
      unfold impl_Proves.j0
      repeat' first
      | (with_reducible exact ih0 _ _ _ _ _ _ _)
      | (with_reducible exact ih1 _ _ _ _ _ _ _ _ _)
      | (with_reducible exact ih2 _ _ _ _ _ _ _ _ _ _ _ _)
      | (with_reducible exact ih3 _ _ _ _ _ _ _ _ _ _ _ _ _ _ _)
      | (with_reducible exact ih4 _ _ _ _ _ _ _ _ _ _ _ _ _ _ _ _ _)
      | (with_reducible exact impl_SeaOk.mono _ _ _ _ _)
      | (with_reducible exact impl_Sea_next.mono _ _ _ _ _ _)
      | (with_reducible exact LeO.refl _)
      | (with_reducible exact LeO.none _)
      | (with_reducible refine LeO.ite ?_ ?_)
      | (with_reducible refine LeO.bind ?_ (fun _ => ?_))
      | exact ih0 _ _ _ _ _ _ _
      | exact ih1 _ _ _ _ _ _ _ _ _
      | exact ih2 _ _ _ _ _ _ _ _ _ _ _ _
      | exact ih3 _ _ _ _ _ _ _ _ _ _ _ _ _ _ _
      | exact ih4 _ _ _ _ _ _ _ _ _ _ _ _ _ _ _ _ _
      | exact impl_SeaOk.mono _ _ _ _ _
      | exact impl_Sea_next.mono _ _ _ _ _ _
      | exact LeO.none _
      | refine LeO.ite ?_ ?_
      | refine LeO.bind ?_ (fun _ => ?_)
    · intro y0 y1 y2 y3 y4 y5 y6 y7 y8
      unfold impl_Proves.l0
      repeat' first
      | (with_reducible exact ih0 _ _ _ _ _ _ _)
      | (with_reducible exact ih1 _ _ _ _ _ _ _ _ _)
      | (with_reducible exact ih2 _ _ _ _ _ _ _ _ _ _ _ _)
      | (with_reducible exact ih3 _ _ _ _ _ _ _ _ _ _ _ _ _ _ _)
      | (with_reducible exact ih4 _ _ _ _ _ _ _ _ _ _ _ _ _ _ _ _ _)
      | (with_reducible exact impl_SeaOk.mono _ _ _ _ _)
      | (with_reducible exact impl_Sea_next.mono _ _ _ _ _ _)
      | (with_reducible exact LeO.refl _)
      | (with_reducible exact LeO.none _)
      | (with_reducible refine LeO.ite ?_ ?_)
      | (with_reducible refine LeO.bind ?_ (fun _ => ?_))
      | exact ih0 _ _ _ _ _ _ _
      | exact ih1 _ _ _ _ _ _ _ _ _
      | exact ih2 _ _ _ _ _ _ _ _ _ _ _ _
      | exact ih3 _ _ _ _ _ _ _ _ _ _ _ _ _ _ _
      | exact ih4 _ _ _ _ _ _ _ _ _ _ _ _ _ _ _ _ _
      | exact impl_SeaOk.mono _ _ _ _ _
      | exact impl_Sea_next.mono _ _ _ _ _ _
      | exact LeO.none _
      | refine LeO.ite ?_ ?_
      | refine LeO.bind ?_ (fun _ => ?_)
    · intro y0 y1 y2 y3 y4 y5 y6 y7 y8 y9 y10 y11
      unfold impl_Proves.j2
      repeat' first
      | (with_reducible exact ih0 _ _ _ _ _ _ _)
      | (with_reducible exact ih1 _ _ _ _ _ _ _ _ _)
      | (with_reducible exact ih2 _ _ _ _ _ _ _ _ _ _ _ _)
      | (with_reducible exact ih3 _ _ _ _ _ _ _ _ _ _ _ _ _ _ _)
      | (with_reducible exact ih4 _ _ _ _ _ _ _ _ _ _ _ _ _ _ _ _ _)
      | (with_reducible exact impl_SeaOk.mono _ _ _ _ _)
      | (with_reducible exact impl_Sea_next.mono _ _ _ _ _ _)
      | (with_reducible exact LeO.refl _)
      | (with_reducible exact LeO.none _)
      | (with_reducible refine LeO.ite ?_ ?_)
      | (with_reducible refine LeO.bind ?_ (fun _ => ?_))
      | exact ih0 _ _ _ _ _ _ _
      | exact ih1 _ _ _ _ _ _ _ _ _
      | exact ih2 _ _ _ _ _ _ _ _ _ _ _ _
      | exact ih3 _ _ _ _ _ _ _ _ _ _ _ _ _ _ _
      | exact ih4 _ _ _ _ _ _ _ _ _ _ _ _ _ _ _ _ _
      | exact impl_SeaOk.mono _ _ _ _ _
      | exact impl_Sea_next.mono _ _ _ _ _ _
      | exact LeO.none _
      | refine LeO.ite ?_ ?_
      | refine LeO.bind ?_ (fun _ => ?_)
    · intro y0 y1 y2 y3 y4 y5 y6 y7 y8 y9 y10 y11 y12 y13 y14
      unfold impl_Proves.l1
      repeat' first
      | (with_reducible exact ih0 _ _ _ _ _ _ _)
      | (with_reducible exact ih1 _ _ _ _ _ _ _ _ _)
      | (with_reducible exact ih2 _ _ _ _ _ _ _ _ _ _ _ _)
      | (with_reducible exact ih3 _ _ _ _ _ _ _ _ _ _ _ _ _ _ _)
      | (with_reducible exact ih4 _ _ _ _ _ _ _ _ _ _ _ _ _ _ _ _ _)
      | (with_reducible exact impl_SeaOk.mono _ _ _ _ _)
      | (with_reducible exact impl_Sea_next.mono _ _ _ _ _ _)
      | (with_reducible exact LeO.refl _)
      | (with_reducible exact LeO.none _)
      | (with_reducible refine LeO.ite ?_ ?_)
      | (with_reducible refine LeO.bind ?_ (fun _ => ?_))
      | exact ih0 _ _ _ _ _ _ _
      | exact ih1 _ _ _ _ _ _ _ _ _
      | exact ih2 _ _ _ _ _ _ _ _ _ _ _ _
      | exact ih3 _ _ _ _ _ _ _ _ _ _ _ _ _ _ _
      | exact ih4 _ _ _ _ _ _ _ _ _ _ _ _ _ _ _ _ _
      | exact impl_SeaOk.mono _ _ _ _ _
      | exact impl_Sea_next.mono _ _ _ _ _ _
      | exact LeO.none _
      | refine LeO.ite ?_ ?_
      | refine LeO.bind ?_ (fun _ => ?_)
    · intro y0 y1 y2 y3 y4 y5 y6 y7 y8 y9 y10 y11 y12 y13 y14 y15 y16
      unfold impl_Proves.j4
      repeat' first
      | (with_reducible exact ih0 _ _ _ _ _ _ _)
      | (with_reducible exact ih1 _ _ _ _ _ _ _ _ _)
      | (with_reducible exact ih2 _ _ _ _ _ _ _ _ _ _ _ _)
      | (with_reducible exact ih3 _ _ _ _ _ _ _ _ _ _ _ _ _ _ _)
      | (with_reducible exact ih4 _ _ _ _ _ _ _ _ _ _ _ _ _ _ _ _ _)
      | (with_reducible exact impl_SeaOk.mono _ _ _ _ _)
      | (with_reducible exact impl_Sea_next.mono _ _ _ _ _ _)
      | (with_reducible exact LeO.refl _)
      | (with_reducible exact LeO.none _)
      | (with_reducible refine LeO.ite ?_ ?_)
      | (with_reducible refine LeO.bind ?_ (fun _ => ?_))
      | exact ih0 _ _ _ _ _ _ _
      | exact ih1 _ _ _ _ _ _ _ _ _
      | exact ih2 _ _ _ _ _ _ _ _ _ _ _ _
      | exact ih3 _ _ _ _ _ _ _ _ _ _ _ _ _ _ _
      | exact ih4 _ _ _ _ _ _ _ _ _ _ _ _ _ _ _ _ _
      | exact impl_SeaOk.mono _ _ _ _ _
      | exact impl_Sea_next.mono _ _ _ _ _ _
      | exact LeO.none _
      | refine LeO.ite ?_ ?_
      | refine LeO.bind ?_ (fun _ => ?_)
theorem impl_Proves.mono : ∀ a0 a1 a2 a3 a4 a5 k, LeO (impl_Proves.f k a0 a1 a2 a3 a4 a5) (impl_Proves.f (k + 1) a0 a1 a2 a3 a4 a5) := by
  intro a0 a1 a2 a3 a4 a5 k
  obtain ⟨ih0, ih1, ih2, ih3, ih4⟩ := impl_Proves.mono_l k
  unfold impl_Proves.f
  repeat' first
      | (with_reducible exact ih0 _ _ _ _ _ _ _)
      | (with_reducible exact ih1 _ _ _ _ _ _ _ _ _)
      | (with_reducible exact ih2 _ _ _ _ _ _ _ _ _ _ _ _)
      | (with_reducible exact ih3 _ _ _ _ _ _ _ _ _ _ _ _ _ _ _)
      | (with_reducible exact ih4 _ _ _ _ _ _ _ _ _ _ _ _ _ _ _ _ _)
      | (with_reducible exact impl_SeaOk.mono _ _ _ _ _)
      | (with_reducible exact impl_Sea_next.mono _ _ _ _ _ _)
      | (with_reducible exact LeO.refl _)
      | (with_reducible exact LeO.none _)
      | (with_reducible refine LeO.ite ?_ ?_)
      | (with_reducible refine LeO.bind ?_ (fun _ => ?_))
      | exact ih0 _ _ _ _ _ _ _
      | exact ih1 _ _ _ _ _ _ _ _ _
      | exact ih2 _ _ _ _ _ _ _ _ _ _ _ _
      | exact ih3 _ _ _ _ _ _ _ _ _ _ _ _ _ _ _
      | exact ih4 _ _ _ _ _ _ _ _ _ _ _ _ _ _ _ _ _
      | exact impl_SeaOk.mono _ _ _ _ _
      | exact impl_Sea_next.mono _ _ _ _ _ _
      | exact LeO.none _
      | refine LeO.ite ?_ ?_
      | refine LeO.bind ?_ (fun _ => ?_)
set_option maxHeartbeats 8000000 in
set_option maxRecDepth 100000 in
theorem impl_Proves.calls (k : Nat) (a0_0 : Int) (a0_1 : Int) (A0_2 : Option Addr) (c0_2 : Nat) (l0_2 : List Int) (A0_3 : Option Addr) (c0_3 : Nat) (l0_3 : List (S192)) (a1 : Int) (A2 : Option Addr) (c2 : Nat) (l2 : List Int) (r : Bool) (w : World) (hr0_2 : Kd.C (Kd.int .i64) w A0_2 l0_2.length l0_2) (hc0_2 : l0_2.length ≤ c0_2) (hr0_3 : Kd.C k192 w A0_3 l0_3.length l0_3) (hc0_3 : l0_3.length ≤ c0_3) (hr2 : Kd.C (Kd.int .i64) w A2 l2.length l2) (hc2 : l2.length ≤ c2) (h : impl_Proves.f k a0_0 a0_1 l0_2 l0_3 a1 l2 = some r) :
 Calls Try.prog 61 #[.agg #[.int .i64 a0_0, .int .i64 a0_1, .slice A0_2 l0_2.length c0_2, .slice A0_3 l0_3.length c0_3], .int .i64 a1, .slice A2 l2.length c2] w fun e w' => e = .returned (.bool r) ∧ Below w.heap.size w w' := by
 have hu98 := Try.underlying98
 have HR0_2 := Aside0.mk hr0_2
 have HC0_2 := Aside0.mk hc0_2
 clear hr0_2 hc0_2
 have HR0_3 := Aside0.mk hr0_3
 have HC0_3 := Aside0.mk hc0_3
 clear hr0_3 hc0_3
 have HR2 := Aside0.mk hr2
 have HC2 := Aside0.mk hc2
 clear hr2 hc2
 have HB := Aside0.mk (Below.refl w.heap.size w)
 have H : ((impl_SeaOk.f k a0_0 a0_1 l0_2 l0_3).bind fun t956 => (if t956 = true then ((impl_Sea_place.f a0_0 a0_1 l0_2 l0_3 a1).bind fun t957 => (if t957 = true then (if 0 ≤ a1 then (if a1 < (l0_2.length : Int) then (if (rd l0_2 a1) = 0 then (impl_Proves.j0 k a1 l2 true a0_0 a0_1 l0_2 l0_3) else (if (l2.length : Int) = (l0_2.length : Int) then (if a1 < (l2.length : Int) then (impl_Proves.j0 k a1 l2 ((rd l2 a1) != 0) a0_0 a0_1 l0_2 l0_3) else (none)) else (impl_Proves.j0 k a1 l2 true a0_0 a0_1 l0_2 l0_3))) else (none)) else (none)) else (impl_Proves.j0 k a1 l2 true a0_0 a0_1 l0_2 l0_3))) else (impl_Proves.j0 k a1 l2 true a0_0 a0_1 l0_2 l0_3))) = some r := h
 clear h
 have HC4 := Aside0.mk H
 clear H
 go_enter Try.func61, Try.ntmps61
 go_upto_region 1 with (first | ((with_reducible refine gate_dst (N := 3) rfl ?_); (try (refine gate_guard (by rfl) ?_; dsimp only)); refine box_event ?hg (N := 3) ?hd (cs := #[.int .i64 a0_0, .int .i64 a0_1, .slice A0_2 l0_2.length c0_2, .slice A0_3 l0_3.length c0_3]) (t := 98) ?hr ?_; (case hd => rfl); (case hg => rfl); (case hr => first | (go_simp; done) | (go_simp; rfl)); intro gb955 hg w5 hbox hb; have n0_ := Aside0.mk (below_step (by repeat (first | (with_reducible first | exact HB.out | apply below_alloc | apply pw_below_drewN | apply below_drew1) | exact HB.out)) hb); have n1_ := Aside0.mk (hbox); have n2_ := Aside0.mk ((by rw [hg]; exact (below_size (by repeat (first | (with_reducible first | exact HB.out | apply below_alloc | apply pw_below_drewN | apply below_drew1) | exact HB.out))) : w.heap.size ≤ gb955)); have n3_ := Aside0.mk ((by rw [hg]; exact (below_size (by repeat (first | (with_reducible first | exact HB.out | apply below_alloc | apply pw_below_drewN | apply below_drew1) | exact HB.out))) : w.heap.size ≤ gb955)); clear HB; have HB := n0_; have BK955 := n1_; have GW955 := n2_; have GE955 := n3_; clear n0_ n1_ n2_ n3_; clear hb hbox hg))
 repeat (go_quiet (first | ((with_reducible refine gate_dst (N := 3) rfl ?_); (try (refine gate_guard (by rfl) ?_; dsimp only)); refine box_event ?hg (N := 3) ?hd (cs := #[.int .i64 a0_0, .int .i64 a0_1, .slice A0_2 l0_2.length c0_2, .slice A0_3 l0_3.length c0_3]) (t := 98) ?hr ?_; (case hd => rfl); (case hg => rfl); (case hr => first | (go_simp; done) | (go_simp; rfl)); intro gb955 hg w5 hbox hb; have n0_ := Aside0.mk (below_step (by repeat (first | (with_reducible first | exact HB.out | apply below_alloc | apply pw_below_drewN | apply below_drew1) | exact HB.out)) hb); have n1_ := Aside0.mk (hbox); have n2_ := Aside0.mk ((by rw [hg]; exact (below_size (by repeat (first | (with_reducible first | exact HB.out | apply below_alloc | apply pw_below_drewN | apply below_drew1) | exact HB.out))) : w.heap.size ≤ gb955)); have n3_ := Aside0.mk ((by rw [hg]; exact (below_size (by repeat (first | (with_reducible first | exact HB.out | apply below_alloc | apply pw_below_drewN | apply below_drew1) | exact HB.out))) : w.heap.size ≤ gb955)); clear HB; have HB := n0_; have BK955 := n1_; have GW955 := n2_; have GE955 := n3_; clear n0_ n1_ n2_ n3_; clear hb hbox hg)); go_upto_region 1 with (first | ((with_reducible refine gate_dst (N := 3) rfl ?_); (try (refine gate_guard (by rfl) ?_; dsimp only)); refine box_event ?hg (N := 3) ?hd (cs := #[.int .i64 a0_0, .int .i64 a0_1, .slice A0_2 l0_2.length c0_2, .slice A0_3 l0_3.length c0_3]) (t := 98) ?hr ?_; (case hd => rfl); (case hg => rfl); (case hr => first | (go_simp; done) | (go_simp; rfl)); intro gb955 hg w5 hbox hb; have n0_ := Aside0.mk (below_step (by repeat (first | (with_reducible first | exact HB.out | apply below_alloc | apply pw_below_drewN | apply below_drew1) | exact HB.out)) hb); have n1_ := Aside0.mk (hbox); have n2_ := Aside0.mk ((by rw [hg]; exact (below_size (by repeat (first | (with_reducible first | exact HB.out | apply below_alloc | apply pw_below_drewN | apply below_drew1) | exact HB.out))) : w.heap.size ≤ gb955)); have n3_ := Aside0.mk ((by rw [hg]; exact (below_size (by repeat (first | (with_reducible first | exact HB.out | apply below_alloc | apply pw_below_drewN | apply below_drew1) | exact HB.out))) : w.heap.size ≤ gb955)); clear HB; have HB := n0_; have BK955 := n1_; have GW955 := n2_; have GE955 := n3_; clear n0_ n1_ n2_ n3_; clear hb hbox hg)))
 (try simp only [Act.put, List.setIfInBounds_toArray, List.set_cons_zero, List.set_cons_succ])
 go_cut [44] (fun v44 wc => ∃ (kq : Nat) (x44_3 : Bool), v44 = .bool x44_3 ∧ Aside0 (impl_Proves.j0 kq a1 l2 x44_3 a0_0 a0_1 l0_2 l0_3 = some r) ∧ Aside0 (kq ≤ k) ∧ Aside0 (wc.heap[gb955]? = some (.cells #[.int .i64 a0_0, .int .i64 a0_1, (.slice A0_2 l0_2.length c0_2), (.slice A0_3 l0_3.length c0_3)] 98 (0, 0))) ∧ Aside0 (Below w.heap.size w wc))
 case first =>
  have H := HC4.out
  clear HC4
  replace H := Option.bind_eq_some_iff.mp H
  obtain ⟨t956, A60, H⟩ := H
  (try dsimp only at H)
  have A6 := Aside0.mk A60
  clear A60
  by_cases c7 : t956 = true
  ·subst c7
   rw [if_pos rfl] at H
   replace H := Option.bind_eq_some_iff.mp H
   obtain ⟨t957, A80, H⟩ := H
   (try dsimp only at H)
   have A8 := Aside0.mk A80
   clear A80
   by_cases c9 : t957 = true
   ·subst c9
    rw [if_pos rfl] at H
    by_cases c10 : 0 ≤ a1
    ·rw [if_pos c10] at H
     have c10b0 : decide (0 ≤ a1) = true := decide_eq_true c10
     clear c10
     (first | rw [c10b0] | (simp only [i64_w, i32_w]; rw [c10b0]) | skip)
     by_cases c11 : a1 < (l0_2.length : Int)
     ·rw [if_pos c11] at H
      have c11b0 : decide (a1 < (l0_2.length : Int)) = true := decide_eq_true c11
      clear c11
      by_cases c12 : (rd l0_2 a1) = 0
      ·rw [if_pos c12] at H
       have c12b0 : ((rd l0_2 a1) == 0) = true := beq_iff_eq.mpr c12
       have c12b1 : ((rd l0_2 a1) != 0) = false := bne_eq_false_iff_eq.mpr c12
       clear c12
       have H' := Aside0.mk H
       clear H
       have hcz13_0 : w5.cell? ⟨gb955, 0, none⟩ = some (.int .i64 a0_0) := (blk_cell BK955.out 0).trans rfl
       have hcz13_1 : w5.cell? ⟨gb955, 1, none⟩ = some (.int .i64 a0_1) := (blk_cell BK955.out 1).trans rfl
       have hcz13_2 : w5.cell? ⟨gb955, 2, none⟩ = some (.slice A0_2 l0_2.length c0_2) := (blk_cell BK955.out 2).trans rfl
       have hcz13_3 : w5.cell? ⟨gb955, 3, none⟩ = some (.slice A0_3 l0_3.length c0_3) := (blk_cell BK955.out 3).trans rfl
       have hfz13_0 := blk_frozen BK955.out 0
       have hfz13_1 := blk_frozen BK955.out 1
       have hfz13_2 := blk_frozen BK955.out 2
       have hfz13_3 := blk_frozen BK955.out 3
       go_wp2_with (first | (go_at_call 126; (with_reducible refine (impl_SeaOk.calls k a0_0 a0_1 _ _ l0_2 _ _ l0_3 true _ ?side1 ?side2 ?side3 ?side4 A6.out).mono ?_); (case side1 => repeat (first | exact (Kd.C_below HR0_2.out HB.out) | (with_reducible refine Kd.C_alloc ?_ _) | (with_reducible refine Kd.C_drewN ?_ _) | (with_reducible refine Kd.C_drew ?_))); (case side2 => exact HC0_2.out); (case side3 => repeat (first | exact (Kd.C_below HR0_3.out HB.out) | (with_reducible refine Kd.C_alloc ?_ _) | (with_reducible refine Kd.C_drewN ?_ _) | (with_reducible refine Kd.C_drew ?_))); (case side4 => exact HC0_3.out); rintro e w14 ⟨rfl, hb⟩; have n0_ := Aside0.mk (blk_below (g := gb955) (o := .cells #[.int .i64 a0_0, .int .i64 a0_1, .slice A0_2 l0_2.length c0_2, .slice A0_3 l0_3.length c0_3] 98 (0, 0)) (by (with_reducible repeat (first | refine blk_drewN ?_ _ | refine blk_drew ?_ | refine blk_alloc ?_ _)); exact BK955.out) hb); have n1_ := Aside0.mk (below_step (by repeat (first | (with_reducible first | exact HB.out | apply below_alloc | apply pw_below_drewN | apply below_drew1 | refine below_set ?_ GE955.out) | exact HB.out)) hb); clear BK955; clear HB; have BK955 := n0_; have HB := n1_; clear n0_ n1_; (try clear hb); (try clear hb2); (try clear hk); (try clear hi); have hcz15_0 : w14.cell? ⟨gb955, 0, none⟩ = some (.int .i64 a0_0) := (blk_cell BK955.out 0).trans rfl; have hcz15_1 : w14.cell? ⟨gb955, 1, none⟩ = some (.int .i64 a0_1) := (blk_cell BK955.out 1).trans rfl; have hcz15_2 : w14.cell? ⟨gb955, 2, none⟩ = some (.slice A0_2 l0_2.length c0_2) := (blk_cell BK955.out 2).trans rfl; have hcz15_3 : w14.cell? ⟨gb955, 3, none⟩ = some (.slice A0_3 l0_3.length c0_3) := (blk_cell BK955.out 3).trans rfl; have hfz15_0 := blk_frozen BK955.out 0; have hfz15_1 := blk_frozen BK955.out 1; have hfz15_2 := blk_frozen BK955.out 2; have hfz15_3 := blk_frozen BK955.out 3) | (go_at_call 127; (with_reducible refine (impl_Sea_place.calls a0_0 a0_1 _ _ l0_2 _ _ l0_3 a1 true _ ?side1 ?side2 ?side3 ?side4 A8.out).mono ?_); (case side1 => repeat (first | exact (Kd.C_below HR0_2.out HB.out) | (with_reducible refine Kd.C_alloc ?_ _) | (with_reducible refine Kd.C_drewN ?_ _) | (with_reducible refine Kd.C_drew ?_))); (case side2 => exact HC0_2.out); (case side3 => repeat (first | exact (Kd.C_below HR0_3.out HB.out) | (with_reducible refine Kd.C_alloc ?_ _) | (with_reducible refine Kd.C_drewN ?_ _) | (with_reducible refine Kd.C_drew ?_))); (case side4 => exact HC0_3.out); rintro e w16 ⟨rfl, hb⟩; have n0_ := Aside0.mk (blk_below (g := gb955) (o := .cells #[.int .i64 a0_0, .int .i64 a0_1, .slice A0_2 l0_2.length c0_2, .slice A0_3 l0_3.length c0_3] 98 (0, 0)) (by (with_reducible repeat (first | refine blk_drewN ?_ _ | refine blk_drew ?_ | refine blk_alloc ?_ _)); exact BK955.out) hb); have n1_ := Aside0.mk (below_step (by repeat (first | (with_reducible first | exact HB.out | apply below_alloc | apply pw_below_drewN | apply below_drew1 | refine below_set ?_ GE955.out) | exact HB.out)) hb); clear BK955; clear HB; have BK955 := n0_; have HB := n1_; clear n0_ n1_; (try clear hb); (try clear hb2); (try clear hk); (try clear hi); have hcz17_0 : w16.cell? ⟨gb955, 0, none⟩ = some (.int .i64 a0_0) := (blk_cell BK955.out 0).trans rfl; have hcz17_1 : w16.cell? ⟨gb955, 1, none⟩ = some (.int .i64 a0_1) := (blk_cell BK955.out 1).trans rfl; have hcz17_2 : w16.cell? ⟨gb955, 2, none⟩ = some (.slice A0_2 l0_2.length c0_2) := (blk_cell BK955.out 2).trans rfl; have hcz17_3 : w16.cell? ⟨gb955, 3, none⟩ = some (.slice A0_3 l0_3.length c0_3) := (blk_cell BK955.out 3).trans rfl; have hfz17_0 := blk_frozen BK955.out 0; have hfz17_1 := blk_frozen BK955.out 1; have hfz17_2 := blk_frozen BK955.out 2; have hfz17_3 := blk_frozen BK955.out 3; have p958 : 0 ≤ (a1 : Int) := of_decide_eq_true (by first | (with_reducible assumption) | assumption); have q958 : a1 < (l0_2.length : Int) := of_decide_eq_true (by first | (with_reducible assumption) | assumption); obtain ⟨ad958, e958, hx958_0⟩ := Kd.at_int HR0_2.out a1 p958 q958; cases e958; replace hx958_0 := (HB.out.cell (World.block_lt_of_cell? w _ hx958_0)).trans hx958_0; replace p958 := eq_true p958; replace q958 := eq_true q958))
       repeat (go_quiet (first | (go_at_call 126; (with_reducible refine (impl_SeaOk.calls k a0_0 a0_1 _ _ l0_2 _ _ l0_3 true _ ?side1 ?side2 ?side3 ?side4 A6.out).mono ?_); (case side1 => repeat (first | exact (Kd.C_below HR0_2.out HB.out) | (with_reducible refine Kd.C_alloc ?_ _) | (with_reducible refine Kd.C_drewN ?_ _) | (with_reducible refine Kd.C_drew ?_))); (case side2 => exact HC0_2.out); (case side3 => repeat (first | exact (Kd.C_below HR0_3.out HB.out) | (with_reducible refine Kd.C_alloc ?_ _) | (with_reducible refine Kd.C_drewN ?_ _) | (with_reducible refine Kd.C_drew ?_))); (case side4 => exact HC0_3.out); rintro e w14 ⟨rfl, hb⟩; have n0_ := Aside0.mk (blk_below (g := gb955) (o := .cells #[.int .i64 a0_0, .int .i64 a0_1, .slice A0_2 l0_2.length c0_2, .slice A0_3 l0_3.length c0_3] 98 (0, 0)) (by (with_reducible repeat (first | refine blk_drewN ?_ _ | refine blk_drew ?_ | refine blk_alloc ?_ _)); exact BK955.out) hb); have n1_ := Aside0.mk (below_step (by repeat (first | (with_reducible first | exact HB.out | apply below_alloc | apply pw_below_drewN | apply below_drew1 | refine below_set ?_ GE955.out) | exact HB.out)) hb); clear BK955; clear HB; have BK955 := n0_; have HB := n1_; clear n0_ n1_; (try clear hb); (try clear hb2); (try clear hk); (try clear hi); have hcz15_0 : w14.cell? ⟨gb955, 0, none⟩ = some (.int .i64 a0_0) := (blk_cell BK955.out 0).trans rfl; have hcz15_1 : w14.cell? ⟨gb955, 1, none⟩ = some (.int .i64 a0_1) := (blk_cell BK955.out 1).trans rfl; have hcz15_2 : w14.cell? ⟨gb955, 2, none⟩ = some (.slice A0_2 l0_2.length c0_2) := (blk_cell BK955.out 2).trans rfl; have hcz15_3 : w14.cell? ⟨gb955, 3, none⟩ = some (.slice A0_3 l0_3.length c0_3) := (blk_cell BK955.out 3).trans rfl; have hfz15_0 := blk_frozen BK955.out 0; have hfz15_1 := blk_frozen BK955.out 1; have hfz15_2 := blk_frozen BK955.out 2; have hfz15_3 := blk_frozen BK955.out 3) | (go_at_call 127; (with_reducible refine (impl_Sea_place.calls a0_0 a0_1 _ _ l0_2 _ _ l0_3 a1 true _ ?side1 ?side2 ?side3 ?side4 A8.out).mono ?_); (case side1 => repeat (first | exact (Kd.C_below HR0_2.out HB.out) | (with_reducible refine Kd.C_alloc ?_ _) | (with_reducible refine Kd.C_drewN ?_ _) | (with_reducible refine Kd.C_drew ?_))); (case side2 => exact HC0_2.out); (case side3 => repeat (first | exact (Kd.C_below HR0_3.out HB.out) | (with_reducible refine Kd.C_alloc ?_ _) | (with_reducible refine Kd.C_drewN ?_ _) | (with_reducible refine Kd.C_drew ?_))); (case side4 => exact HC0_3.out); rintro e w16 ⟨rfl, hb⟩; have n0_ := Aside0.mk (blk_below (g := gb955) (o := .cells #[.int .i64 a0_0, .int .i64 a0_1, .slice A0_2 l0_2.length c0_2, .slice A0_3 l0_3.length c0_3] 98 (0, 0)) (by (with_reducible repeat (first | refine blk_drewN ?_ _ | refine blk_drew ?_ | refine blk_alloc ?_ _)); exact BK955.out) hb); have n1_ := Aside0.mk (below_step (by repeat (first | (with_reducible first | exact HB.out | apply below_alloc | apply pw_below_drewN | apply below_drew1 | refine below_set ?_ GE955.out) | exact HB.out)) hb); clear BK955; clear HB; have BK955 := n0_; have HB := n1_; clear n0_ n1_; (try clear hb); (try clear hb2); (try clear hk); (try clear hi); have hcz17_0 : w16.cell? ⟨gb955, 0, none⟩ = some (.int .i64 a0_0) := (blk_cell BK955.out 0).trans rfl; have hcz17_1 : w16.cell? ⟨gb955, 1, none⟩ = some (.int .i64 a0_1) := (blk_cell BK955.out 1).trans rfl; have hcz17_2 : w16.cell? ⟨gb955, 2, none⟩ = some (.slice A0_2 l0_2.length c0_2) := (blk_cell BK955.out 2).trans rfl; have hcz17_3 : w16.cell? ⟨gb955, 3, none⟩ = some (.slice A0_3 l0_3.length c0_3) := (blk_cell BK955.out 3).trans rfl; have hfz17_0 := blk_frozen BK955.out 0; have hfz17_1 := blk_frozen BK955.out 1; have hfz17_2 := blk_frozen BK955.out 2; have hfz17_3 := blk_frozen BK955.out 3; have p958 : 0 ≤ (a1 : Int) := of_decide_eq_true (by first | (with_reducible assumption) | assumption); have q958 : a1 < (l0_2.length : Int) := of_decide_eq_true (by first | (with_reducible assumption) | assumption); obtain ⟨ad958, e958, hx958_0⟩ := Kd.at_int HR0_2.out a1 p958 q958; cases e958; replace hx958_0 := (HB.out.cell (World.block_lt_of_cell? w _ hx958_0)).trans hx958_0; replace p958 := eq_true p958; replace q958 := eq_true q958)); try go_wp2_with (first | (go_at_call 126; (with_reducible refine (impl_SeaOk.calls k a0_0 a0_1 _ _ l0_2 _ _ l0_3 true _ ?side1 ?side2 ?side3 ?side4 A6.out).mono ?_); (case side1 => repeat (first | exact (Kd.C_below HR0_2.out HB.out) | (with_reducible refine Kd.C_alloc ?_ _) | (with_reducible refine Kd.C_drewN ?_ _) | (with_reducible refine Kd.C_drew ?_))); (case side2 => exact HC0_2.out); (case side3 => repeat (first | exact (Kd.C_below HR0_3.out HB.out) | (with_reducible refine Kd.C_alloc ?_ _) | (with_reducible refine Kd.C_drewN ?_ _) | (with_reducible refine Kd.C_drew ?_))); (case side4 => exact HC0_3.out); rintro e w14 ⟨rfl, hb⟩; have n0_ := Aside0.mk (blk_below (g := gb955) (o := .cells #[.int .i64 a0_0, .int .i64 a0_1, .slice A0_2 l0_2.length c0_2, .slice A0_3 l0_3.length c0_3] 98 (0, 0)) (by (with_reducible repeat (first | refine blk_drewN ?_ _ | refine blk_drew ?_ | refine blk_alloc ?_ _)); exact BK955.out) hb); have n1_ := Aside0.mk (below_step (by repeat (first | (with_reducible first | exact HB.out | apply below_alloc | apply pw_below_drewN | apply below_drew1 | refine below_set ?_ GE955.out) | exact HB.out)) hb); clear BK955; clear HB; have BK955 := n0_; have HB := n1_; clear n0_ n1_; (try clear hb); (try clear hb2); (try clear hk); (try clear hi); have hcz15_0 : w14.cell? ⟨gb955, 0, none⟩ = some (.int .i64 a0_0) := (blk_cell BK955.out 0).trans rfl; have hcz15_1 : w14.cell? ⟨gb955, 1, none⟩ = some (.int .i64 a0_1) := (blk_cell BK955.out 1).trans rfl; have hcz15_2 : w14.cell? ⟨gb955, 2, none⟩ = some (.slice A0_2 l0_2.length c0_2) := (blk_cell BK955.out 2).trans rfl; have hcz15_3 : w14.cell? ⟨gb955, 3, none⟩ = some (.slice A0_3 l0_3.length c0_3) := (blk_cell BK955.out 3).trans rfl; have hfz15_0 := blk_frozen BK955.out 0; have hfz15_1 := blk_frozen BK955.out 1; have hfz15_2 := blk_frozen BK955.out 2; have hfz15_3 := blk_frozen BK955.out 3) | (go_at_call 127; (with_reducible refine (impl_Sea_place.calls a0_0 a0_1 _ _ l0_2 _ _ l0_3 a1 true _ ?side1 ?side2 ?side3 ?side4 A8.out).mono ?_); (case side1 => repeat (first | exact (Kd.C_below HR0_2.out HB.out) | (with_reducible refine Kd.C_alloc ?_ _) | (with_reducible refine Kd.C_drewN ?_ _) | (with_reducible refine Kd.C_drew ?_))); (case side2 => exact HC0_2.out); (case side3 => repeat (first | exact (Kd.C_below HR0_3.out HB.out) | (with_reducible refine Kd.C_alloc ?_ _) | (with_reducible refine Kd.C_drewN ?_ _) | (with_reducible refine Kd.C_drew ?_))); (case side4 => exact HC0_3.out); rintro e w16 ⟨rfl, hb⟩; have n0_ := Aside0.mk (blk_below (g := gb955) (o := .cells #[.int .i64 a0_0, .int .i64 a0_1, .slice A0_2 l0_2.length c0_2, .slice A0_3 l0_3.length c0_3] 98 (0, 0)) (by (with_reducible repeat (first | refine blk_drewN ?_ _ | refine blk_drew ?_ | refine blk_alloc ?_ _)); exact BK955.out) hb); have n1_ := Aside0.mk (below_step (by repeat (first | (with_reducible first | exact HB.out | apply below_alloc | apply pw_below_drewN | apply below_drew1 | refine below_set ?_ GE955.out) | exact HB.out)) hb); clear BK955; clear HB; have BK955 := n0_; have HB := n1_; clear n0_ n1_; (try clear hb); (try clear hb2); (try clear hk); (try clear hi); have hcz17_0 : w16.cell? ⟨gb955, 0, none⟩ = some (.int .i64 a0_0) := (blk_cell BK955.out 0).trans rfl; have hcz17_1 : w16.cell? ⟨gb955, 1, none⟩ = some (.int .i64 a0_1) := (blk_cell BK955.out 1).trans rfl; have hcz17_2 : w16.cell? ⟨gb955, 2, none⟩ = some (.slice A0_2 l0_2.length c0_2) := (blk_cell BK955.out 2).trans rfl; have hcz17_3 : w16.cell? ⟨gb955, 3, none⟩ = some (.slice A0_3 l0_3.length c0_3) := (blk_cell BK955.out 3).trans rfl; have hfz17_0 := blk_frozen BK955.out 0; have hfz17_1 := blk_frozen BK955.out 1; have hfz17_2 := blk_frozen BK955.out 2; have hfz17_3 := blk_frozen BK955.out 3; have p958 : 0 ≤ (a1 : Int) := of_decide_eq_true (by first | (with_reducible assumption) | assumption); have q958 : a1 < (l0_2.length : Int) := of_decide_eq_true (by first | (with_reducible assumption) | assumption); obtain ⟨ad958, e958, hx958_0⟩ := Kd.at_int HR0_2.out a1 p958 q958; cases e958; replace hx958_0 := (HB.out.cell (World.block_lt_of_cell? w _ hx958_0)).trans hx958_0; replace p958 := eq_true p958; replace q958 := eq_true q958)))
       go_meet
       case rel => exact ⟨_, (true), (by first | rfl | (simp; done) | (simp [*]; done)), H', ⟨by first | omega | exact Nat.le_refl _⟩, ⟨by (with_reducible repeat (first | refine blk_drewN ?_ _ | refine blk_drew ?_ | refine blk_alloc ?_ _)); exact BK955.out⟩, ⟨by repeat (first | (with_reducible first | exact HB.out | apply below_alloc | apply pw_below_drewN | apply below_drew1 | refine below_set ?_ GE955.out) | exact HB.out)⟩⟩
      ·rw [if_neg c12] at H
       have c12b0 : ((rd l0_2 a1) == 0) = false := beq_eq_false_iff_ne.mpr c12
       have c12b1 : ((rd l0_2 a1) != 0) = true := bne_iff_ne.mpr c12
       by_cases c18 : (l2.length : Int) = (l0_2.length : Int)
       ·rw [if_pos c18] at H
        have c18b0 : ((l2.length : Int) == (l0_2.length : Int)) = true := beq_iff_eq.mpr c18
        have c18b1 : ((l2.length : Int) != (l0_2.length : Int)) = false := bne_eq_false_iff_eq.mpr c18
        have c18b2 : (l2.length == l0_2.length) = true := by first | simpa using c18 | (simp at c18 ⊢; omega)
        clear c18
        by_cases c19 : a1 < (l2.length : Int)
        ·rw [if_pos c19] at H
         have c19b0 : decide (a1 < (l2.length : Int)) = true := decide_eq_true c19
         clear c19
         have H' := Aside0.mk H
         clear H
         have hcz20_0 : w5.cell? ⟨gb955, 0, none⟩ = some (.int .i64 a0_0) := (blk_cell BK955.out 0).trans rfl
         have hcz20_1 : w5.cell? ⟨gb955, 1, none⟩ = some (.int .i64 a0_1) := (blk_cell BK955.out 1).trans rfl
         have hcz20_2 : w5.cell? ⟨gb955, 2, none⟩ = some (.slice A0_2 l0_2.length c0_2) := (blk_cell BK955.out 2).trans rfl
         have hcz20_3 : w5.cell? ⟨gb955, 3, none⟩ = some (.slice A0_3 l0_3.length c0_3) := (blk_cell BK955.out 3).trans rfl
         have hfz20_0 := blk_frozen BK955.out 0
         have hfz20_1 := blk_frozen BK955.out 1
         have hfz20_2 := blk_frozen BK955.out 2
         have hfz20_3 := blk_frozen BK955.out 3
         go_wp2_with (first | (go_at_call 126; (with_reducible refine (impl_SeaOk.calls k a0_0 a0_1 _ _ l0_2 _ _ l0_3 true _ ?side1 ?side2 ?side3 ?side4 A6.out).mono ?_); (case side1 => repeat (first | exact (Kd.C_below HR0_2.out HB.out) | (with_reducible refine Kd.C_alloc ?_ _) | (with_reducible refine Kd.C_drewN ?_ _) | (with_reducible refine Kd.C_drew ?_))); (case side2 => exact HC0_2.out); (case side3 => repeat (first | exact (Kd.C_below HR0_3.out HB.out) | (with_reducible refine Kd.C_alloc ?_ _) | (with_reducible refine Kd.C_drewN ?_ _) | (with_reducible refine Kd.C_drew ?_))); (case side4 => exact HC0_3.out); rintro e w21 ⟨rfl, hb⟩; have n0_ := Aside0.mk (blk_below (g := gb955) (o := .cells #[.int .i64 a0_0, .int .i64 a0_1, .slice A0_2 l0_2.length c0_2, .slice A0_3 l0_3.length c0_3] 98 (0, 0)) (by (with_reducible repeat (first | refine blk_drewN ?_ _ | refine blk_drew ?_ | refine blk_alloc ?_ _)); exact BK955.out) hb); have n1_ := Aside0.mk (below_step (by repeat (first | (with_reducible first | exact HB.out | apply below_alloc | apply pw_below_drewN | apply below_drew1 | refine below_set ?_ GE955.out) | exact HB.out)) hb); clear BK955; clear HB; have BK955 := n0_; have HB := n1_; clear n0_ n1_; (try clear hb); (try clear hb2); (try clear hk); (try clear hi); have hcz22_0 : w21.cell? ⟨gb955, 0, none⟩ = some (.int .i64 a0_0) := (blk_cell BK955.out 0).trans rfl; have hcz22_1 : w21.cell? ⟨gb955, 1, none⟩ = some (.int .i64 a0_1) := (blk_cell BK955.out 1).trans rfl; have hcz22_2 : w21.cell? ⟨gb955, 2, none⟩ = some (.slice A0_2 l0_2.length c0_2) := (blk_cell BK955.out 2).trans rfl; have hcz22_3 : w21.cell? ⟨gb955, 3, none⟩ = some (.slice A0_3 l0_3.length c0_3) := (blk_cell BK955.out 3).trans rfl; have hfz22_0 := blk_frozen BK955.out 0; have hfz22_1 := blk_frozen BK955.out 1; have hfz22_2 := blk_frozen BK955.out 2; have hfz22_3 := blk_frozen BK955.out 3) | (go_at_call 127; (with_reducible refine (impl_Sea_place.calls a0_0 a0_1 _ _ l0_2 _ _ l0_3 a1 true _ ?side1 ?side2 ?side3 ?side4 A8.out).mono ?_); (case side1 => repeat (first | exact (Kd.C_below HR0_2.out HB.out) | (with_reducible refine Kd.C_alloc ?_ _) | (with_reducible refine Kd.C_drewN ?_ _) | (with_reducible refine Kd.C_drew ?_))); (case side2 => exact HC0_2.out); (case side3 => repeat (first | exact (Kd.C_below HR0_3.out HB.out) | (with_reducible refine Kd.C_alloc ?_ _) | (with_reducible refine Kd.C_drewN ?_ _) | (with_reducible refine Kd.C_drew ?_))); (case side4 => exact HC0_3.out); rintro e w23 ⟨rfl, hb⟩; have n0_ := Aside0.mk (blk_below (g := gb955) (o := .cells #[.int .i64 a0_0, .int .i64 a0_1, .slice A0_2 l0_2.length c0_2, .slice A0_3 l0_3.length c0_3] 98 (0, 0)) (by (with_reducible repeat (first | refine blk_drewN ?_ _ | refine blk_drew ?_ | refine blk_alloc ?_ _)); exact BK955.out) hb); have n1_ := Aside0.mk (below_step (by repeat (first | (with_reducible first | exact HB.out | apply below_alloc | apply pw_below_drewN | apply below_drew1 | refine below_set ?_ GE955.out) | exact HB.out)) hb); clear BK955; clear HB; have BK955 := n0_; have HB := n1_; clear n0_ n1_; (try clear hb); (try clear hb2); (try clear hk); (try clear hi); have hcz24_0 : w23.cell? ⟨gb955, 0, none⟩ = some (.int .i64 a0_0) := (blk_cell BK955.out 0).trans rfl; have hcz24_1 : w23.cell? ⟨gb955, 1, none⟩ = some (.int .i64 a0_1) := (blk_cell BK955.out 1).trans rfl; have hcz24_2 : w23.cell? ⟨gb955, 2, none⟩ = some (.slice A0_2 l0_2.length c0_2) := (blk_cell BK955.out 2).trans rfl; have hcz24_3 : w23.cell? ⟨gb955, 3, none⟩ = some (.slice A0_3 l0_3.length c0_3) := (blk_cell BK955.out 3).trans rfl; have hfz24_0 := blk_frozen BK955.out 0; have hfz24_1 := blk_frozen BK955.out 1; have hfz24_2 := blk_frozen BK955.out 2; have hfz24_3 := blk_frozen BK955.out 3; have p958 : 0 ≤ (a1 : Int) := of_decide_eq_true (by first | (with_reducible assumption) | assumption); have q958 : a1 < (l0_2.length : Int) := of_decide_eq_true (by first | (with_reducible assumption) | assumption); obtain ⟨ad958, e958, hx958_0⟩ := Kd.at_int HR0_2.out a1 p958 q958; cases e958; replace hx958_0 := (HB.out.cell (World.block_lt_of_cell? w _ hx958_0)).trans hx958_0; replace p958 := eq_true p958; replace q958 := eq_true q958; have p959 : 0 ≤ (a1 : Int) := of_decide_eq_true (by first | (with_reducible assumption) | assumption); have q959 : a1 < (l2.length : Int) := of_decide_eq_true (by first | (with_reducible assumption) | assumption); obtain ⟨ad959, e959, hx959_0⟩ := Kd.at_int HR2.out a1 p959 q959; cases e959; replace hx959_0 := (HB.out.cell (World.block_lt_of_cell? w _ hx959_0)).trans hx959_0; replace p959 := eq_true p959; replace q959 := eq_true q959))
         repeat (go_quiet (first | (go_at_call 126; (with_reducible refine (impl_SeaOk.calls k a0_0 a0_1 _ _ l0_2 _ _ l0_3 true _ ?side1 ?side2 ?side3 ?side4 A6.out).mono ?_); (case side1 => repeat (first | exact (Kd.C_below HR0_2.out HB.out) | (with_reducible refine Kd.C_alloc ?_ _) | (with_reducible refine Kd.C_drewN ?_ _) | (with_reducible refine Kd.C_drew ?_))); (case side2 => exact HC0_2.out); (case side3 => repeat (first | exact (Kd.C_below HR0_3.out HB.out) | (with_reducible refine Kd.C_alloc ?_ _) | (with_reducible refine Kd.C_drewN ?_ _) | (with_reducible refine Kd.C_drew ?_))); (case side4 => exact HC0_3.out); rintro e w21 ⟨rfl, hb⟩; have n0_ := Aside0.mk (blk_below (g := gb955) (o := .cells #[.int .i64 a0_0, .int .i64 a0_1, .slice A0_2 l0_2.length c0_2, .slice A0_3 l0_3.length c0_3] 98 (0, 0)) (by (with_reducible repeat (first | refine blk_drewN ?_ _ | refine blk_drew ?_ | refine blk_alloc ?_ _)); exact BK955.out) hb); have n1_ := Aside0.mk (below_step (by repeat (first | (with_reducible first | exact HB.out | apply below_alloc | apply pw_below_drewN | apply below_drew1 | refine below_set ?_ GE955.out) | exact HB.out)) hb); clear BK955; clear HB; have BK955 := n0_; have HB := n1_; clear n0_ n1_; (try clear hb); (try clear hb2); (try clear hk); (try clear hi); have hcz22_0 : w21.cell? ⟨gb955, 0, none⟩ = some (.int .i64 a0_0) := (blk_cell BK955.out 0).trans rfl; have hcz22_1 : w21.cell? ⟨gb955, 1, none⟩ = some (.int .i64 a0_1) := (blk_cell BK955.out 1).trans rfl; have hcz22_2 : w21.cell? ⟨gb955, 2, none⟩ = some (.slice A0_2 l0_2.length c0_2) := (blk_cell BK955.out 2).trans rfl; have hcz22_3 : w21.cell? ⟨gb955, 3, none⟩ = some (.slice A0_3 l0_3.length c0_3) := (blk_cell BK955.out 3).trans rfl; have hfz22_0 := blk_frozen BK955.out 0; have hfz22_1 := blk_frozen BK955.out 1; have hfz22_2 := blk_frozen BK955.out 2; have hfz22_3 := blk_frozen BK955.out 3) | (go_at_call 127; (with_reducible refine (impl_Sea_place.calls a0_0 a0_1 _ _ l0_2 _ _ l0_3 a1 true _ ?side1 ?side2 ?side3 ?side4 A8.out).mono ?_); (case side1 => repeat (first | exact (Kd.C_below HR0_2.out HB.out) | (with_reducible refine Kd.C_alloc ?_ _) | (with_reducible refine Kd.C_drewN ?_ _) | (with_reducible refine Kd.C_drew ?_))); (case side2 => exact HC0_2.out); (case side3 => repeat (first | exact (Kd.C_below HR0_3.out HB.out) | (with_reducible refine Kd.C_alloc ?_ _) | (with_reducible refine Kd.C_drewN ?_ _) | (with_reducible refine Kd.C_drew ?_))); (case side4 => exact HC0_3.out); rintro e w23 ⟨rfl, hb⟩; have n0_ := Aside0.mk (blk_below (g := gb955) (o := .cells #[.int .i64 a0_0, .int .i64 a0_1, .slice A0_2 l0_2.length c0_2, .slice A0_3 l0_3.length c0_3] 98 (0, 0)) (by (with_reducible repeat (first | refine blk_drewN ?_ _ | refine blk_drew ?_ | refine blk_alloc ?_ _)); exact BK955.out) hb); have n1_ := Aside0.mk (below_step (by repeat (first | (with_reducible first | exact HB.out | apply below_alloc | apply pw_below_drewN | apply below_drew1 | refine below_set ?_ GE955.out) | exact HB.out)) hb); clear BK955; clear HB; have BK955 := n0_; have HB := n1_; clear n0_ n1_; (try clear hb); (try clear hb2); (try clear hk); (try clear hi); have hcz24_0 : w23.cell? ⟨gb955, 0, none⟩ = some (.int .i64 a0_0) := (blk_cell BK955.out 0).trans rfl; have hcz24_1 : w23.cell? ⟨gb955, 1, none⟩ = some (.int .i64 a0_1) := (blk_cell BK955.out 1).trans rfl; have hcz24_2 : w23.cell? ⟨gb955, 2, none⟩ = some (.slice A0_2 l0_2.length c0_2) := (blk_cell BK955.out 2).trans rfl; have hcz24_3 : w23.cell? ⟨gb955, 3, none⟩ = some (.slice A0_3 l0_3.length c0_3) := (blk_cell BK955.out 3).trans rfl; have hfz24_0 := blk_frozen BK955.out 0; have hfz24_1 := blk_frozen BK955.out 1; have hfz24_2 := blk_frozen BK955.out 2; have hfz24_3 := blk_frozen BK955.out 3; have p958 : 0 ≤ (a1 : Int) := of_decide_eq_true (by first | (with_reducible assumption) | assumption); have q958 : a1 < (l0_2.length : Int) := of_decide_eq_true (by first | (with_reducible assumption) | assumption); obtain ⟨ad958, e958, hx958_0⟩ := Kd.at_int HR0_2.out a1 p958 q958; cases e958; replace hx958_0 := (HB.out.cell (World.block_lt_of_cell? w _ hx958_0)).trans hx958_0; replace p958 := eq_true p958; replace q958 := eq_true q958; have p959 : 0 ≤ (a1 : Int) := of_decide_eq_true (by first | (with_reducible assumption) | assumption); have q959 : a1 < (l2.length : Int) := of_decide_eq_true (by first | (with_reducible assumption) | assumption); obtain ⟨ad959, e959, hx959_0⟩ := Kd.at_int HR2.out a1 p959 q959; cases e959; replace hx959_0 := (HB.out.cell (World.block_lt_of_cell? w _ hx959_0)).trans hx959_0; replace p959 := eq_true p959; replace q959 := eq_true q959)); try go_wp2_with (first | (go_at_call 126; (with_reducible refine (impl_SeaOk.calls k a0_0 a0_1 _ _ l0_2 _ _ l0_3 true _ ?side1 ?side2 ?side3 ?side4 A6.out).mono ?_); (case side1 => repeat (first | exact (Kd.C_below HR0_2.out HB.out) | (with_reducible refine Kd.C_alloc ?_ _) | (with_reducible refine Kd.C_drewN ?_ _) | (with_reducible refine Kd.C_drew ?_))); (case side2 => exact HC0_2.out); (case side3 => repeat (first | exact (Kd.C_below HR0_3.out HB.out) | (with_reducible refine Kd.C_alloc ?_ _) | (with_reducible refine Kd.C_drewN ?_ _) | (with_reducible refine Kd.C_drew ?_))); (case side4 => exact HC0_3.out); rintro e w21 ⟨rfl, hb⟩; have n0_ := Aside0.mk (blk_below (g := gb955) (o := .cells #[.int .i64 a0_0, .int .i64 a0_1, .slice A0_2 l0_2.length c0_2, .slice A0_3 l0_3.length c0_3] 98 (0, 0)) (by (with_reducible repeat (first | refine blk_drewN ?_ _ | refine blk_drew ?_ | refine blk_alloc ?_ _)); exact BK955.out) hb); have n1_ := Aside0.mk (below_step (by repeat (first | (with_reducible first | exact HB.out | apply below_alloc | apply pw_below_drewN | apply below_drew1 | refine below_set ?_ GE955.out) | exact HB.out)) hb); clear BK955; clear HB; have BK955 := n0_; have HB := n1_; clear n0_ n1_; (try clear hb); (try clear hb2); (try clear hk); (try clear hi); have hcz22_0 : w21.cell? ⟨gb955, 0, none⟩ = some (.int .i64 a0_0) := (blk_cell BK955.out 0).trans rfl; have hcz22_1 : w21.cell? ⟨gb955, 1, none⟩ = some (.int .i64 a0_1) := (blk_cell BK955.out 1).trans rfl; have hcz22_2 : w21.cell? ⟨gb955, 2, none⟩ = some (.slice A0_2 l0_2.length c0_2) := (blk_cell BK955.out 2).trans rfl; have hcz22_3 : w21.cell? ⟨gb955, 3, none⟩ = some (.slice A0_3 l0_3.length c0_3) := (blk_cell BK955.out 3).trans rfl; have hfz22_0 := blk_frozen BK955.out 0; have hfz22_1 := blk_frozen BK955.out 1; have hfz22_2 := blk_frozen BK955.out 2; have hfz22_3 := blk_frozen BK955.out 3) | (go_at_call 127; (with_reducible refine (impl_Sea_place.calls a0_0 a0_1 _ _ l0_2 _ _ l0_3 a1 true _ ?side1 ?side2 ?side3 ?side4 A8.out).mono ?_); (case side1 => repeat (first | exact (Kd.C_below HR0_2.out HB.out) | (with_reducible refine Kd.C_alloc ?_ _) | (with_reducible refine Kd.C_drewN ?_ _) | (with_reducible refine Kd.C_drew ?_))); (case side2 => exact HC0_2.out); (case side3 => repeat (first | exact (Kd.C_below HR0_3.out HB.out) | (with_reducible refine Kd.C_alloc ?_ _) | (with_reducible refine Kd.C_drewN ?_ _) | (with_reducible refine Kd.C_drew ?_))); (case side4 => exact HC0_3.out); rintro e w23 ⟨rfl, hb⟩; have n0_ := Aside0.mk (blk_below (g := gb955) (o := .cells #[.int .i64 a0_0, .int .i64 a0_1, .slice A0_2 l0_2.length c0_2, .slice A0_3 l0_3.length c0_3] 98 (0, 0)) (by (with_reducible repeat (first | refine blk_drewN ?_ _ | refine blk_drew ?_ | refine blk_alloc ?_ _)); exact BK955.out) hb); have n1_ := Aside0.mk (below_step (by repeat (first | (with_reducible first | exact HB.out | apply below_alloc | apply pw_below_drewN | apply below_drew1 | refine below_set ?_ GE955.out) | exact HB.out)) hb); clear BK955; clear HB; have BK955 := n0_; have HB := n1_; clear n0_ n1_; (try clear hb); (try clear hb2); (try clear hk); (try clear hi); have hcz24_0 : w23.cell? ⟨gb955, 0, none⟩ = some (.int .i64 a0_0) := (blk_cell BK955.out 0).trans rfl; have hcz24_1 : w23.cell? ⟨gb955, 1, none⟩ = some (.int .i64 a0_1) := (blk_cell BK955.out 1).trans rfl; have hcz24_2 : w23.cell? ⟨gb955, 2, none⟩ = some (.slice A0_2 l0_2.length c0_2) := (blk_cell BK955.out 2).trans rfl; have hcz24_3 : w23.cell? ⟨gb955, 3, none⟩ = some (.slice A0_3 l0_3.length c0_3) := (blk_cell BK955.out 3).trans rfl; have hfz24_0 := blk_frozen BK955.out 0; have hfz24_1 := blk_frozen BK955.out 1; have hfz24_2 := blk_frozen BK955.out 2; have hfz24_3 := blk_frozen BK955.out 3; have p958 : 0 ≤ (a1 : Int) := of_decide_eq_true (by first | (with_reducible assumption) | assumption); have q958 : a1 < (l0_2.length : Int) := of_decide_eq_true (by first | (with_reducible assumption) | assumption); obtain ⟨ad958, e958, hx958_0⟩ := Kd.at_int HR0_2.out a1 p958 q958; cases e958; replace hx958_0 := (HB.out.cell (World.block_lt_of_cell? w _ hx958_0)).trans hx958_0; replace p958 := eq_true p958; replace q958 := eq_true q958; have p959 : 0 ≤ (a1 : Int) := of_decide_eq_true (by first | (with_reducible assumption) | assumption); have q959 : a1 < (l2.length : Int) := of_decide_eq_true (by first | (with_reducible assumption) | assumption); obtain ⟨ad959, e959, hx959_0⟩ := Kd.at_int HR2.out a1 p959 q959; cases e959; replace hx959_0 := (HB.out.cell (World.block_lt_of_cell? w _ hx959_0)).trans hx959_0; replace p959 := eq_true p959; replace q959 := eq_true q959)))
         go_meet
         case rel => exact ⟨_, (((rd l2 a1) != 0)), (by first | rfl | (simp; done) | (simp [*]; done)), H', ⟨by first | omega | exact Nat.le_refl _⟩, ⟨by (with_reducible repeat (first | refine blk_drewN ?_ _ | refine blk_drew ?_ | refine blk_alloc ?_ _)); exact BK955.out⟩, ⟨by repeat (first | (with_reducible first | exact HB.out | apply below_alloc | apply pw_below_drewN | apply below_drew1 | refine below_set ?_ GE955.out) | exact HB.out)⟩⟩
        ·rw [if_neg c19] at H
         exact absurd H (by simp)
       ·rw [if_neg c18] at H
        have c18b0 : ((l2.length : Int) == (l0_2.length : Int)) = false := beq_eq_false_iff_ne.mpr c18
        have c18b1 : ((l2.length : Int) != (l0_2.length : Int)) = true := bne_iff_ne.mpr c18
        have c18b2 : (l2.length == l0_2.length) = false := by first | simpa using c18 | (simp at c18 ⊢; omega)
        have H' := Aside0.mk H
        clear H
        have hcz25_0 : w5.cell? ⟨gb955, 0, none⟩ = some (.int .i64 a0_0) := (blk_cell BK955.out 0).trans rfl
        have hcz25_1 : w5.cell? ⟨gb955, 1, none⟩ = some (.int .i64 a0_1) := (blk_cell BK955.out 1).trans rfl
        have hcz25_2 : w5.cell? ⟨gb955, 2, none⟩ = some (.slice A0_2 l0_2.length c0_2) := (blk_cell BK955.out 2).trans rfl
        have hcz25_3 : w5.cell? ⟨gb955, 3, none⟩ = some (.slice A0_3 l0_3.length c0_3) := (blk_cell BK955.out 3).trans rfl
        have hfz25_0 := blk_frozen BK955.out 0
        have hfz25_1 := blk_frozen BK955.out 1
        have hfz25_2 := blk_frozen BK955.out 2
        have hfz25_3 := blk_frozen BK955.out 3
        go_wp2_with (first | (go_at_call 126; (with_reducible refine (impl_SeaOk.calls k a0_0 a0_1 _ _ l0_2 _ _ l0_3 true _ ?side1 ?side2 ?side3 ?side4 A6.out).mono ?_); (case side1 => repeat (first | exact (Kd.C_below HR0_2.out HB.out) | (with_reducible refine Kd.C_alloc ?_ _) | (with_reducible refine Kd.C_drewN ?_ _) | (with_reducible refine Kd.C_drew ?_))); (case side2 => exact HC0_2.out); (case side3 => repeat (first | exact (Kd.C_below HR0_3.out HB.out) | (with_reducible refine Kd.C_alloc ?_ _) | (with_reducible refine Kd.C_drewN ?_ _) | (with_reducible refine Kd.C_drew ?_))); (case side4 => exact HC0_3.out); rintro e w26 ⟨rfl, hb⟩; have n0_ := Aside0.mk (blk_below (g := gb955) (o := .cells #[.int .i64 a0_0, .int .i64 a0_1, .slice A0_2 l0_2.length c0_2, .slice A0_3 l0_3.length c0_3] 98 (0, 0)) (by (with_reducible repeat (first | refine blk_drewN ?_ _ | refine blk_drew ?_ | refine blk_alloc ?_ _)); exact BK955.out) hb); have n1_ := Aside0.mk (below_step (by repeat (first | (with_reducible first | exact HB.out | apply below_alloc | apply pw_below_drewN | apply below_drew1 | refine below_set ?_ GE955.out) | exact HB.out)) hb); clear BK955; clear HB; have BK955 := n0_; have HB := n1_; clear n0_ n1_; (try clear hb); (try clear hb2); (try clear hk); (try clear hi); have hcz27_0 : w26.cell? ⟨gb955, 0, none⟩ = some (.int .i64 a0_0) := (blk_cell BK955.out 0).trans rfl; have hcz27_1 : w26.cell? ⟨gb955, 1, none⟩ = some (.int .i64 a0_1) := (blk_cell BK955.out 1).trans rfl; have hcz27_2 : w26.cell? ⟨gb955, 2, none⟩ = some (.slice A0_2 l0_2.length c0_2) := (blk_cell BK955.out 2).trans rfl; have hcz27_3 : w26.cell? ⟨gb955, 3, none⟩ = some (.slice A0_3 l0_3.length c0_3) := (blk_cell BK955.out 3).trans rfl; have hfz27_0 := blk_frozen BK955.out 0; have hfz27_1 := blk_frozen BK955.out 1; have hfz27_2 := blk_frozen BK955.out 2; have hfz27_3 := blk_frozen BK955.out 3) | (go_at_call 127; (with_reducible refine (impl_Sea_place.calls a0_0 a0_1 _ _ l0_2 _ _ l0_3 a1 true _ ?side1 ?side2 ?side3 ?side4 A8.out).mono ?_); (case side1 => repeat (first | exact (Kd.C_below HR0_2.out HB.out) | (with_reducible refine Kd.C_alloc ?_ _) | (with_reducible refine Kd.C_drewN ?_ _) | (with_reducible refine Kd.C_drew ?_))); (case side2 => exact HC0_2.out); (case side3 => repeat (first | exact (Kd.C_below HR0_3.out HB.out) | (with_reducible refine Kd.C_alloc ?_ _) | (with_reducible refine Kd.C_drewN ?_ _) | (with_reducible refine Kd.C_drew ?_))); (case side4 => exact HC0_3.out); rintro e w28 ⟨rfl, hb⟩; have n0_ := Aside0.mk (blk_below (g := gb955) (o := .cells #[.int .i64 a0_0, .int .i64 a0_1, .slice A0_2 l0_2.length c0_2, .slice A0_3 l0_3.length c0_3] 98 (0, 0)) (by (with_reducible repeat (first | refine blk_drewN ?_ _ | refine blk_drew ?_ | refine blk_alloc ?_ _)); exact BK955.out) hb); have n1_ := Aside0.mk (below_step (by repeat (first | (with_reducible first | exact HB.out | apply below_alloc | apply pw_below_drewN | apply below_drew1 | refine below_set ?_ GE955.out) | exact HB.out)) hb); clear BK955; clear HB; have BK955 := n0_; have HB := n1_; clear n0_ n1_; (try clear hb); (try clear hb2); (try clear hk); (try clear hi); have hcz29_0 : w28.cell? ⟨gb955, 0, none⟩ = some (.int .i64 a0_0) := (blk_cell BK955.out 0).trans rfl; have hcz29_1 : w28.cell? ⟨gb955, 1, none⟩ = some (.int .i64 a0_1) := (blk_cell BK955.out 1).trans rfl; have hcz29_2 : w28.cell? ⟨gb955, 2, none⟩ = some (.slice A0_2 l0_2.length c0_2) := (blk_cell BK955.out 2).trans rfl; have hcz29_3 : w28.cell? ⟨gb955, 3, none⟩ = some (.slice A0_3 l0_3.length c0_3) := (blk_cell BK955.out 3).trans rfl; have hfz29_0 := blk_frozen BK955.out 0; have hfz29_1 := blk_frozen BK955.out 1; have hfz29_2 := blk_frozen BK955.out 2; have hfz29_3 := blk_frozen BK955.out 3; have p958 : 0 ≤ (a1 : Int) := of_decide_eq_true (by first | (with_reducible assumption) | assumption); have q958 : a1 < (l0_2.length : Int) := of_decide_eq_true (by first | (with_reducible assumption) | assumption); obtain ⟨ad958, e958, hx958_0⟩ := Kd.at_int HR0_2.out a1 p958 q958; cases e958; replace hx958_0 := (HB.out.cell (World.block_lt_of_cell? w _ hx958_0)).trans hx958_0; replace p958 := eq_true p958; replace q958 := eq_true q958))
        repeat (go_quiet (first | (go_at_call 126; (with_reducible refine (impl_SeaOk.calls k a0_0 a0_1 _ _ l0_2 _ _ l0_3 true _ ?side1 ?side2 ?side3 ?side4 A6.out).mono ?_); (case side1 => repeat (first | exact (Kd.C_below HR0_2.out HB.out) | (with_reducible refine Kd.C_alloc ?_ _) | (with_reducible refine Kd.C_drewN ?_ _) | (with_reducible refine Kd.C_drew ?_))); (case side2 => exact HC0_2.out); (case side3 => repeat (first | exact (Kd.C_below HR0_3.out HB.out) | (with_reducible refine Kd.C_alloc ?_ _) | (with_reducible refine Kd.C_drewN ?_ _) | (with_reducible refine Kd.C_drew ?_))); (case side4 => exact HC0_3.out); rintro e w26 ⟨rfl, hb⟩; have n0_ := Aside0.mk (blk_below (g := gb955) (o := .cells #[.int .i64 a0_0, .int .i64 a0_1, .slice A0_2 l0_2.length c0_2, .slice A0_3 l0_3.length c0_3] 98 (0, 0)) (by (with_reducible repeat (first | refine blk_drewN ?_ _ | refine blk_drew ?_ | refine blk_alloc ?_ _)); exact BK955.out) hb); have n1_ := Aside0.mk (below_step (by repeat (first | (with_reducible first | exact HB.out | apply below_alloc | apply pw_below_drewN | apply below_drew1 | refine below_set ?_ GE955.out) | exact HB.out)) hb); clear BK955; clear HB; have BK955 := n0_; have HB := n1_; clear n0_ n1_; (try clear hb); (try clear hb2); (try clear hk); (try clear hi); have hcz27_0 : w26.cell? ⟨gb955, 0, none⟩ = some (.int .i64 a0_0) := (blk_cell BK955.out 0).trans rfl; have hcz27_1 : w26.cell? ⟨gb955, 1, none⟩ = some (.int .i64 a0_1) := (blk_cell BK955.out 1).trans rfl; have hcz27_2 : w26.cell? ⟨gb955, 2, none⟩ = some (.slice A0_2 l0_2.length c0_2) := (blk_cell BK955.out 2).trans rfl; have hcz27_3 : w26.cell? ⟨gb955, 3, none⟩ = some (.slice A0_3 l0_3.length c0_3) := (blk_cell BK955.out 3).trans rfl; have hfz27_0 := blk_frozen BK955.out 0; have hfz27_1 := blk_frozen BK955.out 1; have hfz27_2 := blk_frozen BK955.out 2; have hfz27_3 := blk_frozen BK955.out 3) | (go_at_call 127; (with_reducible refine (impl_Sea_place.calls a0_0 a0_1 _ _ l0_2 _ _ l0_3 a1 true _ ?side1 ?side2 ?side3 ?side4 A8.out).mono ?_); (case side1 => repeat (first | exact (Kd.C_below HR0_2.out HB.out) | (with_reducible refine Kd.C_alloc ?_ _) | (with_reducible refine Kd.C_drewN ?_ _) | (with_reducible refine Kd.C_drew ?_))); (case side2 => exact HC0_2.out); (case side3 => repeat (first | exact (Kd.C_below HR0_3.out HB.out) | (with_reducible refine Kd.C_alloc ?_ _) | (with_reducible refine Kd.C_drewN ?_ _) | (with_reducible refine Kd.C_drew ?_))); (case side4 => exact HC0_3.out); rintro e w28 ⟨rfl, hb⟩; have n0_ := Aside0.mk (blk_below (g := gb955) (o := .cells #[.int .i64 a0_0, .int .i64 a0_1, .slice A0_2 l0_2.length c0_2, .slice A0_3 l0_3.length c0_3] 98 (0, 0)) (by (with_reducible repeat (first | refine blk_drewN ?_ _ | refine blk_drew ?_ | refine blk_alloc ?_ _)); exact BK955.out) hb); have n1_ := Aside0.mk (below_step (by repeat (first | (with_reducible first | exact HB.out | apply below_alloc | apply pw_below_drewN | apply below_drew1 | refine below_set ?_ GE955.out) | exact HB.out)) hb); clear BK955; clear HB; have BK955 := n0_; have HB := n1_; clear n0_ n1_; (try clear hb); (try clear hb2); (try clear hk); (try clear hi); have hcz29_0 : w28.cell? ⟨gb955, 0, none⟩ = some (.int .i64 a0_0) := (blk_cell BK955.out 0).trans rfl; have hcz29_1 : w28.cell? ⟨gb955, 1, none⟩ = some (.int .i64 a0_1) := (blk_cell BK955.out 1).trans rfl; have hcz29_2 : w28.cell? ⟨gb955, 2, none⟩ = some (.slice A0_2 l0_2.length c0_2) := (blk_cell BK955.out 2).trans rfl; have hcz29_3 : w28.cell? ⟨gb955, 3, none⟩ = some (.slice A0_3 l0_3.length c0_3) := (blk_cell BK955.out 3).trans rfl; have hfz29_0 := blk_frozen BK955.out 0; have hfz29_1 := blk_frozen BK955.out 1; have hfz29_2 := blk_frozen BK955.out 2; have hfz29_3 := blk_frozen BK955.out 3; have p958 : 0 ≤ (a1 : Int) := of_decide_eq_true (by first | (with_reducible assumption) | assumption); have q958 : a1 < (l0_2.length : Int) := of_decide_eq_true (by first | (with_reducible assumption) | assumption); obtain ⟨ad958, e958, hx958_0⟩ := Kd.at_int HR0_2.out a1 p958 q958; cases e958; replace hx958_0 := (HB.out.cell (World.block_lt_of_cell? w _ hx958_0)).trans hx958_0; replace p958 := eq_true p958; replace q958 := eq_true q958)); try go_wp2_with (first | (go_at_call 126; (with_reducible refine (impl_SeaOk.calls k a0_0 a0_1 _ _ l0_2 _ _ l0_3 true _ ?side1 ?side2 ?side3 ?side4 A6.out).mono ?_); (case side1 => repeat (first | exact (Kd.C_below HR0_2.out HB.out) | (with_reducible refine Kd.C_alloc ?_ _) | (with_reducible refine Kd.C_drewN ?_ _) | (with_reducible refine Kd.C_drew ?_))); (case side2 => exact HC0_2.out); (case side3 => repeat (first | exact (Kd.C_below HR0_3.out HB.out) | (with_reducible refine Kd.C_alloc ?_ _) | (with_reducible refine Kd.C_drewN ?_ _) | (with_reducible refine Kd.C_drew ?_))); (case side4 => exact HC0_3.out); rintro e w26 ⟨rfl, hb⟩; have n0_ := Aside0.mk (blk_below (g := gb955) (o := .cells #[.int .i64 a0_0, .int .i64 a0_1, .slice A0_2 l0_2.length c0_2, .slice A0_3 l0_3.length c0_3] 98 (0, 0)) (by (with_reducible repeat (first | refine blk_drewN ?_ _ | refine blk_drew ?_ | refine blk_alloc ?_ _)); exact BK955.out) hb); have n1_ := Aside0.mk (below_step (by repeat (first | (with_reducible first | exact HB.out | apply below_alloc | apply pw_below_drewN | apply below_drew1 | refine below_set ?_ GE955.out) | exact HB.out)) hb); clear BK955; clear HB; have BK955 := n0_; have HB := n1_; clear n0_ n1_; (try clear hb); (try clear hb2); (try clear hk); (try clear hi); have hcz27_0 : w26.cell? ⟨gb955, 0, none⟩ = some (.int .i64 a0_0) := (blk_cell BK955.out 0).trans rfl; have hcz27_1 : w26.cell? ⟨gb955, 1, none⟩ = some (.int .i64 a0_1) := (blk_cell BK955.out 1).trans rfl; have hcz27_2 : w26.cell? ⟨gb955, 2, none⟩ = some (.slice A0_2 l0_2.length c0_2) := (blk_cell BK955.out 2).trans rfl; have hcz27_3 : w26.cell? ⟨gb955, 3, none⟩ = some (.slice A0_3 l0_3.length c0_3) := (blk_cell BK955.out 3).trans rfl; have hfz27_0 := blk_frozen BK955.out 0; have hfz27_1 := blk_frozen BK955.out 1; have hfz27_2 := blk_frozen BK955.out 2; have hfz27_3 := blk_frozen BK955.out 3) | (go_at_call 127; (with_reducible refine (impl_Sea_place.calls a0_0 a0_1 _ _ l0_2 _ _ l0_3 a1 true _ ?side1 ?side2 ?side3 ?side4 A8.out).mono ?_); (case side1 => repeat (first | exact (Kd.C_below HR0_2.out HB.out) | (with_reducible refine Kd.C_alloc ?_ _) | (with_reducible refine Kd.C_drewN ?_ _) | (with_reducible refine Kd.C_drew ?_))); (case side2 => exact HC0_2.out); (case side3 => repeat (first | exact (Kd.C_below HR0_3.out HB.out) | (with_reducible refine Kd.C_alloc ?_ _) | (with_reducible refine Kd.C_drewN ?_ _) | (with_reducible refine Kd.C_drew ?_))); (case side4 => exact HC0_3.out); rintro e w28 ⟨rfl, hb⟩; have n0_ := Aside0.mk (blk_below (g := gb955) (o := .cells #[.int .i64 a0_0, .int .i64 a0_1, .slice A0_2 l0_2.length c0_2, .slice A0_3 l0_3.length c0_3] 98 (0, 0)) (by (with_reducible repeat (first | refine blk_drewN ?_ _ | refine blk_drew ?_ | refine blk_alloc ?_ _)); exact BK955.out) hb); have n1_ := Aside0.mk (below_step (by repeat (first | (with_reducible first | exact HB.out | apply below_alloc | apply pw_below_drewN | apply below_drew1 | refine below_set ?_ GE955.out) | exact HB.out)) hb); clear BK955; clear HB; have BK955 := n0_; have HB := n1_; clear n0_ n1_; (try clear hb); (try clear hb2); (try clear hk); (try clear hi); have hcz29_0 : w28.cell? ⟨gb955, 0, none⟩ = some (.int .i64 a0_0) := (blk_cell BK955.out 0).trans rfl; have hcz29_1 : w28.cell? ⟨gb955, 1, none⟩ = some (.int .i64 a0_1) := (blk_cell BK955.out 1).trans rfl; have hcz29_2 : w28.cell? ⟨gb955, 2, none⟩ = some (.slice A0_2 l0_2.length c0_2) := (blk_cell BK955.out 2).trans rfl; have hcz29_3 : w28.cell? ⟨gb955, 3, none⟩ = some (.slice A0_3 l0_3.length c0_3) := (blk_cell BK955.out 3).trans rfl; have hfz29_0 := blk_frozen BK955.out 0; have hfz29_1 := blk_frozen BK955.out 1; have hfz29_2 := blk_frozen BK955.out 2; have hfz29_3 := blk_frozen BK955.out 3; have p958 : 0 ≤ (a1 : Int) := of_decide_eq_true (by first | (with_reducible assumption) | assumption); have q958 : a1 < (l0_2.length : Int) := of_decide_eq_true (by first | (with_reducible assumption) | assumption); obtain ⟨ad958, e958, hx958_0⟩ := Kd.at_int HR0_2.out a1 p958 q958; cases e958; replace hx958_0 := (HB.out.cell (World.block_lt_of_cell? w _ hx958_0)).trans hx958_0; replace p958 := eq_true p958; replace q958 := eq_true q958)))
        go_meet
        case rel => exact ⟨_, (true), (by first | rfl | (simp; done) | (simp [*]; done)), H', ⟨by first | omega | exact Nat.le_refl _⟩, ⟨by (with_reducible repeat (first | refine blk_drewN ?_ _ | refine blk_drew ?_ | refine blk_alloc ?_ _)); exact BK955.out⟩, ⟨by repeat (first | (with_reducible first | exact HB.out | apply below_alloc | apply pw_below_drewN | apply below_drew1 | refine below_set ?_ GE955.out) | exact HB.out)⟩⟩
     ·rw [if_neg c11] at H
      exact absurd H (by simp)
    ·rw [if_neg c10] at H
     exact absurd H (by simp)
   ·replace c9 := Bool.eq_false_iff.mpr c9
    subst c9
    rw [if_neg (show ¬ (false = true) by decide)] at H
    have H' := Aside0.mk H
    clear H
    have hcz30_0 : w5.cell? ⟨gb955, 0, none⟩ = some (.int .i64 a0_0) := (blk_cell BK955.out 0).trans rfl
    have hcz30_1 : w5.cell? ⟨gb955, 1, none⟩ = some (.int .i64 a0_1) := (blk_cell BK955.out 1).trans rfl
    have hcz30_2 : w5.cell? ⟨gb955, 2, none⟩ = some (.slice A0_2 l0_2.length c0_2) := (blk_cell BK955.out 2).trans rfl
    have hcz30_3 : w5.cell? ⟨gb955, 3, none⟩ = some (.slice A0_3 l0_3.length c0_3) := (blk_cell BK955.out 3).trans rfl
    have hfz30_0 := blk_frozen BK955.out 0
    have hfz30_1 := blk_frozen BK955.out 1
    have hfz30_2 := blk_frozen BK955.out 2
    have hfz30_3 := blk_frozen BK955.out 3
    go_wp2_with (first | (go_at_call 126; (with_reducible refine (impl_SeaOk.calls k a0_0 a0_1 _ _ l0_2 _ _ l0_3 true _ ?side1 ?side2 ?side3 ?side4 A6.out).mono ?_); (case side1 => repeat (first | exact (Kd.C_below HR0_2.out HB.out) | (with_reducible refine Kd.C_alloc ?_ _) | (with_reducible refine Kd.C_drewN ?_ _) | (with_reducible refine Kd.C_drew ?_))); (case side2 => exact HC0_2.out); (case side3 => repeat (first | exact (Kd.C_below HR0_3.out HB.out) | (with_reducible refine Kd.C_alloc ?_ _) | (with_reducible refine Kd.C_drewN ?_ _) | (with_reducible refine Kd.C_drew ?_))); (case side4 => exact HC0_3.out); rintro e w31 ⟨rfl, hb⟩; have n0_ := Aside0.mk (blk_below (g := gb955) (o := .cells #[.int .i64 a0_0, .int .i64 a0_1, .slice A0_2 l0_2.length c0_2, .slice A0_3 l0_3.length c0_3] 98 (0, 0)) (by (with_reducible repeat (first | refine blk_drewN ?_ _ | refine blk_drew ?_ | refine blk_alloc ?_ _)); exact BK955.out) hb); have n1_ := Aside0.mk (below_step (by repeat (first | (with_reducible first | exact HB.out | apply below_alloc | apply pw_below_drewN | apply below_drew1 | refine below_set ?_ GE955.out) | exact HB.out)) hb); clear BK955; clear HB; have BK955 := n0_; have HB := n1_; clear n0_ n1_; (try clear hb); (try clear hb2); (try clear hk); (try clear hi); have hcz32_0 : w31.cell? ⟨gb955, 0, none⟩ = some (.int .i64 a0_0) := (blk_cell BK955.out 0).trans rfl; have hcz32_1 : w31.cell? ⟨gb955, 1, none⟩ = some (.int .i64 a0_1) := (blk_cell BK955.out 1).trans rfl; have hcz32_2 : w31.cell? ⟨gb955, 2, none⟩ = some (.slice A0_2 l0_2.length c0_2) := (blk_cell BK955.out 2).trans rfl; have hcz32_3 : w31.cell? ⟨gb955, 3, none⟩ = some (.slice A0_3 l0_3.length c0_3) := (blk_cell BK955.out 3).trans rfl; have hfz32_0 := blk_frozen BK955.out 0; have hfz32_1 := blk_frozen BK955.out 1; have hfz32_2 := blk_frozen BK955.out 2; have hfz32_3 := blk_frozen BK955.out 3) | (go_at_call 127; (with_reducible refine (impl_Sea_place.calls a0_0 a0_1 _ _ l0_2 _ _ l0_3 a1 false _ ?side1 ?side2 ?side3 ?side4 A8.out).mono ?_); (case side1 => repeat (first | exact (Kd.C_below HR0_2.out HB.out) | (with_reducible refine Kd.C_alloc ?_ _) | (with_reducible refine Kd.C_drewN ?_ _) | (with_reducible refine Kd.C_drew ?_))); (case side2 => exact HC0_2.out); (case side3 => repeat (first | exact (Kd.C_below HR0_3.out HB.out) | (with_reducible refine Kd.C_alloc ?_ _) | (with_reducible refine Kd.C_drewN ?_ _) | (with_reducible refine Kd.C_drew ?_))); (case side4 => exact HC0_3.out); rintro e w33 ⟨rfl, hb⟩; have n0_ := Aside0.mk (blk_below (g := gb955) (o := .cells #[.int .i64 a0_0, .int .i64 a0_1, .slice A0_2 l0_2.length c0_2, .slice A0_3 l0_3.length c0_3] 98 (0, 0)) (by (with_reducible repeat (first | refine blk_drewN ?_ _ | refine blk_drew ?_ | refine blk_alloc ?_ _)); exact BK955.out) hb); have n1_ := Aside0.mk (below_step (by repeat (first | (with_reducible first | exact HB.out | apply below_alloc | apply pw_below_drewN | apply below_drew1 | refine below_set ?_ GE955.out) | exact HB.out)) hb); clear BK955; clear HB; have BK955 := n0_; have HB := n1_; clear n0_ n1_; (try clear hb); (try clear hb2); (try clear hk); (try clear hi)))
    repeat (go_quiet (first | (go_at_call 126; (with_reducible refine (impl_SeaOk.calls k a0_0 a0_1 _ _ l0_2 _ _ l0_3 true _ ?side1 ?side2 ?side3 ?side4 A6.out).mono ?_); (case side1 => repeat (first | exact (Kd.C_below HR0_2.out HB.out) | (with_reducible refine Kd.C_alloc ?_ _) | (with_reducible refine Kd.C_drewN ?_ _) | (with_reducible refine Kd.C_drew ?_))); (case side2 => exact HC0_2.out); (case side3 => repeat (first | exact (Kd.C_below HR0_3.out HB.out) | (with_reducible refine Kd.C_alloc ?_ _) | (with_reducible refine Kd.C_drewN ?_ _) | (with_reducible refine Kd.C_drew ?_))); (case side4 => exact HC0_3.out); rintro e w31 ⟨rfl, hb⟩; have n0_ := Aside0.mk (blk_below (g := gb955) (o := .cells #[.int .i64 a0_0, .int .i64 a0_1, .slice A0_2 l0_2.length c0_2, .slice A0_3 l0_3.length c0_3] 98 (0, 0)) (by (with_reducible repeat (first | refine blk_drewN ?_ _ | refine blk_drew ?_ | refine blk_alloc ?_ _)); exact BK955.out) hb); have n1_ := Aside0.mk (below_step (by repeat (first | (with_reducible first | exact HB.out | apply below_alloc | apply pw_below_drewN | apply below_drew1 | refine below_set ?_ GE955.out) | exact HB.out)) hb); clear BK955; clear HB; have BK955 := n0_; have HB := n1_; clear n0_ n1_; (try clear hb); (try clear hb2); (try clear hk); (try clear hi); have hcz32_0 : w31.cell? ⟨gb955, 0, none⟩ = some (.int .i64 a0_0) := (blk_cell BK955.out 0).trans rfl; have hcz32_1 : w31.cell? ⟨gb955, 1, none⟩ = some (.int .i64 a0_1) := (blk_cell BK955.out 1).trans rfl; have hcz32_2 : w31.cell? ⟨gb955, 2, none⟩ = some (.slice A0_2 l0_2.length c0_2) := (blk_cell BK955.out 2).trans rfl; have hcz32_3 : w31.cell? ⟨gb955, 3, none⟩ = some (.slice A0_3 l0_3.length c0_3) := (blk_cell BK955.out 3).trans rfl; have hfz32_0 := blk_frozen BK955.out 0; have hfz32_1 := blk_frozen BK955.out 1; have hfz32_2 := blk_frozen BK955.out 2; have hfz32_3 := blk_frozen BK955.out 3) | (go_at_call 127; (with_reducible refine (impl_Sea_place.calls a0_0 a0_1 _ _ l0_2 _ _ l0_3 a1 false _ ?side1 ?side2 ?side3 ?side4 A8.out).mono ?_); (case side1 => repeat (first | exact (Kd.C_below HR0_2.out HB.out) | (with_reducible refine Kd.C_alloc ?_ _) | (with_reducible refine Kd.C_drewN ?_ _) | (with_reducible refine Kd.C_drew ?_))); (case side2 => exact HC0_2.out); (case side3 => repeat (first | exact (Kd.C_below HR0_3.out HB.out) | (with_reducible refine Kd.C_alloc ?_ _) | (with_reducible refine Kd.C_drewN ?_ _) | (with_reducible refine Kd.C_drew ?_))); (case side4 => exact HC0_3.out); rintro e w33 ⟨rfl, hb⟩; have n0_ := Aside0.mk (blk_below (g := gb955) (o := .cells #[.int .i64 a0_0, .int .i64 a0_1, .slice A0_2 l0_2.length c0_2, .slice A0_3 l0_3.length c0_3] 98 (0, 0)) (by (with_reducible repeat (first | refine blk_drewN ?_ _ | refine blk_drew ?_ | refine blk_alloc ?_ _)); exact BK955.out) hb); have n1_ := Aside0.mk (below_step (by repeat (first | (with_reducible first | exact HB.out | apply below_alloc | apply pw_below_drewN | apply below_drew1 | refine below_set ?_ GE955.out) | exact HB.out)) hb); clear BK955; clear HB; have BK955 := n0_; have HB := n1_; clear n0_ n1_; (try clear hb); (try clear hb2); (try clear hk); (try clear hi))); try go_wp2_with (first | (go_at_call 126; (with_reducible refine (impl_SeaOk.calls k a0_0 a0_1 _ _ l0_2 _ _ l0_3 true _ ?side1 ?side2 ?side3 ?side4 A6.out).mono ?_); (case side1 => repeat (first | exact (Kd.C_below HR0_2.out HB.out) | (with_reducible refine Kd.C_alloc ?_ _) | (with_reducible refine Kd.C_drewN ?_ _) | (with_reducible refine Kd.C_drew ?_))); (case side2 => exact HC0_2.out); (case side3 => repeat (first | exact (Kd.C_below HR0_3.out HB.out) | (with_reducible refine Kd.C_alloc ?_ _) | (with_reducible refine Kd.C_drewN ?_ _) | (with_reducible refine Kd.C_drew ?_))); (case side4 => exact HC0_3.out); rintro e w31 ⟨rfl, hb⟩; have n0_ := Aside0.mk (blk_below (g := gb955) (o := .cells #[.int .i64 a0_0, .int .i64 a0_1, .slice A0_2 l0_2.length c0_2, .slice A0_3 l0_3.length c0_3] 98 (0, 0)) (by (with_reducible repeat (first | refine blk_drewN ?_ _ | refine blk_drew ?_ | refine blk_alloc ?_ _)); exact BK955.out) hb); have n1_ := Aside0.mk (below_step (by repeat (first | (with_reducible first | exact HB.out | apply below_alloc | apply pw_below_drewN | apply below_drew1 | refine below_set ?_ GE955.out) | exact HB.out)) hb); clear BK955; clear HB; have BK955 := n0_; have HB := n1_; clear n0_ n1_; (try clear hb); (try clear hb2); (try clear hk); (try clear hi); have hcz32_0 : w31.cell? ⟨gb955, 0, none⟩ = some (.int .i64 a0_0) := (blk_cell BK955.out 0).trans rfl; have hcz32_1 : w31.cell? ⟨gb955, 1, none⟩ = some (.int .i64 a0_1) := (blk_cell BK955.out 1).trans rfl; have hcz32_2 : w31.cell? ⟨gb955, 2, none⟩ = some (.slice A0_2 l0_2.length c0_2) := (blk_cell BK955.out 2).trans rfl; have hcz32_3 : w31.cell? ⟨gb955, 3, none⟩ = some (.slice A0_3 l0_3.length c0_3) := (blk_cell BK955.out 3).trans rfl; have hfz32_0 := blk_frozen BK955.out 0; have hfz32_1 := blk_frozen BK955.out 1; have hfz32_2 := blk_frozen BK955.out 2; have hfz32_3 := blk_frozen BK955.out 3) | (go_at_call 127; (with_reducible refine (impl_Sea_place.calls a0_0 a0_1 _ _ l0_2 _ _ l0_3 a1 false _ ?side1 ?side2 ?side3 ?side4 A8.out).mono ?_); (case side1 => repeat (first | exact (Kd.C_below HR0_2.out HB.out) | (with_reducible refine Kd.C_alloc ?_ _) | (with_reducible refine Kd.C_drewN ?_ _) | (with_reducible refine Kd.C_drew ?_))); (case side2 => exact HC0_2.out); (case side3 => repeat (first | exact (Kd.C_below HR0_3.out HB.out) | (with_reducible refine Kd.C_alloc ?_ _) | (with_reducible refine Kd.C_drewN ?_ _) | (with_reducible refine Kd.C_drew ?_))); (case side4 => exact HC0_3.out); rintro e w33 ⟨rfl, hb⟩; have n0_ := Aside0.mk (blk_below (g := gb955) (o := .cells #[.int .i64 a0_0, .int .i64 a0_1, .slice A0_2 l0_2.length c0_2, .slice A0_3 l0_3.length c0_3] 98 (0, 0)) (by (with_reducible repeat (first | refine blk_drewN ?_ _ | refine blk_drew ?_ | refine blk_alloc ?_ _)); exact BK955.out) hb); have n1_ := Aside0.mk (below_step (by repeat (first | (with_reducible first | exact HB.out | apply below_alloc | apply pw_below_drewN | apply below_drew1 | refine below_set ?_ GE955.out) | exact HB.out)) hb); clear BK955; clear HB; have BK955 := n0_; have HB := n1_; clear n0_ n1_; (try clear hb); (try clear hb2); (try clear hk); (try clear hi))))
    go_meet
    case rel => exact ⟨_, (true), (by first | rfl | (simp; done) | (simp [*]; done)), H', ⟨by first | omega | exact Nat.le_refl _⟩, ⟨by (with_reducible repeat (first | refine blk_drewN ?_ _ | refine blk_drew ?_ | refine blk_alloc ?_ _)); exact BK955.out⟩, ⟨by repeat (first | (with_reducible first | exact HB.out | apply below_alloc | apply pw_below_drewN | apply below_drew1 | refine below_set ?_ GE955.out) | exact HB.out)⟩⟩
  ·replace c7 := Bool.eq_false_iff.mpr c7
   subst c7
   rw [if_neg (show ¬ (false = true) by decide)] at H
   have H' := Aside0.mk H
   clear H
   have hcz34_0 : w5.cell? ⟨gb955, 0, none⟩ = some (.int .i64 a0_0) := (blk_cell BK955.out 0).trans rfl
   have hcz34_1 : w5.cell? ⟨gb955, 1, none⟩ = some (.int .i64 a0_1) := (blk_cell BK955.out 1).trans rfl
   have hcz34_2 : w5.cell? ⟨gb955, 2, none⟩ = some (.slice A0_2 l0_2.length c0_2) := (blk_cell BK955.out 2).trans rfl
   have hcz34_3 : w5.cell? ⟨gb955, 3, none⟩ = some (.slice A0_3 l0_3.length c0_3) := (blk_cell BK955.out 3).trans rfl
   have hfz34_0 := blk_frozen BK955.out 0
   have hfz34_1 := blk_frozen BK955.out 1
   have hfz34_2 := blk_frozen BK955.out 2
   have hfz34_3 := blk_frozen BK955.out 3
   go_wp2_with (first | (go_at_call 126; (with_reducible refine (impl_SeaOk.calls k a0_0 a0_1 _ _ l0_2 _ _ l0_3 false _ ?side1 ?side2 ?side3 ?side4 A6.out).mono ?_); (case side1 => repeat (first | exact (Kd.C_below HR0_2.out HB.out) | (with_reducible refine Kd.C_alloc ?_ _) | (with_reducible refine Kd.C_drewN ?_ _) | (with_reducible refine Kd.C_drew ?_))); (case side2 => exact HC0_2.out); (case side3 => repeat (first | exact (Kd.C_below HR0_3.out HB.out) | (with_reducible refine Kd.C_alloc ?_ _) | (with_reducible refine Kd.C_drewN ?_ _) | (with_reducible refine Kd.C_drew ?_))); (case side4 => exact HC0_3.out); rintro e w35 ⟨rfl, hb⟩; have n0_ := Aside0.mk (blk_below (g := gb955) (o := .cells #[.int .i64 a0_0, .int .i64 a0_1, .slice A0_2 l0_2.length c0_2, .slice A0_3 l0_3.length c0_3] 98 (0, 0)) (by (with_reducible repeat (first | refine blk_drewN ?_ _ | refine blk_drew ?_ | refine blk_alloc ?_ _)); exact BK955.out) hb); have n1_ := Aside0.mk (below_step (by repeat (first | (with_reducible first | exact HB.out | apply below_alloc | apply pw_below_drewN | apply below_drew1 | refine below_set ?_ GE955.out) | exact HB.out)) hb); clear BK955; clear HB; have BK955 := n0_; have HB := n1_; clear n0_ n1_; (try clear hb); (try clear hb2); (try clear hk); (try clear hi)))
   repeat (go_quiet (first | (go_at_call 126; (with_reducible refine (impl_SeaOk.calls k a0_0 a0_1 _ _ l0_2 _ _ l0_3 false _ ?side1 ?side2 ?side3 ?side4 A6.out).mono ?_); (case side1 => repeat (first | exact (Kd.C_below HR0_2.out HB.out) | (with_reducible refine Kd.C_alloc ?_ _) | (with_reducible refine Kd.C_drewN ?_ _) | (with_reducible refine Kd.C_drew ?_))); (case side2 => exact HC0_2.out); (case side3 => repeat (first | exact (Kd.C_below HR0_3.out HB.out) | (with_reducible refine Kd.C_alloc ?_ _) | (with_reducible refine Kd.C_drewN ?_ _) | (with_reducible refine Kd.C_drew ?_))); (case side4 => exact HC0_3.out); rintro e w35 ⟨rfl, hb⟩; have n0_ := Aside0.mk (blk_below (g := gb955) (o := .cells #[.int .i64 a0_0, .int .i64 a0_1, .slice A0_2 l0_2.length c0_2, .slice A0_3 l0_3.length c0_3] 98 (0, 0)) (by (with_reducible repeat (first | refine blk_drewN ?_ _ | refine blk_drew ?_ | refine blk_alloc ?_ _)); exact BK955.out) hb); have n1_ := Aside0.mk (below_step (by repeat (first | (with_reducible first | exact HB.out | apply below_alloc | apply pw_below_drewN | apply below_drew1 | refine below_set ?_ GE955.out) | exact HB.out)) hb); clear BK955; clear HB; have BK955 := n0_; have HB := n1_; clear n0_ n1_; (try clear hb); (try clear hb2); (try clear hk); (try clear hi))); try go_wp2_with (first | (go_at_call 126; (with_reducible refine (impl_SeaOk.calls k a0_0 a0_1 _ _ l0_2 _ _ l0_3 false _ ?side1 ?side2 ?side3 ?side4 A6.out).mono ?_); (case side1 => repeat (first | exact (Kd.C_below HR0_2.out HB.out) | (with_reducible refine Kd.C_alloc ?_ _) | (with_reducible refine Kd.C_drewN ?_ _) | (with_reducible refine Kd.C_drew ?_))); (case side2 => exact HC0_2.out); (case side3 => repeat (first | exact (Kd.C_below HR0_3.out HB.out) | (with_reducible refine Kd.C_alloc ?_ _) | (with_reducible refine Kd.C_drewN ?_ _) | (with_reducible refine Kd.C_drew ?_))); (case side4 => exact HC0_3.out); rintro e w35 ⟨rfl, hb⟩; have n0_ := Aside0.mk (blk_below (g := gb955) (o := .cells #[.int .i64 a0_0, .int .i64 a0_1, .slice A0_2 l0_2.length c0_2, .slice A0_3 l0_3.length c0_3] 98 (0, 0)) (by (with_reducible repeat (first | refine blk_drewN ?_ _ | refine blk_drew ?_ | refine blk_alloc ?_ _)); exact BK955.out) hb); have n1_ := Aside0.mk (below_step (by repeat (first | (with_reducible first | exact HB.out | apply below_alloc | apply pw_below_drewN | apply below_drew1 | refine below_set ?_ GE955.out) | exact HB.out)) hb); clear BK955; clear HB; have BK955 := n0_; have HB := n1_; clear n0_ n1_; (try clear hb); (try clear hb2); (try clear hk); (try clear hi))))
   go_meet
   case rel => exact ⟨_, (true), (by first | rfl | (simp; done) | (simp [*]; done)), H', ⟨by first | omega | exact Nat.le_refl _⟩, ⟨by (with_reducible repeat (first | refine blk_drewN ?_ _ | refine blk_drew ?_ | refine blk_alloc ?_ _)); exact BK955.out⟩, ⟨by repeat (first | (with_reducible first | exact HB.out | apply below_alloc | apply pw_below_drewN | apply below_drew1 | refine below_set ?_ GE955.out) | exact HB.out)⟩⟩
 case rest =>
  clear HC4
  (try clear c1); (try clear c2); (try clear p2); (try clear c6); (try clear c7); (try clear c9); (try clear p9); (try clear q9); (try clear hx9); (try clear c10); (try clear c10b0); (try clear c11); (try clear c11b0); (try clear c12); (try clear c12b0); (try clear c12b1); (try clear c18); (try clear c18b0); (try clear c18b1); (try clear c18b2); (try clear c19); (try clear c19b0); (try clear hcz13_0); (try clear hcz13_1); (try clear hcz13_2); (try clear hcz13_3); (try clear hcz15_0); (try clear hcz15_1); (try clear hcz15_2); (try clear hcz15_3); (try clear hcz17_0); (try clear hcz17_1); (try clear hcz17_2); (try clear hcz17_3); (try clear hcz20_0); (try clear hcz20_1); (try clear hcz20_2); (try clear hcz20_3); (try clear hcz22_0); (try clear hcz22_1); (try clear hcz22_2); (try clear hcz22_3); (try clear hcz24_0); (try clear hcz24_1); (try clear hcz24_2); (try clear hcz24_3); (try clear hcz25_0); (try clear hcz25_1); (try clear hcz25_2); (try clear hcz25_3); (try clear hcz27_0); (try clear hcz27_1); (try clear hcz27_2); (try clear hcz27_3); (try clear hcz29_0); (try clear hcz29_1); (try clear hcz29_2); (try clear hcz29_3); (try clear hcz30_0); (try clear hcz30_1); (try clear hcz30_2); (try clear hcz30_3); (try clear hcz32_0); (try clear hcz32_1); (try clear hcz32_2); (try clear hcz32_3); (try clear hcz34_0); (try clear hcz34_1); (try clear hcz34_2); (try clear hcz34_3); (try clear hfz13_0); (try clear hfz13_1); (try clear hfz13_2); (try clear hfz13_3); (try clear hfz15_0); (try clear hfz15_1); (try clear hfz15_2); (try clear hfz15_3); (try clear hfz17_0); (try clear hfz17_1); (try clear hfz17_2); (try clear hfz17_3); (try clear hfz20_0); (try clear hfz20_1); (try clear hfz20_2); (try clear hfz20_3); (try clear hfz22_0); (try clear hfz22_1); (try clear hfz22_2); (try clear hfz22_3); (try clear hfz24_0); (try clear hfz24_1); (try clear hfz24_2); (try clear hfz24_3); (try clear hfz25_0); (try clear hfz25_1); (try clear hfz25_2); (try clear hfz25_3); (try clear hfz27_0); (try clear hfz27_1); (try clear hfz27_2); (try clear hfz27_3); (try clear hfz29_0); (try clear hfz29_1); (try clear hfz29_2); (try clear hfz29_3); (try clear hfz30_0); (try clear hfz30_1); (try clear hfz30_2); (try clear hfz30_3); (try clear hfz32_0); (try clear hfz32_1); (try clear hfz32_2); (try clear hfz32_3); (try clear hfz34_0); (try clear hfz34_1); (try clear hfz34_2); (try clear hfz34_3); (try clear hx958_0); (try clear hx959_0); (try clear p958); (try clear p959); (try clear q958); (try clear q959)
  obtain ⟨kq, x44_3, rfl, HA, HJ3, BK955, HB⟩ := hcut
  cases kq with
  | zero => exact absurd HA.out (by simp [impl_Proves.j0])
  | succ kj3 =>
   have H := HA.out
   clear HA
   simp only [impl_Proves.j0] at H
   by_cases c36 : x44_3 = true
   ·subst c36
    rw [if_pos rfl] at H
    obtain rfl := Option.some.inj H
    go_wp2
    repeat (go_quiet (fail); try go_wp2)
    go_ret
    exact ⟨by first | rfl | (simp [errW_none, errW_some] <;> rfl) | (simp [*, errW_none, errW_some] <;> rfl), by repeat (first | (with_reducible first | exact HB.out | apply below_alloc | apply pw_below_drewN | apply below_drew1 | refine below_set ?_ GE955.out) | exact HB.out)⟩
   ·replace c36 := Bool.eq_false_iff.mpr c36
    subst c36
    rw [if_neg (show ¬ (false = true) by decide)] at H
    have H' := Aside0.mk H
    clear H
    go_wp2
    repeat (go_quiet (fail); try go_wp2)
    go_loopg [47] kj3 (fun kq v47 w' => ∃ (x47_2 : Int), v47 = .int .i64 x47_2 ∧ Aside0 (impl_Proves.l0 kq a1 l2 l2 (l2.length : Int) x47_2 a0_0 a0_1 l0_2 l0_3 = some r) ∧ Aside0 (kq ≤ kj3) ∧ Aside0 (w'.heap[gb955]? = some (.cells #[.int .i64 a0_0, .int .i64 a0_1, (.slice A0_2 l0_2.length c0_2), (.slice A0_3 l0_3.length c0_3)] 98 (0, 0))) ∧ Aside0 (Below w.heap.size w w'))
    case atStart => exact ⟨(0), (by first | rfl | (simp; done) | (simp [*]; done)), H', ⟨Nat.le_refl _⟩, ⟨by (with_reducible repeat (first | refine blk_drewN ?_ _ | refine blk_drew ?_ | refine blk_alloc ?_ _)); exact BK955.out⟩, ⟨by repeat (first | (with_reducible first | exact HB.out | apply below_alloc | apply pw_below_drewN | apply below_drew1 | refine below_set ?_ GE955.out) | exact HB.out)⟩⟩
    case round =>
     clear H'
     (try clear c1); (try clear c2); (try clear p2); (try clear c3); (try clear c6); (try clear c7); (try clear c9); (try clear p9); (try clear q9); (try clear hx9); (try clear c10); (try clear c10b0); (try clear c11); (try clear c11b0); (try clear c12); (try clear c12b0); (try clear c12b1); (try clear c18); (try clear c18b0); (try clear c18b1); (try clear c18b2); (try clear c19); (try clear c19b0); (try clear c36); (try clear hcz13_0); (try clear hcz13_1); (try clear hcz13_2); (try clear hcz13_3); (try clear hcz15_0); (try clear hcz15_1); (try clear hcz15_2); (try clear hcz15_3); (try clear hcz17_0); (try clear hcz17_1); (try clear hcz17_2); (try clear hcz17_3); (try clear hcz20_0); (try clear hcz20_1); (try clear hcz20_2); (try clear hcz20_3); (try clear hcz22_0); (try clear hcz22_1); (try clear hcz22_2); (try clear hcz22_3); (try clear hcz24_0); (try clear hcz24_1); (try clear hcz24_2); (try clear hcz24_3); (try clear hcz25_0); (try clear hcz25_1); (try clear hcz25_2); (try clear hcz25_3); (try clear hcz27_0); (try clear hcz27_1); (try clear hcz27_2); (try clear hcz27_3); (try clear hcz29_0); (try clear hcz29_1); (try clear hcz29_2); (try clear hcz29_3); (try clear hcz30_0); (try clear hcz30_1); (try clear hcz30_2); (try clear hcz30_3); (try clear hcz32_0); (try clear hcz32_1); (try clear hcz32_2); (try clear hcz32_3); (try clear hcz34_0); (try clear hcz34_1); (try clear hcz34_2); (try clear hcz34_3); (try clear hfz13_0); (try clear hfz13_1); (try clear hfz13_2); (try clear hfz13_3); (try clear hfz15_0); (try clear hfz15_1); (try clear hfz15_2); (try clear hfz15_3); (try clear hfz17_0); (try clear hfz17_1); (try clear hfz17_2); (try clear hfz17_3); (try clear hfz20_0); (try clear hfz20_1); (try clear hfz20_2); (try clear hfz20_3); (try clear hfz22_0); (try clear hfz22_1); (try clear hfz22_2); (try clear hfz22_3); (try clear hfz24_0); (try clear hfz24_1); (try clear hfz24_2); (try clear hfz24_3); (try clear hfz25_0); (try clear hfz25_1); (try clear hfz25_2); (try clear hfz25_3); (try clear hfz27_0); (try clear hfz27_1); (try clear hfz27_2); (try clear hfz27_3); (try clear hfz29_0); (try clear hfz29_1); (try clear hfz29_2); (try clear hfz29_3); (try clear hfz30_0); (try clear hfz30_1); (try clear hfz30_2); (try clear hfz30_3); (try clear hfz32_0); (try clear hfz32_1); (try clear hfz32_2); (try clear hfz32_3); (try clear hfz34_0); (try clear hfz34_1); (try clear hfz34_2); (try clear hfz34_3); (try clear hx958_0); (try clear hx959_0); (try clear p2); (try clear p9); (try clear p958); (try clear p959); (try clear q9); (try clear q958); (try clear q959)
     obtain ⟨x47_2, rfl, HA, HK2, BK955, HB⟩ := hrel
     cases gk with
     | zero => exact absurd HA.out (by simp [impl_Proves.l0])
     | succ k2 =>
      have H := HA.out
      clear HA
      simp only [impl_Proves.l0] at H
      by_cases c37 : x47_2 < (l2.length : Int)
      ·rw [if_pos c37] at H
       have c37b0 : decide (x47_2 < (l2.length : Int)) = true := decide_eq_true c37
       clear c37
       by_cases c38 : 0 ≤ x47_2
       ·rw [if_pos c38] at H
        have c38b0 : decide (0 ≤ x47_2) = true := decide_eq_true c38
        clear c38
        by_cases c39 : x47_2 < (l2.length : Int)
        ·rw [if_pos c39] at H
         have c39b0 : decide (x47_2 < (l2.length : Int)) = true := decide_eq_true c39
         clear c39
         have HC40 := Aside0.mk H
         clear H
         have p960 : 0 ≤ (x47_2 : Int) := of_decide_eq_true (by first | (with_reducible assumption) | assumption)
         have q960 : x47_2 < (l2.length : Int) := of_decide_eq_true (by first | (with_reducible assumption) | assumption)
         obtain ⟨ad960, e960, hx960_0⟩ := Kd.at_int HR2.out x47_2 p960 q960
         cases e960
         replace hx960_0 := (HB.out.cell (World.block_lt_of_cell? w _ hx960_0)).trans hx960_0
         replace p960 := eq_true p960
         replace q960 := eq_true q960
         go_upto_region 6 with (fail)
         repeat (go_quiet (fail); go_upto_region 6 with (fail))
         go_cut [65] (fun v65 wc => ∃ (kq : Nat) (x65_39 : Bool), v65 = .bool x65_39 ∧ Aside0 (impl_Proves.j2 kq a1 l2 x47_2 (rd l2 x47_2) l2 (l2.length : Int) x47_2 x65_39 a0_0 a0_1 l0_2 l0_3 = some r) ∧ Aside0 (kq ≤ k2) ∧ Aside0 (wc.heap[gb955]? = some (.cells #[.int .i64 a0_0, .int .i64 a0_1, (.slice A0_2 l0_2.length c0_2), (.slice A0_3 l0_3.length c0_3)] 98 (0, 0))) ∧ Aside0 (Below w.heap.size w wc))
         case first =>
          have H := HC40.out
          clear HC40
          by_cases c41 : (rd l2 x47_2) < (-1)
          ·rw [if_pos c41] at H
           have c41b0 : decide ((rd l2 x47_2) < (-1)) = true := decide_eq_true c41
           clear c41
           (first | rw [c41b0] | (simp only [i64_w, i32_w]; rw [c41b0]) | skip)
           have H' := Aside0.mk H
           clear H
           go_wp2
           repeat (go_quiet (fail); try go_wp2)
           go_meet
           case rel => exact ⟨_, (true), (by first | rfl | (simp; done) | (simp [*]; done)), H', ⟨by have := HJ3.out; have := HK2.out; first | omega | exact Nat.le_refl _⟩, ⟨by (with_reducible repeat (first | refine blk_drewN ?_ _ | refine blk_drew ?_ | refine blk_alloc ?_ _)); exact BK955.out⟩, ⟨by repeat (first | (with_reducible first | exact HB.out | apply below_alloc | apply pw_below_drewN | apply below_drew1 | refine below_set ?_ GE955.out) | exact HB.out)⟩⟩
          ·rw [if_neg c41] at H
           have c41b0 : decide ((rd l2 x47_2) < (-1)) = false := decide_eq_false c41
           clear c41
           (first | rw [c41b0] | (simp only [i64_w, i32_w]; rw [c41b0]) | skip)
           by_cases c42 : x47_2 < (l0_2.length : Int)
           ·rw [if_pos c42] at H
            have c42b0 : decide (x47_2 < (l0_2.length : Int)) = true := decide_eq_true c42
            clear c42
            by_cases c43 : (rd l0_2 x47_2) = 0
            ·rw [if_pos c43] at H
             have c43b0 : ((rd l0_2 x47_2) == 0) = true := beq_iff_eq.mpr c43
             have c43b1 : ((rd l0_2 x47_2) != 0) = false := bne_eq_false_iff_eq.mpr c43
             clear c43
             have H' := Aside0.mk H
             clear H
             have hcz44_0 : wr.cell? ⟨gb955, 0, none⟩ = some (.int .i64 a0_0) := (blk_cell BK955.out 0).trans rfl
             have hcz44_1 : wr.cell? ⟨gb955, 1, none⟩ = some (.int .i64 a0_1) := (blk_cell BK955.out 1).trans rfl
             have hcz44_2 : wr.cell? ⟨gb955, 2, none⟩ = some (.slice A0_2 l0_2.length c0_2) := (blk_cell BK955.out 2).trans rfl
             have hcz44_3 : wr.cell? ⟨gb955, 3, none⟩ = some (.slice A0_3 l0_3.length c0_3) := (blk_cell BK955.out 3).trans rfl
             have hfz44_0 := blk_frozen BK955.out 0
             have hfz44_1 := blk_frozen BK955.out 1
             have hfz44_2 := blk_frozen BK955.out 2
             have hfz44_3 := blk_frozen BK955.out 3
             have p961 : 0 ≤ (x47_2 : Int) := of_decide_eq_true (by first | (with_reducible assumption) | assumption)
             have q961 : x47_2 < (l0_2.length : Int) := of_decide_eq_true (by first | (with_reducible assumption) | assumption)
             obtain ⟨ad961, e961, hx961_0⟩ := Kd.at_int HR0_2.out x47_2 p961 q961
             cases e961
             replace hx961_0 := (HB.out.cell (World.block_lt_of_cell? w _ hx961_0)).trans hx961_0
             replace p961 := eq_true p961
             replace q961 := eq_true q961
             go_wp2
             repeat (go_quiet (fail); try go_wp2)
             go_meet
             case rel => exact ⟨_, (((rd l2 x47_2) != (-1))), (by first | rfl | (simp; done) | (simp [*]; done)), H', ⟨by have := HJ3.out; have := HK2.out; first | omega | exact Nat.le_refl _⟩, ⟨by (with_reducible repeat (first | refine blk_drewN ?_ _ | refine blk_drew ?_ | refine blk_alloc ?_ _)); exact BK955.out⟩, ⟨by repeat (first | (with_reducible first | exact HB.out | apply below_alloc | apply pw_below_drewN | apply below_drew1 | refine below_set ?_ GE955.out) | exact HB.out)⟩⟩
            ·rw [if_neg c43] at H
             have c43b0 : ((rd l0_2 x47_2) == 0) = false := beq_eq_false_iff_ne.mpr c43
             have c43b1 : ((rd l0_2 x47_2) != 0) = true := bne_iff_ne.mpr c43
             have H' := Aside0.mk H
             clear H
             have hcz45_0 : wr.cell? ⟨gb955, 0, none⟩ = some (.int .i64 a0_0) := (blk_cell BK955.out 0).trans rfl
             have hcz45_1 : wr.cell? ⟨gb955, 1, none⟩ = some (.int .i64 a0_1) := (blk_cell BK955.out 1).trans rfl
             have hcz45_2 : wr.cell? ⟨gb955, 2, none⟩ = some (.slice A0_2 l0_2.length c0_2) := (blk_cell BK955.out 2).trans rfl
             have hcz45_3 : wr.cell? ⟨gb955, 3, none⟩ = some (.slice A0_3 l0_3.length c0_3) := (blk_cell BK955.out 3).trans rfl
             have hfz45_0 := blk_frozen BK955.out 0
             have hfz45_1 := blk_frozen BK955.out 1
             have hfz45_2 := blk_frozen BK955.out 2
             have hfz45_3 := blk_frozen BK955.out 3
             have p961 : 0 ≤ (x47_2 : Int) := of_decide_eq_true (by first | (with_reducible assumption) | assumption)
             have q961 : x47_2 < (l0_2.length : Int) := of_decide_eq_true (by first | (with_reducible assumption) | assumption)
             obtain ⟨ad961, e961, hx961_0⟩ := Kd.at_int HR0_2.out x47_2 p961 q961
             cases e961
             replace hx961_0 := (HB.out.cell (World.block_lt_of_cell? w _ hx961_0)).trans hx961_0
             replace p961 := eq_true p961
             replace q961 := eq_true q961
             go_wp2
             repeat (go_quiet (fail); try go_wp2)
             go_meet
             case rel => exact ⟨_, (false), (by first | rfl | (simp; done) | (simp [*]; done)), H', ⟨by have := HJ3.out; have := HK2.out; first | omega | exact Nat.le_refl _⟩, ⟨by (with_reducible repeat (first | refine blk_drewN ?_ _ | refine blk_drew ?_ | refine blk_alloc ?_ _)); exact BK955.out⟩, ⟨by repeat (first | (with_reducible first | exact HB.out | apply below_alloc | apply pw_below_drewN | apply below_drew1 | refine below_set ?_ GE955.out) | exact HB.out)⟩⟩
           ·rw [if_neg c42] at H
            exact absurd H (by simp)
         case rest =>
          clear HC40
          (try clear c1); (try clear c2); (try clear p2); (try clear c3); (try clear c4); (try clear c6); (try clear c7); (try clear c9); (try clear p9); (try clear q9); (try clear hx9); (try clear c10); (try clear c10b0); (try clear c11); (try clear c11b0); (try clear c12); (try clear c12b0); (try clear c12b1); (try clear c18); (try clear c18b0); (try clear c18b1); (try clear c18b2); (try clear c19); (try clear c19b0); (try clear c36); (try clear c37); (try clear c37b0); (try clear c38); (try clear c38b0); (try clear c39); (try clear c39b0); (try clear c41); (try clear c41b0); (try clear c42); (try clear c42b0); (try clear c43); (try clear c43b0); (try clear c43b1); (try clear hcz13_0); (try clear hcz13_1); (try clear hcz13_2); (try clear hcz13_3); (try clear hcz15_0); (try clear hcz15_1); (try clear hcz15_2); (try clear hcz15_3); (try clear hcz17_0); (try clear hcz17_1); (try clear hcz17_2); (try clear hcz17_3); (try clear hcz20_0); (try clear hcz20_1); (try clear hcz20_2); (try clear hcz20_3); (try clear hcz22_0); (try clear hcz22_1); (try clear hcz22_2); (try clear hcz22_3); (try clear hcz24_0); (try clear hcz24_1); (try clear hcz24_2); (try clear hcz24_3); (try clear hcz25_0); (try clear hcz25_1); (try clear hcz25_2); (try clear hcz25_3); (try clear hcz27_0); (try clear hcz27_1); (try clear hcz27_2); (try clear hcz27_3); (try clear hcz29_0); (try clear hcz29_1); (try clear hcz29_2); (try clear hcz29_3); (try clear hcz30_0); (try clear hcz30_1); (try clear hcz30_2); (try clear hcz30_3); (try clear hcz32_0); (try clear hcz32_1); (try clear hcz32_2); (try clear hcz32_3); (try clear hcz34_0); (try clear hcz34_1); (try clear hcz34_2); (try clear hcz34_3); (try clear hcz44_0); (try clear hcz44_1); (try clear hcz44_2); (try clear hcz44_3); (try clear hcz45_0); (try clear hcz45_1); (try clear hcz45_2); (try clear hcz45_3); (try clear hfz13_0); (try clear hfz13_1); (try clear hfz13_2); (try clear hfz13_3); (try clear hfz15_0); (try clear hfz15_1); (try clear hfz15_2); (try clear hfz15_3); (try clear hfz17_0); (try clear hfz17_1); (try clear hfz17_2); (try clear hfz17_3); (try clear hfz20_0); (try clear hfz20_1); (try clear hfz20_2); (try clear hfz20_3); (try clear hfz22_0); (try clear hfz22_1); (try clear hfz22_2); (try clear hfz22_3); (try clear hfz24_0); (try clear hfz24_1); (try clear hfz24_2); (try clear hfz24_3); (try clear hfz25_0); (try clear hfz25_1); (try clear hfz25_2); (try clear hfz25_3); (try clear hfz27_0); (try clear hfz27_1); (try clear hfz27_2); (try clear hfz27_3); (try clear hfz29_0); (try clear hfz29_1); (try clear hfz29_2); (try clear hfz29_3); (try clear hfz30_0); (try clear hfz30_1); (try clear hfz30_2); (try clear hfz30_3); (try clear hfz32_0); (try clear hfz32_1); (try clear hfz32_2); (try clear hfz32_3); (try clear hfz34_0); (try clear hfz34_1); (try clear hfz34_2); (try clear hfz34_3); (try clear hfz44_0); (try clear hfz44_1); (try clear hfz44_2); (try clear hfz44_3); (try clear hfz45_0); (try clear hfz45_1); (try clear hfz45_2); (try clear hfz45_3); (try clear hx958_0); (try clear hx959_0); (try clear hx960_0); (try clear hx961_0); (try clear p2); (try clear p9); (try clear p958); (try clear p959); (try clear p960); (try clear p961); (try clear q9); (try clear q958); (try clear q959); (try clear q960); (try clear q961)
          obtain ⟨kq, x65_39, rfl, HA, HJ39, BK955, HB⟩ := hcut
          cases kq with
          | zero => exact absurd HA.out (by simp [impl_Proves.j2])
          | succ kj39 =>
           have H := HA.out
           clear HA
           simp only [impl_Proves.j2] at H
           by_cases c46 : x65_39 = true
           ·subst c46
            rw [if_pos rfl] at H
            obtain rfl := Option.some.inj H
            go_wp2
            repeat (go_quiet (fail); try go_wp2)
            go_ret
            exact ⟨by first | rfl | (simp [errW_none, errW_some] <;> rfl) | (simp [*, errW_none, errW_some] <;> rfl), by repeat (first | (with_reducible first | exact HB.out | apply below_alloc | apply pw_below_drewN | apply below_drew1 | refine below_set ?_ GE955.out) | exact HB.out)⟩
           ·replace c46 := Bool.eq_false_iff.mpr c46
            subst c46
            rw [if_neg (show ¬ (false = true) by decide)] at H
            by_cases c47 : (rd l2 x47_2) < 0
            ·rw [if_pos c47] at H
             have c47b0 : decide ((rd l2 x47_2) < 0) = true := decide_eq_true c47
             clear c47
             have H' := Aside0.mk H
             clear H
             go_wp2
             repeat (go_quiet (fail); try go_wp2)
             go_roundg kj39
             case measure => have := HJ3.out; have := HK2.out; have := HJ39.out; omega
             case rel => exact ⟨(wrap64 (x47_2 + 1)), (by first | rfl | (simp; done) | (simp [*]; done)), H', ⟨by have := HJ3.out; have := HK2.out; have := HJ39.out; omega⟩, ⟨by (with_reducible repeat (first | refine blk_drewN ?_ _ | refine blk_drew ?_ | refine blk_alloc ?_ _)); exact BK955.out⟩, ⟨by repeat (first | (with_reducible first | exact HB.out | apply below_alloc | apply pw_below_drewN | apply below_drew1 | refine below_set ?_ GE955.out) | exact HB.out)⟩⟩
            ·rw [if_neg c47] at H
             have c47b0 : decide ((rd l2 x47_2) < 0) = false := decide_eq_false c47
             clear c47
             replace H := Option.bind_eq_some_iff.mp H
             obtain ⟨t962, A480, H⟩ := H
             (try dsimp only at H)
             have A48 := Aside0.mk A480
             clear A480
             have H' := Aside0.mk H
             clear H
             have hcz49_0 : wc.cell? ⟨gb955, 0, none⟩ = some (.int .i64 a0_0) := (blk_cell BK955.out 0).trans rfl
             have hcz49_1 : wc.cell? ⟨gb955, 1, none⟩ = some (.int .i64 a0_1) := (blk_cell BK955.out 1).trans rfl
             have hcz49_2 : wc.cell? ⟨gb955, 2, none⟩ = some (.slice A0_2 l0_2.length c0_2) := (blk_cell BK955.out 2).trans rfl
             have hcz49_3 : wc.cell? ⟨gb955, 3, none⟩ = some (.slice A0_3 l0_3.length c0_3) := (blk_cell BK955.out 3).trans rfl
             have hfz49_0 := blk_frozen BK955.out 0
             have hfz49_1 := blk_frozen BK955.out 1
             have hfz49_2 := blk_frozen BK955.out 2
             have hfz49_3 := blk_frozen BK955.out 3
             go_wp2_with (first | (go_at_call 128; (with_reducible refine (impl_Sea_next.calls kj39 a0_0 a0_1 _ _ l0_2 _ _ l0_3 x47_2 t962 _ ?side1 ?side2 ?side3 ?side4 A48.out).mono ?_); (case side1 => repeat (first | exact (Kd.C_below HR0_2.out HB.out) | (with_reducible refine Kd.C_alloc ?_ _) | (with_reducible refine Kd.C_drewN ?_ _) | (with_reducible refine Kd.C_drew ?_))); (case side2 => exact HC0_2.out); (case side3 => repeat (first | exact (Kd.C_below HR0_3.out HB.out) | (with_reducible refine Kd.C_alloc ?_ _) | (with_reducible refine Kd.C_drewN ?_ _) | (with_reducible refine Kd.C_drew ?_))); (case side4 => exact HC0_3.out); rintro e w50 ⟨v963, rfl, ho0, hb⟩; have n0_ := Aside0.mk (Kd.R_lower ho0 (below_size (by repeat (first | (with_reducible first | exact HB.out | apply below_alloc | apply pw_below_drewN | apply below_drew1 | refine below_set ?_ GE955.out) | exact HB.out)))); have n1_ := Aside0.mk (blk_below (g := gb955) (o := .cells #[.int .i64 a0_0, .int .i64 a0_1, .slice A0_2 l0_2.length c0_2, .slice A0_3 l0_3.length c0_3] 98 (0, 0)) (by (with_reducible repeat (first | refine blk_drewN ?_ _ | refine blk_drew ?_ | refine blk_alloc ?_ _)); exact BK955.out) hb); have n2_ := Aside0.mk (below_step (by repeat (first | (with_reducible first | exact HB.out | apply below_alloc | apply pw_below_drewN | apply below_drew1 | refine below_set ?_ GE955.out) | exact HB.out)) hb); clear BK955; clear HB; have HO964 := n0_; have BK955 := n1_; have HB := n2_; clear n0_ n1_ n2_; (try clear hb); (try clear hb2); (try clear hk); (try clear hi); (try clear ho0); obtain ⟨Ao51, co51, eo51⟩ := Kd.R_slice HO964.out; subst eo51))
             repeat (go_quiet (first | (go_at_call 128; (with_reducible refine (impl_Sea_next.calls kj39 a0_0 a0_1 _ _ l0_2 _ _ l0_3 x47_2 t962 _ ?side1 ?side2 ?side3 ?side4 A48.out).mono ?_); (case side1 => repeat (first | exact (Kd.C_below HR0_2.out HB.out) | (with_reducible refine Kd.C_alloc ?_ _) | (with_reducible refine Kd.C_drewN ?_ _) | (with_reducible refine Kd.C_drew ?_))); (case side2 => exact HC0_2.out); (case side3 => repeat (first | exact (Kd.C_below HR0_3.out HB.out) | (with_reducible refine Kd.C_alloc ?_ _) | (with_reducible refine Kd.C_drewN ?_ _) | (with_reducible refine Kd.C_drew ?_))); (case side4 => exact HC0_3.out); rintro e w50 ⟨v963, rfl, ho0, hb⟩; have n0_ := Aside0.mk (Kd.R_lower ho0 (below_size (by repeat (first | (with_reducible first | exact HB.out | apply below_alloc | apply pw_below_drewN | apply below_drew1 | refine below_set ?_ GE955.out) | exact HB.out)))); have n1_ := Aside0.mk (blk_below (g := gb955) (o := .cells #[.int .i64 a0_0, .int .i64 a0_1, .slice A0_2 l0_2.length c0_2, .slice A0_3 l0_3.length c0_3] 98 (0, 0)) (by (with_reducible repeat (first | refine blk_drewN ?_ _ | refine blk_drew ?_ | refine blk_alloc ?_ _)); exact BK955.out) hb); have n2_ := Aside0.mk (below_step (by repeat (first | (with_reducible first | exact HB.out | apply below_alloc | apply pw_below_drewN | apply below_drew1 | refine below_set ?_ GE955.out) | exact HB.out)) hb); clear BK955; clear HB; have HO964 := n0_; have BK955 := n1_; have HB := n2_; clear n0_ n1_ n2_; (try clear hb); (try clear hb2); (try clear hk); (try clear hi); (try clear ho0); obtain ⟨Ao51, co51, eo51⟩ := Kd.R_slice HO964.out; subst eo51)); try go_wp2_with (first | (go_at_call 128; (with_reducible refine (impl_Sea_next.calls kj39 a0_0 a0_1 _ _ l0_2 _ _ l0_3 x47_2 t962 _ ?side1 ?side2 ?side3 ?side4 A48.out).mono ?_); (case side1 => repeat (first | exact (Kd.C_below HR0_2.out HB.out) | (with_reducible refine Kd.C_alloc ?_ _) | (with_reducible refine Kd.C_drewN ?_ _) | (with_reducible refine Kd.C_drew ?_))); (case side2 => exact HC0_2.out); (case side3 => repeat (first | exact (Kd.C_below HR0_3.out HB.out) | (with_reducible refine Kd.C_alloc ?_ _) | (with_reducible refine Kd.C_drewN ?_ _) | (with_reducible refine Kd.C_drew ?_))); (case side4 => exact HC0_3.out); rintro e w50 ⟨v963, rfl, ho0, hb⟩; have n0_ := Aside0.mk (Kd.R_lower ho0 (below_size (by repeat (first | (with_reducible first | exact HB.out | apply below_alloc | apply pw_below_drewN | apply below_drew1 | refine below_set ?_ GE955.out) | exact HB.out)))); have n1_ := Aside0.mk (blk_below (g := gb955) (o := .cells #[.int .i64 a0_0, .int .i64 a0_1, .slice A0_2 l0_2.length c0_2, .slice A0_3 l0_3.length c0_3] 98 (0, 0)) (by (with_reducible repeat (first | refine blk_drewN ?_ _ | refine blk_drew ?_ | refine blk_alloc ?_ _)); exact BK955.out) hb); have n2_ := Aside0.mk (below_step (by repeat (first | (with_reducible first | exact HB.out | apply below_alloc | apply pw_below_drewN | apply below_drew1 | refine below_set ?_ GE955.out) | exact HB.out)) hb); clear BK955; clear HB; have HO964 := n0_; have BK955 := n1_; have HB := n2_; clear n0_ n1_ n2_; (try clear hb); (try clear hb2); (try clear hk); (try clear hi); (try clear ho0); obtain ⟨Ao51, co51, eo51⟩ := Kd.R_slice HO964.out; subst eo51)))
             go_loopg [9, 75] kj39 (fun kq v9 v75 w' => ∃ (x9_4 : Bool) (x75_4 : Int), v9 = .bool x9_4 ∧ v75 = .int .i64 x75_4 ∧ Aside0 (impl_Proves.l1 kq a1 l2 x47_2 (rd l2 x47_2) x9_4 l2 (l2.length : Int) x47_2 t962 (t962.length : Int) x75_4 a0_0 a0_1 l0_2 l0_3 = some r) ∧ Aside0 (kq ≤ kj39) ∧ Aside0 (Kd.R (Kd.int .i64) 3 w' w.heap.size (fun _ => True) (.slice Ao51 t962.length co51) t962) ∧ Aside0 (w'.heap[gb955]? = some (.cells #[.int .i64 a0_0, .int .i64 a0_1, (.slice A0_2 l0_2.length c0_2), (.slice A0_3 l0_3.length c0_3)] 98 (0, 0))) ∧ Aside0 (Below w.heap.size w w'))
             case atStart => exact ⟨((x47_2 == a1)), (0), (by first | rfl | (simp; done) | (simp [*]; done)), (by first | rfl | (simp; done) | (simp [*]; done)), H', ⟨Nat.le_refl _⟩, ⟨by (with_reducible repeat (first | apply Kd.R_alloc | apply Kd.R_drewN | apply Kd.R_drew)); exact HO964.out⟩, ⟨by (with_reducible repeat (first | refine blk_drewN ?_ _ | refine blk_drew ?_ | refine blk_alloc ?_ _)); exact BK955.out⟩, ⟨by repeat (first | (with_reducible first | exact HB.out | apply below_alloc | apply pw_below_drewN | apply below_drew1 | refine below_set ?_ GE955.out) | exact HB.out)⟩⟩
             case round =>
              clear H'
              (try clear c1); (try clear c2); (try clear p2); (try clear c3); (try clear c4); (try clear c6); (try clear p6); (try clear c7); (try clear c9); (try clear p9); (try clear q9); (try clear hx9); (try clear c10); (try clear c10b0); (try clear c11); (try clear c11b0); (try clear c12); (try clear c12b0); (try clear c12b1); (try clear c18); (try clear c18b0); (try clear c18b1); (try clear c18b2); (try clear c19); (try clear c19b0); (try clear c36); (try clear c37); (try clear c37b0); (try clear c38); (try clear c38b0); (try clear c39); (try clear c39b0); (try clear c41); (try clear c41b0); (try clear c42); (try clear c42b0); (try clear c43); (try clear c43b0); (try clear c43b1); (try clear c46); (try clear c47); (try clear c47b0); (try clear hcz13_0); (try clear hcz13_1); (try clear hcz13_2); (try clear hcz13_3); (try clear hcz15_0); (try clear hcz15_1); (try clear hcz15_2); (try clear hcz15_3); (try clear hcz17_0); (try clear hcz17_1); (try clear hcz17_2); (try clear hcz17_3); (try clear hcz20_0); (try clear hcz20_1); (try clear hcz20_2); (try clear hcz20_3); (try clear hcz22_0); (try clear hcz22_1); (try clear hcz22_2); (try clear hcz22_3); (try clear hcz24_0); (try clear hcz24_1); (try clear hcz24_2); (try clear hcz24_3); (try clear hcz25_0); (try clear hcz25_1); (try clear hcz25_2); (try clear hcz25_3); (try clear hcz27_0); (try clear hcz27_1); (try clear hcz27_2); (try clear hcz27_3); (try clear hcz29_0); (try clear hcz29_1); (try clear hcz29_2); (try clear hcz29_3); (try clear hcz30_0); (try clear hcz30_1); (try clear hcz30_2); (try clear hcz30_3); (try clear hcz32_0); (try clear hcz32_1); (try clear hcz32_2); (try clear hcz32_3); (try clear hcz34_0); (try clear hcz34_1); (try clear hcz34_2); (try clear hcz34_3); (try clear hcz44_0); (try clear hcz44_1); (try clear hcz44_2); (try clear hcz44_3); (try clear hcz45_0); (try clear hcz45_1); (try clear hcz45_2); (try clear hcz45_3); (try clear hcz49_0); (try clear hcz49_1); (try clear hcz49_2); (try clear hcz49_3); (try clear hfz13_0); (try clear hfz13_1); (try clear hfz13_2); (try clear hfz13_3); (try clear hfz15_0); (try clear hfz15_1); (try clear hfz15_2); (try clear hfz15_3); (try clear hfz17_0); (try clear hfz17_1); (try clear hfz17_2); (try clear hfz17_3); (try clear hfz20_0); (try clear hfz20_1); (try clear hfz20_2); (try clear hfz20_3); (try clear hfz22_0); (try clear hfz22_1); (try clear hfz22_2); (try clear hfz22_3); (try clear hfz24_0); (try clear hfz24_1); (try clear hfz24_2); (try clear hfz24_3); (try clear hfz25_0); (try clear hfz25_1); (try clear hfz25_2); (try clear hfz25_3); (try clear hfz27_0); (try clear hfz27_1); (try clear hfz27_2); (try clear hfz27_3); (try clear hfz29_0); (try clear hfz29_1); (try clear hfz29_2); (try clear hfz29_3); (try clear hfz30_0); (try clear hfz30_1); (try clear hfz30_2); (try clear hfz30_3); (try clear hfz32_0); (try clear hfz32_1); (try clear hfz32_2); (try clear hfz32_3); (try clear hfz34_0); (try clear hfz34_1); (try clear hfz34_2); (try clear hfz34_3); (try clear hfz44_0); (try clear hfz44_1); (try clear hfz44_2); (try clear hfz44_3); (try clear hfz45_0); (try clear hfz45_1); (try clear hfz45_2); (try clear hfz45_3); (try clear hfz49_0); (try clear hfz49_1); (try clear hfz49_2); (try clear hfz49_3); (try clear hx958_0); (try clear hx959_0); (try clear hx960_0); (try clear hx961_0); (try clear p2); (try clear p9); (try clear p958); (try clear p959); (try clear p960); (try clear p961); (try clear q9); (try clear q958); (try clear q959); (try clear q960); (try clear q961)
              obtain ⟨x9_4, x75_4, rfl, rfl, HA, HK4, HO_73, BK955, HB⟩ := hrel
              cases gk with
              | zero => exact absurd HA.out (by simp [impl_Proves.l1])
              | succ k4 =>
               have H := HA.out
               clear HA
               simp only [impl_Proves.l1] at H
               by_cases c52 : x75_4 < (t962.length : Int)
               ·rw [if_pos c52] at H
                have c52b0 : decide (x75_4 < (t962.length : Int)) = true := decide_eq_true c52
                clear c52
                by_cases c53 : 0 ≤ x75_4
                ·rw [if_pos c53] at H
                 have c53b0 : decide (0 ≤ x75_4) = true := decide_eq_true c53
                 clear c53
                 by_cases c54 : x75_4 < (t962.length : Int)
                 ·rw [if_pos c54] at H
                  have c54b0 : decide (x75_4 < (t962.length : Int)) = true := decide_eq_true c54
                  clear c54
                  by_cases c55 : 0 ≤ (rd t962 x75_4)
                  ·rw [if_pos c55] at H
                   have c55b0 : decide (0 ≤ (rd t962 x75_4)) = true := decide_eq_true c55
                   clear c55
                   by_cases c56 : (rd t962 x75_4) < (l0_2.length : Int)
                   ·rw [if_pos c56] at H
                    have c56b0 : decide ((rd t962 x75_4) < (l0_2.length : Int)) = true := decide_eq_true c56
                    clear c56
                    have HC57 := Aside0.mk H
                    clear H
                    have p965 : 0 ≤ (x75_4 : Int) := of_decide_eq_true (by first | (with_reducible assumption) | assumption)
                    have q965 : x75_4 < (t962.length : Int) := of_decide_eq_true (by first | (with_reducible assumption) | assumption)
                    obtain ⟨ad965, e965, hx965_0⟩ := Kd.at_int (Kd.R_reads' HO_73.out).2.2 x75_4 p965 q965
                    cases e965
                    replace p965 := eq_true p965
                    replace q965 := eq_true q965
                    have hcz58_0 : wr.cell? ⟨gb955, 0, none⟩ = some (.int .i64 a0_0) := (blk_cell BK955.out 0).trans rfl
                    have hcz58_1 : wr.cell? ⟨gb955, 1, none⟩ = some (.int .i64 a0_1) := (blk_cell BK955.out 1).trans rfl
                    have hcz58_2 : wr.cell? ⟨gb955, 2, none⟩ = some (.slice A0_2 l0_2.length c0_2) := (blk_cell BK955.out 2).trans rfl
                    have hcz58_3 : wr.cell? ⟨gb955, 3, none⟩ = some (.slice A0_3 l0_3.length c0_3) := (blk_cell BK955.out 3).trans rfl
                    have hfz58_0 := blk_frozen BK955.out 0
                    have hfz58_1 := blk_frozen BK955.out 1
                    have hfz58_2 := blk_frozen BK955.out 2
                    have hfz58_3 := blk_frozen BK955.out 3
                    have p966 : 0 ≤ ((rd t962 x75_4) : Int) := of_decide_eq_true (by first | (with_reducible assumption) | assumption)
                    have q966 : (rd t962 x75_4) < (l0_2.length : Int) := of_decide_eq_true (by first | (with_reducible assumption) | assumption)
                    obtain ⟨ad966, e966, hx966_0⟩ := Kd.at_int HR0_2.out (rd t962 x75_4) p966 q966
                    cases e966
                    replace hx966_0 := (HB.out.cell (World.block_lt_of_cell? w _ hx966_0)).trans hx966_0
                    replace p966 := eq_true p966
                    replace q966 := eq_true q966
                    go_upto_region 14 with (fail)
                    repeat (go_quiet (fail); go_upto_region 14 with (fail))
                    go_cut [102] (fun v102 wc => ∃ (kq : Nat) (x102_56 : Bool), v102 = .bool x102_56 ∧ Aside0 (impl_Proves.j4 kq a1 l2 x47_2 (rd l2 x47_2) x9_4 (rd t962 x75_4) l2 (l2.length : Int) x47_2 t962 (t962.length : Int) x75_4 x102_56 a0_0 a0_1 l0_2 l0_3 = some r) ∧ Aside0 (kq ≤ k4) ∧ Aside0 (Kd.R (Kd.int .i64) 3 wc w.heap.size (fun _ => True) (.slice (some ad965) t962.length co51) t962) ∧ Aside0 (wc.heap[gb955]? = some (.cells #[.int .i64 a0_0, .int .i64 a0_1, (.slice (some ad966) l0_2.length c0_2), (.slice A0_3 l0_3.length c0_3)] 98 (0, 0))) ∧ Aside0 (Below w.heap.size w wc))
                    case first =>
                     have H := HC57.out
                     clear HC57
                     by_cases c59 : (rd l0_2 (rd t962 x75_4)) > 0
                     ·rw [if_pos c59] at H
                      have c59b0 : decide (0 < (rd l0_2 (rd t962 x75_4))) = true := decide_eq_true c59
                      clear c59
                      (first | rw [c59b0] | (simp only [i64_w, i32_w]; rw [c59b0]) | skip)
                      by_cases c60 : (rd t962 x75_4) < (l2.length : Int)
                      ·rw [if_pos c60] at H
                       have c60b0 : decide ((rd t962 x75_4) < (l2.length : Int)) = true := decide_eq_true c60
                       clear c60
                       by_cases c61 : (rd l2 (rd t962 x75_4)) = (-1)
                       ·rw [if_pos c61] at H
                        have c61b0 : ((rd l2 (rd t962 x75_4)) == (-1)) = true := beq_iff_eq.mpr c61
                        have c61b1 : ((rd l2 (rd t962 x75_4)) != (-1)) = false := bne_eq_false_iff_eq.mpr c61
                        clear c61
                        have H' := Aside0.mk H
                        clear H
                        have p967 : 0 ≤ ((rd t962 x75_4) : Int) := of_decide_eq_true (by first | (with_reducible assumption) | assumption)
                        have q967 : (rd t962 x75_4) < (l2.length : Int) := of_decide_eq_true (by first | (with_reducible assumption) | assumption)
                        obtain ⟨ad967, e967, hx967_0⟩ := Kd.at_int HR2.out (rd t962 x75_4) p967 q967
                        obtain rfl : ad960 = ad967 := (by injection e967)
                        replace hx967_0 := (HB.out.cell (World.block_lt_of_cell? w _ hx967_0)).trans hx967_0
                        replace p967 := eq_true p967
                        replace q967 := eq_true q967
                        go_wp2
                        repeat (go_quiet (fail); try go_wp2)
                        go_meet
                        case rel => exact ⟨_, (true), (by first | rfl | (simp; done) | (simp [*]; done)), H', ⟨by have := HJ3.out; have := HK2.out; have := HJ39.out; have := HK4.out; first | omega | exact Nat.le_refl _⟩, ⟨by (with_reducible repeat (first | apply Kd.R_alloc | apply Kd.R_drewN | apply Kd.R_drew)); exact HO_73.out⟩, ⟨by (with_reducible repeat (first | refine blk_drewN ?_ _ | refine blk_drew ?_ | refine blk_alloc ?_ _)); exact BK955.out⟩, ⟨by repeat (first | (with_reducible first | exact HB.out | apply below_alloc | apply pw_below_drewN | apply below_drew1 | refine below_set ?_ GE955.out) | exact HB.out)⟩⟩
                       ·rw [if_neg c61] at H
                        have c61b0 : ((rd l2 (rd t962 x75_4)) == (-1)) = false := beq_eq_false_iff_ne.mpr c61
                        have c61b1 : ((rd l2 (rd t962 x75_4)) != (-1)) = true := bne_iff_ne.mpr c61
                        have H' := Aside0.mk H
                        clear H
                        have p967 : 0 ≤ ((rd t962 x75_4) : Int) := of_decide_eq_true (by first | (with_reducible assumption) | assumption)
                        have q967 : (rd t962 x75_4) < (l2.length : Int) := of_decide_eq_true (by first | (with_reducible assumption) | assumption)
                        obtain ⟨ad967, e967, hx967_0⟩ := Kd.at_int HR2.out (rd t962 x75_4) p967 q967
                        obtain rfl : ad960 = ad967 := (by injection e967)
                        replace hx967_0 := (HB.out.cell (World.block_lt_of_cell? w _ hx967_0)).trans hx967_0
                        replace p967 := eq_true p967
                        replace q967 := eq_true q967
                        have p968 : 0 ≤ ((rd t962 x75_4) : Int) := of_decide_eq_true (by first | (with_reducible assumption) | assumption)
                        have q968 : (rd t962 x75_4) < (l2.length : Int) := of_decide_eq_true (by first | (with_reducible assumption) | assumption)
                        obtain ⟨ad968, e968, hx968_0⟩ := Kd.at_int HR2.out (rd t962 x75_4) p968 q968
                        obtain rfl : ad960 = ad968 := (by injection e968)
                        replace hx968_0 := (HB.out.cell (World.block_lt_of_cell? w _ hx968_0)).trans hx968_0
                        replace p968 := eq_true p968
                        replace q968 := eq_true q968
                        go_wp2
                        repeat (go_quiet (fail); try go_wp2)
                        go_meet
                        case rel => exact ⟨_, (decide ((wrap64 ((rd l2 (rd t962 x75_4)) - (rd l0_2 (rd t962 x75_4)))) > (rd l2 x47_2))), (by first | rfl | (simp; done) | (simp [*]; done)), H', ⟨by have := HJ3.out; have := HK2.out; have := HJ39.out; have := HK4.out; first | omega | exact Nat.le_refl _⟩, ⟨by (with_reducible repeat (first | apply Kd.R_alloc | apply Kd.R_drewN | apply Kd.R_drew)); exact HO_73.out⟩, ⟨by (with_reducible repeat (first | refine blk_drewN ?_ _ | refine blk_drew ?_ | refine blk_alloc ?_ _)); exact BK955.out⟩, ⟨by repeat (first | (with_reducible first | exact HB.out | apply below_alloc | apply pw_below_drewN | apply below_drew1 | refine below_set ?_ GE955.out) | exact HB.out)⟩⟩
                      ·rw [if_neg c60] at H
                       exact absurd H (by simp)
                     ·rw [if_neg c59] at H
                      have c59b0 : decide (0 < (rd l0_2 (rd t962 x75_4))) = false := decide_eq_false c59
                      clear c59
                      (first | rw [c59b0] | (simp only [i64_w, i32_w]; rw [c59b0]) | skip)
                      have H' := Aside0.mk H
                      clear H
                      go_wp2
                      repeat (go_quiet (fail); try go_wp2)
                      go_meet
                      case rel => exact ⟨_, (false), (by first | rfl | (simp; done) | (simp [*]; done)), H', ⟨by have := HJ3.out; have := HK2.out; have := HJ39.out; have := HK4.out; first | omega | exact Nat.le_refl _⟩, ⟨by (with_reducible repeat (first | apply Kd.R_alloc | apply Kd.R_drewN | apply Kd.R_drew)); exact HO_73.out⟩, ⟨by (with_reducible repeat (first | refine blk_drewN ?_ _ | refine blk_drew ?_ | refine blk_alloc ?_ _)); exact BK955.out⟩, ⟨by repeat (first | (with_reducible first | exact HB.out | apply below_alloc | apply pw_below_drewN | apply below_drew1 | refine below_set ?_ GE955.out) | exact HB.out)⟩⟩
                    case rest =>
                     clear HC57
                     (try clear c1); (try clear c2); (try clear p2); (try clear c3); (try clear c4); (try clear c5); (try clear c6); (try clear p6); (try clear c7); (try clear c9); (try clear p9); (try clear q9); (try clear hx9); (try clear c10); (try clear c10b0); (try clear c11); (try clear c11b0); (try clear c12); (try clear c12b0); (try clear c12b1); (try clear c18); (try clear c18b0); (try clear c18b1); (try clear c18b2); (try clear c19); (try clear c19b0); (try clear c36); (try clear c37); (try clear c37b0); (try clear c38); (try clear c38b0); (try clear c39); (try clear c39b0); (try clear c41); (try clear c41b0); (try clear c42); (try clear c42b0); (try clear c43); (try clear c43b0); (try clear c43b1); (try clear c46); (try clear c47); (try clear c47b0); (try clear c52); (try clear c52b0); (try clear c53); (try clear c53b0); (try clear c54); (try clear c54b0); (try clear c55); (try clear c55b0); (try clear c56); (try clear c56b0); (try clear c59); (try clear c59b0); (try clear c60); (try clear c60b0); (try clear c61); (try clear c61b0); (try clear c61b1); (try clear hcz13_0); (try clear hcz13_1); (try clear hcz13_2); (try clear hcz13_3); (try clear hcz15_0); (try clear hcz15_1); (try clear hcz15_2); (try clear hcz15_3); (try clear hcz17_0); (try clear hcz17_1); (try clear hcz17_2); (try clear hcz17_3); (try clear hcz20_0); (try clear hcz20_1); (try clear hcz20_2); (try clear hcz20_3); (try clear hcz22_0); (try clear hcz22_1); (try clear hcz22_2); (try clear hcz22_3); (try clear hcz24_0); (try clear hcz24_1); (try clear hcz24_2); (try clear hcz24_3); (try clear hcz25_0); (try clear hcz25_1); (try clear hcz25_2); (try clear hcz25_3); (try clear hcz27_0); (try clear hcz27_1); (try clear hcz27_2); (try clear hcz27_3); (try clear hcz29_0); (try clear hcz29_1); (try clear hcz29_2); (try clear hcz29_3); (try clear hcz30_0); (try clear hcz30_1); (try clear hcz30_2); (try clear hcz30_3); (try clear hcz32_0); (try clear hcz32_1); (try clear hcz32_2); (try clear hcz32_3); (try clear hcz34_0); (try clear hcz34_1); (try clear hcz34_2); (try clear hcz34_3); (try clear hcz44_0); (try clear hcz44_1); (try clear hcz44_2); (try clear hcz44_3); (try clear hcz45_0); (try clear hcz45_1); (try clear hcz45_2); (try clear hcz45_3); (try clear hcz49_0); (try clear hcz49_1); (try clear hcz49_2); (try clear hcz49_3); (try clear hcz58_0); (try clear hcz58_1); (try clear hcz58_2); (try clear hcz58_3); (try clear hfz13_0); (try clear hfz13_1); (try clear hfz13_2); (try clear hfz13_3); (try clear hfz15_0); (try clear hfz15_1); (try clear hfz15_2); (try clear hfz15_3); (try clear hfz17_0); (try clear hfz17_1); (try clear hfz17_2); (try clear hfz17_3); (try clear hfz20_0); (try clear hfz20_1); (try clear hfz20_2); (try clear hfz20_3); (try clear hfz22_0); (try clear hfz22_1); (try clear hfz22_2); (try clear hfz22_3); (try clear hfz24_0); (try clear hfz24_1); (try clear hfz24_2); (try clear hfz24_3); (try clear hfz25_0); (try clear hfz25_1); (try clear hfz25_2); (try clear hfz25_3); (try clear hfz27_0); (try clear hfz27_1); (try clear hfz27_2); (try clear hfz27_3); (try clear hfz29_0); (try clear hfz29_1); (try clear hfz29_2); (try clear hfz29_3); (try clear hfz30_0); (try clear hfz30_1); (try clear hfz30_2); (try clear hfz30_3); (try clear hfz32_0); (try clear hfz32_1); (try clear hfz32_2); (try clear hfz32_3); (try clear hfz34_0); (try clear hfz34_1); (try clear hfz34_2); (try clear hfz34_3); (try clear hfz44_0); (try clear hfz44_1); (try clear hfz44_2); (try clear hfz44_3); (try clear hfz45_0); (try clear hfz45_1); (try clear hfz45_2); (try clear hfz45_3); (try clear hfz49_0); (try clear hfz49_1); (try clear hfz49_2); (try clear hfz49_3); (try clear hfz58_0); (try clear hfz58_1); (try clear hfz58_2); (try clear hfz58_3); (try clear hx958_0); (try clear hx959_0); (try clear hx960_0); (try clear hx961_0); (try clear hx965_0); (try clear hx966_0); (try clear hx967_0); (try clear hx968_0); (try clear p2); (try clear p6); (try clear p9); (try clear p958); (try clear p959); (try clear p960); (try clear p961); (try clear p965); (try clear p966); (try clear p967); (try clear p968); (try clear q9); (try clear q958); (try clear q959); (try clear q960); (try clear q961); (try clear q965); (try clear q966); (try clear q967); (try clear q968)
                     obtain ⟨kq, x102_56, rfl, HA, HJ56, HO_73, BK955, HB⟩ := hcut
                     cases kq with
                     | zero => exact absurd HA.out (by simp [impl_Proves.j4])
                     | succ kj56 =>
                      have H := HA.out
                      clear HA
                      simp only [impl_Proves.j4] at H
                      by_cases c62 : x102_56 = true
                      ·subst c62
                       rw [if_pos rfl] at H
                       obtain rfl := Option.some.inj H
                       go_wp2
                       repeat (go_quiet (fail); try go_wp2)
                       go_ret
                       exact ⟨by first | rfl | (simp [errW_none, errW_some] <;> rfl) | (simp [*, errW_none, errW_some] <;> rfl), by repeat (first | (with_reducible first | exact HB.out | apply below_alloc | apply pw_below_drewN | apply below_drew1 | refine below_set ?_ GE955.out) | exact HB.out)⟩
                      ·replace c62 := Bool.eq_false_iff.mpr c62
                       subst c62
                       rw [if_neg (show ¬ (false = true) by decide)] at H
                       by_cases c63 : x9_4 = true
                       ·subst c63
                        rw [if_pos rfl] at H
                        have H' := Aside0.mk H
                        clear H
                        go_wp2
                        repeat (go_quiet (fail); try go_wp2)
                        go_roundg kj56
                        case measure => have := HJ3.out; have := HK2.out; have := HJ39.out; have := HK4.out; have := HJ56.out; omega
                        case rel => exact ⟨(true), (wrap64 (x75_4 + 1)), (by first | rfl | (simp; done) | (simp [*]; done)), (by first | rfl | (simp; done) | (simp [*]; done)), H', ⟨by have := HJ3.out; have := HK2.out; have := HJ39.out; have := HK4.out; have := HJ56.out; omega⟩, ⟨by (with_reducible repeat (first | apply Kd.R_alloc | apply Kd.R_drewN | apply Kd.R_drew)); exact HO_73.out⟩, ⟨by (with_reducible repeat (first | refine blk_drewN ?_ _ | refine blk_drew ?_ | refine blk_alloc ?_ _)); exact BK955.out⟩, ⟨by repeat (first | (with_reducible first | exact HB.out | apply below_alloc | apply pw_below_drewN | apply below_drew1 | refine below_set ?_ GE955.out) | exact HB.out)⟩⟩
                       ·replace c63 := Bool.eq_false_iff.mpr c63
                        subst c63
                        rw [if_neg (show ¬ (false = true) by decide)] at H
                        by_cases c64 : 0 ≤ (rd t962 x75_4)
                        ·rw [if_pos c64] at H
                         have c64b0 : decide (0 ≤ (rd t962 x75_4)) = true := decide_eq_true c64
                         clear c64
                         by_cases c65 : (rd t962 x75_4) < (l2.length : Int)
                         ·rw [if_pos c65] at H
                          have c65b0 : decide ((rd t962 x75_4) < (l2.length : Int)) = true := decide_eq_true c65
                          clear c65
                          by_cases c66 : (rd l2 (rd t962 x75_4)) ≥ 0
                          ·rw [if_pos c66] at H
                           have c66b0 : decide (0 ≤ (rd l2 (rd t962 x75_4))) = true := decide_eq_true c66
                           clear c66
                           by_cases c67 : 0 ≤ x47_2
                           ·rw [if_pos c67] at H
                            have c67b0 : decide (0 ≤ x47_2) = true := decide_eq_true c67
                            clear c67
                            by_cases c68 : x47_2 < (l0_2.length : Int)
                            ·rw [if_pos c68] at H
                             have c68b0 : decide (x47_2 < (l0_2.length : Int)) = true := decide_eq_true c68
                             clear c68
                             have H' := Aside0.mk H
                             clear H
                             have p969 : 0 ≤ ((rd t962 x75_4) : Int) := of_decide_eq_true (by first | (with_reducible assumption) | assumption)
                             have q969 : (rd t962 x75_4) < (l2.length : Int) := of_decide_eq_true (by first | (with_reducible assumption) | assumption)
                             obtain ⟨ad969, e969, hx969_0⟩ := Kd.at_int HR2.out (rd t962 x75_4) p969 q969
                             obtain rfl : ad960 = ad969 := (by injection e969)
                             replace hx969_0 := (HB.out.cell (World.block_lt_of_cell? w _ hx969_0)).trans hx969_0
                             replace p969 := eq_true p969
                             replace q969 := eq_true q969
                             have p970 : 0 ≤ ((rd t962 x75_4) : Int) := of_decide_eq_true (by first | (with_reducible assumption) | assumption)
                             have q970 : (rd t962 x75_4) < (l2.length : Int) := of_decide_eq_true (by first | (with_reducible assumption) | assumption)
                             obtain ⟨ad970, e970, hx970_0⟩ := Kd.at_int HR2.out (rd t962 x75_4) p970 q970
                             obtain rfl : ad960 = ad970 := (by injection e970)
                             replace hx970_0 := (HB.out.cell (World.block_lt_of_cell? w _ hx970_0)).trans hx970_0
                             replace p970 := eq_true p970
                             replace q970 := eq_true q970
                             have hcz69_0 : wc.cell? ⟨gb955, 0, none⟩ = some (.int .i64 a0_0) := (blk_cell BK955.out 0).trans rfl
                             have hcz69_1 : wc.cell? ⟨gb955, 1, none⟩ = some (.int .i64 a0_1) := (blk_cell BK955.out 1).trans rfl
                             have hcz69_2 : wc.cell? ⟨gb955, 2, none⟩ = some (.slice (some ad966) l0_2.length c0_2) := (blk_cell BK955.out 2).trans rfl
                             have hcz69_3 : wc.cell? ⟨gb955, 3, none⟩ = some (.slice A0_3 l0_3.length c0_3) := (blk_cell BK955.out 3).trans rfl
                             have hfz69_0 := blk_frozen BK955.out 0
                             have hfz69_1 := blk_frozen BK955.out 1
                             have hfz69_2 := blk_frozen BK955.out 2
                             have hfz69_3 := blk_frozen BK955.out 3
                             have p971 : 0 ≤ (x47_2 : Int) := of_decide_eq_true (by first | (with_reducible assumption) | assumption)
                             have q971 : x47_2 < (l0_2.length : Int) := of_decide_eq_true (by first | (with_reducible assumption) | assumption)
                             obtain ⟨ad971, e971, hx971_0⟩ := Kd.at_int HR0_2.out x47_2 p971 q971
                             obtain rfl : ad966 = ad971 := (by injection e971)
                             replace hx971_0 := (HB.out.cell (World.block_lt_of_cell? w _ hx971_0)).trans hx971_0
                             replace p971 := eq_true p971
                             replace q971 := eq_true q971
                             go_wp2
                             repeat (go_quiet (fail); try go_wp2)
                             go_roundg kj56
                             case measure => have := HJ3.out; have := HK2.out; have := HJ39.out; have := HK4.out; have := HJ56.out; omega
                             case rel => exact ⟨(((rd l2 (rd t962 x75_4)) == (wrap64 ((rd l2 x47_2) - (rd l0_2 x47_2))))), (wrap64 (x75_4 + 1)), (by first | rfl | (simp; done) | (simp [*]; done)), (by first | rfl | (simp; done) | (simp [*]; done)), H', ⟨by have := HJ3.out; have := HK2.out; have := HJ39.out; have := HK4.out; have := HJ56.out; omega⟩, ⟨by (with_reducible repeat (first | apply Kd.R_alloc | apply Kd.R_drewN | apply Kd.R_drew)); exact HO_73.out⟩, ⟨by (with_reducible repeat (first | refine blk_drewN ?_ _ | refine blk_drew ?_ | refine blk_alloc ?_ _)); exact BK955.out⟩, ⟨by repeat (first | (with_reducible first | exact HB.out | apply below_alloc | apply pw_below_drewN | apply below_drew1 | refine below_set ?_ GE955.out) | exact HB.out)⟩⟩
                            ·rw [if_neg c68] at H
                             exact absurd H (by simp)
                           ·rw [if_neg c67] at H
                            exact absurd H (by simp)
                          ·rw [if_neg c66] at H
                           have c66b0 : decide (0 ≤ (rd l2 (rd t962 x75_4))) = false := decide_eq_false c66
                           clear c66
                           have H' := Aside0.mk H
                           clear H
                           have p969 : 0 ≤ ((rd t962 x75_4) : Int) := of_decide_eq_true (by first | (with_reducible assumption) | assumption)
                           have q969 : (rd t962 x75_4) < (l2.length : Int) := of_decide_eq_true (by first | (with_reducible assumption) | assumption)
                           obtain ⟨ad969, e969, hx969_0⟩ := Kd.at_int HR2.out (rd t962 x75_4) p969 q969
                           obtain rfl : ad960 = ad969 := (by injection e969)
                           replace hx969_0 := (HB.out.cell (World.block_lt_of_cell? w _ hx969_0)).trans hx969_0
                           replace p969 := eq_true p969
                           replace q969 := eq_true q969
                           go_wp2
                           repeat (go_quiet (fail); try go_wp2)
                           go_roundg kj56
                           case measure => have := HJ3.out; have := HK2.out; have := HJ39.out; have := HK4.out; have := HJ56.out; omega
                           case rel => exact ⟨(false), (wrap64 (x75_4 + 1)), (by first | rfl | (simp; done) | (simp [*]; done)), (by first | rfl | (simp; done) | (simp [*]; done)), H', ⟨by have := HJ3.out; have := HK2.out; have := HJ39.out; have := HK4.out; have := HJ56.out; omega⟩, ⟨by (with_reducible repeat (first | apply Kd.R_alloc | apply Kd.R_drewN | apply Kd.R_drew)); exact HO_73.out⟩, ⟨by (with_reducible repeat (first | refine blk_drewN ?_ _ | refine blk_drew ?_ | refine blk_alloc ?_ _)); exact BK955.out⟩, ⟨by repeat (first | (with_reducible first | exact HB.out | apply below_alloc | apply pw_below_drewN | apply below_drew1 | refine below_set ?_ GE955.out) | exact HB.out)⟩⟩
                         ·rw [if_neg c65] at H
                          exact absurd H (by simp)
                        ·rw [if_neg c64] at H
                         exact absurd H (by simp)
                   ·rw [if_neg c56] at H
                    exact absurd H (by simp)
                  ·rw [if_neg c55] at H
                   exact absurd H (by simp)
                 ·rw [if_neg c54] at H
                  exact absurd H (by simp)
                ·rw [if_neg c53] at H
                 exact absurd H (by simp)
               ·rw [if_neg c52] at H
                have c52b0 : decide (x75_4 < (t962.length : Int)) = false := decide_eq_false c52
                clear c52
                by_cases c70 : x9_4 = true
                ·subst c70
                 rw [if_pos rfl] at H
                 have H' := Aside0.mk H
                 clear H
                 go_wp2
                 repeat (go_quiet (fail); try go_wp2)
                 go_roundg k4
                 case measure => have := HJ3.out; have := HK2.out; have := HJ39.out; have := HK4.out; omega
                 case rel => exact ⟨(wrap64 (x47_2 + 1)), (by first | rfl | (simp; done) | (simp [*]; done)), H', ⟨by have := HJ3.out; have := HK2.out; have := HJ39.out; have := HK4.out; omega⟩, ⟨by (with_reducible repeat (first | refine blk_drewN ?_ _ | refine blk_drew ?_ | refine blk_alloc ?_ _)); exact BK955.out⟩, ⟨by repeat (first | (with_reducible first | exact HB.out | apply below_alloc | apply pw_below_drewN | apply below_drew1 | refine below_set ?_ GE955.out) | exact HB.out)⟩⟩
                ·replace c70 := Bool.eq_false_iff.mpr c70
                 subst c70
                 rw [if_neg (show ¬ (false = true) by decide)] at H
                 obtain rfl := Option.some.inj H
                 go_wp2
                 repeat (go_quiet (fail); try go_wp2)
                 go_ret
                 exact ⟨by first | rfl | (simp [errW_none, errW_some] <;> rfl) | (simp [*, errW_none, errW_some] <;> rfl), by repeat (first | (with_reducible first | exact HB.out | apply below_alloc | apply pw_below_drewN | apply below_drew1 | refine below_set ?_ GE955.out) | exact HB.out)⟩
        ·rw [if_neg c39] at H
         exact absurd H (by simp)
       ·rw [if_neg c38] at H
        exact absurd H (by simp)
      ·rw [if_neg c37] at H
       have c37b0 : decide (x47_2 < (l2.length : Int)) = false := decide_eq_false c37
       clear c37
       obtain rfl := Option.some.inj H
       go_wp2
       repeat (go_quiet (fail); try go_wp2)
       go_ret
       exact ⟨by first | rfl | (simp [errW_none, errW_some] <;> rfl) | (simp [*, errW_none, errW_some] <;> rfl), by repeat (first | (with_reducible first | exact HB.out | apply below_alloc | apply pw_below_drewN | apply below_drew1 | refine below_set ?_ GE955.out) | exact HB.out)⟩

end Go.Proofs.Ytlmohamgfindmac.PA
