/- Plain lemmas on the printed functions (ConvBillS). -/
import Derived.Test.YthbmpegaogfibadPu0
import Derived.Test.YthbmpegaogfibadPBx0
import Derived.Test.YthbmpegaogfibadPBx1
import Derived.Test.YthbmpegaogfibadPBx5
import Derived.Test.YthbmpegaogfibadPBx10
import Derived.Test.YthbmpegaogfibadPBx11
import Derived.Test.YthbmpegaogfibadBQBase
import Derived.Test.YthbmpegaogfibadBQConvIntS
import Derived.Test.YthbmpegaogfibadBQNames
import Derived.Test.YthbmpegaogfibadBQBills
namespace Go.Proofs.Ythbmpegaogfibad.Pu
open Go.RowKit Go.Proofs.Ythbmpegaogfibad Go.Proofs.Ythbmpegaogfibad.PB Go.Proofs.Ythbmpegaogfibad.Pu Go.Proofs.YthbmpegaogfibadW.PrintWords Go.Proofs.YthbmpegaogfibadW.PrintLast Go.Proofs.YthbmpegaogfibadW.PrintMore
set_option linter.unusedVariables false
set_option linter.unusedSimpArgs false
theorem toStr_ev (l : List ByteArray) (hl : l.length ≤ 1048576) : Ev (fun k => laws_toStringS.f k l) l := by
  have key : ∀ i, i ≤ l.length → Ev (fun k => laws_toStringS.l0 k l ((l.take i).map id ++ List.replicate (l.length - i) (⟨#[]⟩ : ByteArray)) (i : Int)) (l.map id) := by
    refine down ?_ ?_
    · rw [fill_all]
      refine Ev.step (fun _ => rfl) ?_
      simp only [laws_toStringS.l0]
      exact ev_f (by omega) (Ev.now _)
    · intro i hi ih
      refine Ev.step (fun _ => rfl) ?_
      simp only [laws_toStringS.l0]
      refine ev_t (by omega) (ev_t (by omega) (ev_t (by simp; omega) ?_))
      rw [wr (by omega), Int.toNat_natCast, set_fill l id (⟨#[]⟩ : ByteArray) i hi _ (by simp [rdOf, List.getD, hi])]
      exact ih
  have h0 := key 0 (Nat.zero_le _)
  rw [fill_none, List.map_id] at h0
  simp only [laws_toStringS.f]
  refine ev_t (by omega) (ev_t (by omega) ?_)
  simpa using h0
def cBill (x : S50) : S38 := ⟨x.f0, x.f1, x.f2, x.f3, x.f4⟩
theorem toBill_ev (x : S50) (hx : x.f4.length ≤ 1048576) : Ev (fun k => laws_toBill.f k x.f0 x.f1 x.f2 x.f3 x.f4) (x.f0, x.f1, x.f2, x.f3, x.f4) := by
  simp only [laws_toBill.f]
  exact Ev.bind (toStr_ev x.f4 hx) (Ev.now _)
theorem toBillS_ev (l : List S50) (hl : l.length ≤ 1048576) (hf : ∀ x ∈ l, x.f4.length ≤ 1048576) : Ev (fun k => laws_toBillS.f k l) (l.map cBill) := by
  have key : ∀ i, i ≤ l.length → Ev (fun k => laws_toBillS.l0 k l ((l.take i).map cBill ++ List.replicate (l.length - i) z38) (i : Int)) (l.map cBill) := by
    refine down ?_ ?_
    · rw [fill_all]
      refine Ev.step (fun _ => rfl) ?_
      simp only [laws_toBillS.l0]
      exact ev_f (by omega) (Ev.now _)
    · intro i hi ih
      have hx : rd_T50 l (i : Int) = l[i] := by simp [rd_T50, hi]
      refine Ev.step (fun _ => rfl) ?_
      simp only [laws_toBillS.l0]
      rw [hx]
      refine ev_t (by omega) (ev_t (by omega) (Ev.bind (toBill_ev l[i] (hf _ (List.getElem_mem _))) (ev_t (by simp; omega) ?_)))
      rw [wr (by omega), Int.toNat_natCast]
      show Ev (fun k => laws_toBillS.l0 k l (((l.take i).map cBill ++ List.replicate (l.length - i) z38).set i (cBill l[i])) ((i : Int) + 1)) (l.map cBill)
      rw [set_fill l cBill z38 i hi _ rfl]
      exact ih
  have h0 := key 0 (Nat.zero_le _)
  rw [fill_none] at h0
  simp only [laws_toBillS.f]
  refine ev_t (by omega) (ev_t (by omega) ?_)
  simpa using h0
theorem eqStr_ev (l : List ByteArray) (hl : l.length ≤ 1048576) : Ev (fun k => laws_eqStringS.f k l l) true := by
  have key : ∀ i, i ≤ l.length → Ev (fun k => laws_eqStringS.l0 k l l (i : Int)) true := by
    refine down ?_ ?_
    · refine Ev.step (fun _ => rfl) ?_
      simp only [laws_eqStringS.l0]
      exact ev_f (by omega) (Ev.now _)
    · intro i hi ih
      refine Ev.step (fun _ => rfl) ?_
      simp only [laws_eqStringS.l0]
      refine ev_t (by omega) (ev_t (by omega) (ev_t (by omega) (ev_t (by first | rfl | trivial) ?_)))
      rw [wr (by omega)]
      exact ih
  simp only [laws_eqStringS.f]
  exact ev_t (by first | rfl | trivial) (key 0 (Nat.zero_le _))
theorem eqBillS_ev (l : List S38) (hl : l.length ≤ 1048576) (hf : ∀ x ∈ l, x.f4.length ≤ 1048576) : Ev (fun k => laws_eqBillS.f k l l) true := by
  have key : ∀ i, i ≤ l.length → Ev (fun k => laws_eqBillS.l0 k l l (i : Int)) true := by
    refine down ?_ ?_
    · refine Ev.step (fun _ => rfl) ?_
      simp only [laws_eqBillS.l0]
      exact ev_f (by omega) (Ev.now _)
    · intro i hi ih
      have hx : rd_T38 l (i : Int) = l[i] := by simp [rd_T38, hi]
      have he : Ev (fun k => laws_eqBill.f k l[i].f0 l[i].f1 l[i].f2 l[i].f3 l[i].f4 l[i].f0 l[i].f1 l[i].f2 l[i].f3 l[i].f4) true := by
        simp only [laws_eqBill.f]
        exact ev_t (by first | rfl | trivial) (ev_t (by first | rfl | trivial) (ev_t (by first | rfl | trivial) (ev_t (by first | rfl | trivial) (Ev.bind (eqStr_ev _ (hf _ (List.getElem_mem _))) (ev_t rfl (Ev.now _))))))
      refine Ev.step (fun _ => rfl) ?_
      simp only [laws_eqBillS.l0]
      rw [hx, wr (x := (i : Int) + 1) (by omega)]
      exact ev_t (by omega) (ev_t (by omega) (ev_t (by omega) (Ev.bind he (ev_t rfl ih))))
  simp only [laws_eqBillS.f]
  exact ev_t (by first | rfl | trivial) (key 0 (Nat.zero_le _))
theorem szStr_ev (l : List ByteArray) (a : Int) (ha : 0 ≤ a ∧ a ≤ 1048576) (hl : l.length ≤ 9223372036854775807) (hs : ∀ s ∈ l, s.size ≤ 9223372036854775807) : ∃ z, Ev (fun k => laws_szStringS.f k l a) z ∧ z ≤ a ∧ (0 ≤ z → l.length ≤ 1048576 ∧ ∀ s ∈ l, s.size ≤ 1048576) := by
  simp only [laws_szStringS.f]
  rw [wr (x := a - (l.length : Int)) (by omega)]
  by_cases h : a - (l.length : Int) < 0
  · exact ⟨-1, ev_t h (Ev.now _), by omega, fun h => by omega⟩
  have key : ∀ i : Nat, i ≤ l.length → ∀ b : Int, 0 ≤ b → b ≤ 1048576 → ∃ z, Ev (fun k => laws_szStringS.l0 k l b (i : Int)) z ∧ z ≤ b ∧ (0 ≤ z → ∀ s ∈ l.drop i, s.size ≤ 1048576) := by
    refine down ?_ ?_
    · intro b h0 h1
      refine ⟨b, Ev.step (fun _ => rfl) ?_, Int.le_refl _, fun _ s hs => by simp at hs⟩
      simp only [laws_szStringS.l0]
      exact ev_f (by omega) (Ev.now _)
    · intro i hi ih b h0 h1
      have hsz := hs l[i] (List.getElem_mem _)
      have hrd : rdOf ByteArray.empty l (i : Int) = l[i] := by simp [rdOf, List.getD, hi]
      by_cases c : b - (l[i].size : Int) < 0
      · refine ⟨-1, Ev.step (fun _ => rfl) ?_, by omega, fun h => by omega⟩
        simp only [laws_szStringS.l0]
        rw [hrd, wr (x := b - (l[i].size : Int)) (by omega)]
        exact ev_t (by omega) (ev_t (by omega) (ev_t c (Ev.now _)))
      · obtain ⟨z, z1, z2, z3⟩ := ih (b - (l[i].size : Int)) (by omega) (by omega)
        refine ⟨z, Ev.step (fun _ => rfl) ?_, by omega, fun hz s hs2 => ?_⟩
        · simp only [laws_szStringS.l0]
          rw [hrd, wr (x := b - (l[i].size : Int)) (by omega), wr (x := (i : Int) + 1) (by omega)]
          exact ev_t (by omega) (ev_t (by omega) (ev_f c z1))
        · rw [List.drop_eq_getElem_cons hi] at hs2
          rcases List.mem_cons.1 hs2 with rfl | hs2
          · omega
          · exact z3 hz s hs2
  obtain ⟨z, z1, z2, z3⟩ := key 0 (Nat.zero_le _) (a - (l.length : Int)) (by omega) (by omega)
  exact ⟨z, ev_f h z1, by omega, fun hz => ⟨by omega, by simpa using z3 hz⟩⟩
def longB (x : S50) : Prop := x.f1.size ≤ 9223372036854775807 ∧ x.f2.size ≤ 9223372036854775807 ∧ x.f4.length ≤ 9223372036854775807 ∧ ∀ s ∈ x.f4, s.size ≤ 9223372036854775807
theorem szBill_ev (x : S50) (a : Int) (ha : 0 ≤ a ∧ a ≤ 1048576) (hx : longB x) : ∃ z, Ev (fun k => laws_szBill.f k x.f0 x.f1 x.f2 x.f3 x.f4 a) z ∧ z ≤ a ∧ (0 ≤ z → fitB (cBill x)) := by
  obtain ⟨x1, x2, x3, x4⟩ := hx
  simp only [laws_szBill.f]
  rw [wr (x := a - (x.f1.size : Int)) (by omega)]
  by_cases h : a - (x.f1.size : Int) < 0
  · exact ⟨-1, ev_t h (Ev.now _), by omega, fun h => by omega⟩
  rw [wr (x := a - (x.f1.size : Int) - (x.f2.size : Int)) (by omega)]
  by_cases h2 : a - (x.f1.size : Int) - (x.f2.size : Int) < 0
  · exact ⟨-1, ev_f h (ev_t h2 (Ev.now _)), by omega, fun h => by omega⟩
  obtain ⟨z, z1, z2, z3⟩ := szStr_ev x.f4 (a - (x.f1.size : Int) - (x.f2.size : Int)) (by omega) x3 x4
  by_cases h3 : z < 0
  · exact ⟨-1, ev_f h (ev_f h2 (Ev.bind z1 (ev_t h3 (Ev.now _)))), by omega, fun h => by omega⟩
  · exact ⟨z, ev_f h (ev_f h2 (Ev.bind z1 (ev_f h3 (Ev.now _)))), by omega, fun hz => ⟨show x.f1.size ≤ _ by omega, show x.f2.size ≤ _ by omega, z3 hz⟩⟩
theorem szBillS_ev (l : List S50) (a : Int) (ha : 0 ≤ a ∧ a ≤ 1048576) (hl : l.length ≤ 9223372036854775807) (hs : ∀ x ∈ l, longB x) : ∃ z, Ev (fun k => laws_szBillS.f k l a) z ∧ z ≤ a ∧ (0 ≤ z → l.length ≤ 1048576 ∧ ∀ x ∈ l, fitB (cBill x)) := by
  simp only [laws_szBillS.f]
  rw [wr (x := a - (l.length : Int)) (by omega)]
  by_cases h : a - (l.length : Int) < 0
  · exact ⟨-1, ev_t h (Ev.now _), by omega, fun h => by omega⟩
  have key : ∀ i : Nat, i ≤ l.length → ∀ b : Int, 0 ≤ b → b ≤ 1048576 → ∃ z, Ev (fun k => laws_szBillS.l0 k l b (i : Int)) z ∧ z ≤ b ∧ (0 ≤ z → ∀ x ∈ l.drop i, fitB (cBill x)) := by
    refine down ?_ ?_
    · intro b h0 h1
      refine ⟨b, Ev.step (fun _ => rfl) ?_, Int.le_refl _, fun _ s hs => by simp at hs⟩
      simp only [laws_szBillS.l0]
      exact ev_f (by omega) (Ev.now _)
    · intro i hi ih b h0 h1
      have hx : rd_T50 l (i : Int) = l[i] := by simp [rd_T50, hi]
      obtain ⟨y, y1, y2, y3⟩ := szBill_ev l[i] b ⟨h0, h1⟩ (hs _ (List.getElem_mem _))
      by_cases c : y < 0
      · refine ⟨-1, Ev.step (fun _ => rfl) ?_, by omega, fun h => by omega⟩
        simp only [laws_szBillS.l0]
        rw [hx]
        exact ev_t (by omega) (ev_t (by omega) (Ev.bind y1 (ev_t c (Ev.now _))))
      · obtain ⟨z, z1, z2, z3⟩ := ih y (by omega) (by omega)
        refine ⟨z, Ev.step (fun _ => rfl) ?_, by omega, fun hz s hs2 => ?_⟩
        · simp only [laws_szBillS.l0]
          rw [hx, wr (x := (i : Int) + 1) (by omega)]
          exact ev_t (by omega) (ev_t (by omega) (Ev.bind y1 (ev_f c z1)))
        · rw [List.drop_eq_getElem_cons hi] at hs2
          rcases List.mem_cons.1 hs2 with rfl | hs2
          · exact y3 (by omega)
          · exact z3 hz s hs2
  obtain ⟨z, z1, z2, z3⟩ := key 0 (Nat.zero_le _) (a - (l.length : Int)) (by omega) (by omega)
  exact ⟨z, ev_f h z1, by omega, fun hz => ⟨by omega, by simpa using z3 hz⟩⟩

end Go.Proofs.Ythbmpegaogfibad.Pu
