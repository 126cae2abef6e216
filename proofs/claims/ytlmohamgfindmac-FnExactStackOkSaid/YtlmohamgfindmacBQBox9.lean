/- Plain lemmas on the printed functions (Box9). -/
import Derived.Test.YtlmohamgfindmacPu0
import Derived.Test.YtlmohamgfindmacPBx2
import Derived.Test.YtlmohamgfindmacPBx6
import Derived.Test.YtlmohamgfindmacBQBase
import Derived.Test.YtlmohamgfindmacBQDigits
namespace Go.Proofs.Ytlmohamgfindmac.Pu
open Go.RowKit Go.Proofs.Ytlmohamgfindmac Go.Proofs.Ytlmohamgfindmac.PB Go.Proofs.Ytlmohamgfindmac.Pu Go.Proofs.YtlmohamgfindmacW.PrintWords Go.Proofs.YtlmohamgfindmacW.PrintLast Go.Proofs.YtlmohamgfindmacW.PrintMore
set_option linter.unusedVariables false
set_option linter.unusedSimpArgs false
-- BoxName: needs the digits' range
theorem digit_of (s : ByteArray) (hs : s.size = 10) : ∀ i : Nat, i ≤ 10 → ∀ x, ∃ v, Ev (fun k => spec_CheckDigit.l0 k s x (i : Int)) v ∧ v ≤ 9 := by
  refine down ?_ ?_
  · intro x
    refine ⟨Int.tmod (Int.tmod x 11) 10, Ev.step (fun _ => rfl) ?_, ?_⟩
    · simp only [spec_CheckDigit.l0]
      exact ev_f (by omega) (Ev.now _)
    · have := Int.tmod_lt_of_pos (Int.tmod x 11) (show (0 : Int) < 10 by omega); omega
  · intro i hi ih x
    have hb := bt_range s i
    by_cases h4 : i < 4
    · by_cases hL : 65 ≤ bt s i ∧ bt s i ≤ 90
      · obtain ⟨w, w1, w2⟩ := letter_ev _ hL
        obtain ⟨v, v1, v2⟩ := ih (wrap64 (x + shl .i64 w i))
        refine ⟨v, Ev.step (fun _ => rfl) ?_, v2⟩
        simp only [spec_CheckDigit.l0, l1In_eq, Option.bind_some]
        rw [wr (x := bt s i) (by omega), show inB (bt s i) 65 90 = true from inB_t.2 hL]
        refine ev_t (by omega) (ev_t (by omega) (ev_t (by omega) (ev_t (by omega) (Ev.step (fun _ => rfl) ?_))))
        simp only [spec_CheckDigit.j1]
        rw [wr (x := bt s i - 65) (by omega), wr (x := (i : Int) + 1) (by omega)]
        exact ev_t (by first | rfl | trivial) (Ev.bind w1 (ev_t (by omega) v1))
      · refine ⟨-1, Ev.step (fun _ => rfl) ?_, by omega⟩
        simp only [spec_CheckDigit.l0, l1In_eq, Option.bind_some]
        rw [wr (x := bt s i) (by omega), show inB (bt s i) 65 90 = false from inB_f.2 hL]
        refine ev_t (by omega) (ev_t (by omega) (ev_t (by omega) (ev_t (by omega) (Ev.step (fun _ => rfl) ?_))))
        simp only [spec_CheckDigit.j1]
        exact ev_f (by simp) (ev_f (by omega) (Ev.now _))
    · by_cases hD : 48 ≤ bt s i ∧ bt s i ≤ 57
      · obtain ⟨v, v1, v2⟩ := ih (wrap64 (x + shl .i64 (bt s i - 48) i))
        refine ⟨v, Ev.step (fun _ => rfl) ?_, v2⟩
        simp only [spec_CheckDigit.l0]
        rw [wr (x := bt s i) (by omega)]
        refine ev_t (by omega) (ev_t (by omega) (ev_t (by omega) (ev_f (by omega) (Ev.step (fun _ => rfl) ?_))))
        simp only [spec_CheckDigit.j1, l1In_eq, Option.bind_some]
        rw [wr (x := bt s i - 48) (by omega), wr (x := (i : Int) + 1) (by omega), show inB (bt s i) 48 57 = true from inB_t.2 hD]
        exact ev_f (by simp) (ev_t (by omega) (ev_t rfl (ev_t (by omega) v1)))
      · refine ⟨-1, Ev.step (fun _ => rfl) ?_, by omega⟩
        simp only [spec_CheckDigit.l0]
        rw [wr (x := bt s i) (by omega)]
        refine ev_t (by omega) (ev_t (by omega) (ev_t (by omega) (ev_f (by omega) (Ev.step (fun _ => rfl) ?_))))
        simp only [spec_CheckDigit.j1, l1In_eq, Option.bind_some]
        rw [show inB (bt s i) 48 57 = false from inB_f.2 hD]
        exact ev_f (by simp) (ev_t (by omega) (ev_f (by simp) (Ev.now _)))
theorem ev_uniq {α : Type} {g : Nat → Option α} {r q : α} (h : Ev g r) (h' : Ev g q) : r = q := by
  obtain ⟨K, h⟩ := h; obtain ⟨K', h'⟩ := h'
  have := (h (max K K') (by omega)).symm.trans (h' (max K K') (by omega))
  exact Option.some.inj this
theorem checkDigit_9 (s : ByteArray) : ∃ v, Ev (fun k => spec_CheckDigit.f k s) v ∧ Ev (fun k => impl_CheckDigit.f k s) v ∧ v ≤ 9 := by
  obtain ⟨v, h1, h2⟩ := checkDigit_same s
  refine ⟨v, h1, h2, ?_⟩
  by_cases h : (s.size : Int) = 10
  · obtain ⟨w, w1, w2⟩ := digit_of s (by omega) 0 (by omega) 0
    have : Ev (fun k => spec_CheckDigit.f k s) w := by
      simp only [spec_CheckDigit.f]; exact ev_t h w1
    rw [ev_uniq h1 this]; exact w2
  · have : Ev (fun k => spec_CheckDigit.f k s) (-1) := by
      simp only [spec_CheckDigit.f]; exact ev_f h (Ev.now _)
    rw [ev_uniq h1 this]; omega
theorem boxName_same (s : ByteArray) : ∃ v, Ev (fun k => spec_BoxName.f k s) v ∧ Ev (fun k => impl_BoxName.f k s) v := by
  simp only [spec_BoxName.f, impl_BoxName.f]
  by_cases h : (s.size : Int) = 11
  · obtain ⟨d, h1, h2, h3⟩ := checkDigit_9 (s.extract 0 10)
    have hb := bt_range s 10
    by_cases hd : d ≥ 0
    · refine ⟨bt s 10 == 48 + d, ev_t h (ev_t (by omega) (ev_t (by omega) (Ev.bind h1 (ev_t hd (ev_t (by omega) ?_))))), ev_t h (ev_t (by omega) (ev_t (by omega) (Ev.bind h2 (ev_t hd (ev_t (by omega) ?_)))))⟩
      · rw [wr (by omega), wr (by omega)]; exact Ev.now _
      · rw [wr (by omega), show (48 + d) % 256 = 48 + d by omega]; exact Ev.now _
    · exact ⟨false, ev_t h (ev_t (by omega) (ev_t (by omega) (Ev.bind h1 (ev_f hd (Ev.now _))))), ev_t h (ev_t (by omega) (ev_t (by omega) (Ev.bind h2 (ev_f hd (Ev.now _)))))⟩
  · exact ⟨false, ev_f h (Ev.now _), ev_f h (Ev.now _)⟩

end Go.Proofs.Ytlmohamgfindmac.Pu
