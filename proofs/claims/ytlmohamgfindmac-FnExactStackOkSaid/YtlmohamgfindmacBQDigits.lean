/- Plain lemmas on the printed functions (Digits). -/
import Derived.Test.YtlmohamgfindmacPu0
import Derived.Test.YtlmohamgfindmacPBx1
import Derived.Test.YtlmohamgfindmacPBx2
import Derived.Test.YtlmohamgfindmacPBx5
import Derived.Test.YtlmohamgfindmacPBx6
import Derived.Test.YtlmohamgfindmacBQBase
namespace Go.Proofs.Ytlmohamgfindmac.Pu
open Go.RowKit Go.Proofs.Ytlmohamgfindmac Go.Proofs.Ytlmohamgfindmac.PB Go.Proofs.Ytlmohamgfindmac.Pu Go.Proofs.YtlmohamgfindmacW.PrintWords Go.Proofs.YtlmohamgfindmacW.PrintLast Go.Proofs.YtlmohamgfindmacW.PrintMore
set_option linter.unusedVariables false
set_option linter.unusedSimpArgs false
theorem letters : ∀ m : Fin 26, ∃ v : Int, spec_l11Letter.f 30 (m.1 : Int) = some v ∧ impl_valueOf.f 30 (65 + (m.1 : Int)) = some v := by
  unfold spec_l11Letter.f impl_valueOf.f
  intro m
  have key : ∀ m : Fin 26, (spec_l11Letter.l0 30 (m.1 : Int) 10).isSome = true ∧ spec_l11Letter.l0 30 (m.1 : Int) 10 = impl_valueOf.l0 30 (65 + (m.1 : Int)) 10 65 := by
    unfold spec_l11Letter.l0 impl_valueOf.l0 
    decide +kernel
  obtain ⟨v, hv⟩ := Option.isSome_iff_exists.1 (key m).1
  exact ⟨v, hv, (key m).2 ▸ hv⟩
theorem letter_ev (b : Int) (h : 65 ≤ b ∧ b ≤ 90) : ∃ v, Ev (fun k => spec_l11Letter.f k (b - 65)) v ∧ Ev (fun k => impl_valueOf.f k b) v := by
  obtain ⟨m, hm⟩ := Int.eq_ofNat_of_zero_le (show 0 ≤ b - 65 by omega)
  obtain ⟨v, h1, h2⟩ := letters ⟨m, by omega⟩
  refine ⟨v, Ev.of (spec_l11Letter.mono _) (k := 30) (by rw [hm]; exact h1), Ev.of (impl_valueOf.mono _) (k := 30) (by rw [show b = 65 + (m : Int) by omega]; exact h2)⟩
theorem digits_same (s : ByteArray) (hs : s.size = 10) : ∀ i : Nat, i ≤ 10 → ∀ x, ∃ v, Ev (fun k => spec_CheckDigit.l0 k s x (i : Int)) v ∧ Ev (fun k => impl_CheckDigit.l0 k s x (i : Int)) v := by
  refine down ?_ ?_
  · intro x
    refine ⟨Int.tmod (Int.tmod x 11) 10, Ev.step (fun _ => rfl) ?_, Ev.step (fun _ => rfl) ?_⟩
    · simp only [spec_CheckDigit.l0]
      exact ev_f (by omega) (Ev.now _)
    · simp only [impl_CheckDigit.l0]
      exact ev_f (by omega) (Ev.now _)
  · intro i hi ih x
    have hb := bt_range s i
    by_cases h4 : i < 4
    · by_cases hL : 65 ≤ bt s i ∧ bt s i ≤ 90
      · obtain ⟨w, w1, w2⟩ := letter_ev _ hL
        obtain ⟨v, v1, v2⟩ := ih (wrap64 (x + shl .i64 w i))
        refine ⟨v, Ev.step (fun _ => rfl) ?_, Ev.step (fun _ => rfl) ?_⟩
        · simp only [spec_CheckDigit.l0, l1In_eq, Option.bind_some]
          rw [wr (x := bt s i) (by omega), show inB (bt s i) 65 90 = true from inB_t.2 hL]
          refine ev_t (by omega) (ev_t (by omega) (ev_t (by omega) (ev_t (by omega) (Ev.step (fun _ => rfl) ?_))))
          simp only [spec_CheckDigit.j1]
          rw [wr (x := bt s i - 65) (by omega), wr (x := (i : Int) + 1) (by omega)]
          exact ev_t (by first | rfl | trivial) (Ev.bind w1 (ev_t (by omega) v1))
        · simp only [impl_CheckDigit.l0]
          rw [decide_eq_true hL.2]
          refine ev_t (by omega) (ev_t (by omega) (ev_t (by omega) (ev_t (by omega) (ev_t (by omega) (Ev.step (fun _ => rfl) ?_)))))
          simp only [impl_CheckDigit.j1]
          rw [wr (x := (i : Int) + 1) (by omega)]
          exact ev_t (by first | rfl | trivial) (Ev.bind w2 (ev_t (by omega) v2))
      · refine ⟨-1, Ev.step (fun _ => rfl) ?_, Ev.step (fun _ => rfl) ?_⟩
        · simp only [spec_CheckDigit.l0, l1In_eq, Option.bind_some]
          rw [wr (x := bt s i) (by omega), show inB (bt s i) 65 90 = false from inB_f.2 hL]
          refine ev_t (by omega) (ev_t (by omega) (ev_t (by omega) (ev_t (by omega) (Ev.step (fun _ => rfl) ?_))))
          simp only [spec_CheckDigit.j1]
          exact ev_f (by simp) (ev_f (by omega) (Ev.now _))
        · simp only [impl_CheckDigit.l0]
          refine ev_t (by omega) (ev_t (by omega) (ev_t (by omega) (ev_t (by omega) ?_)))
          have fin : Ev (fun k => impl_CheckDigit.j1 k s x i (bt s i) i false) (-1) := by
            refine Ev.step (fun _ => rfl) ?_
            simp only [impl_CheckDigit.j1]
            exact ev_f (by simp) (ev_f (by omega) (Ev.now _))
          by_cases h65 : bt s i ≥ 65
          · rw [decide_eq_false (show ¬ bt s i ≤ 90 by omega)]
            exact ev_t h65 fin
          · exact ev_f h65 fin
    · by_cases hD : 48 ≤ bt s i ∧ bt s i ≤ 57
      · obtain ⟨v, v1, v2⟩ := ih (wrap64 (x + shl .i64 (bt s i - 48) i))
        refine ⟨v, Ev.step (fun _ => rfl) ?_, Ev.step (fun _ => rfl) ?_⟩
        · simp only [spec_CheckDigit.l0]
          rw [wr (x := bt s i) (by omega)]
          refine ev_t (by omega) (ev_t (by omega) (ev_t (by omega) (ev_f (by omega) (Ev.step (fun _ => rfl) ?_))))
          simp only [spec_CheckDigit.j1, l1In_eq, Option.bind_some]
          rw [wr (x := bt s i - 48) (by omega), wr (x := (i : Int) + 1) (by omega), show inB (bt s i) 48 57 = true from inB_t.2 hD]
          exact ev_f (by simp) (ev_t (by omega) (ev_t rfl (ev_t (by omega) v1)))
        · simp only [impl_CheckDigit.l0]
          refine ev_t (by omega) (ev_t (by omega) (ev_t (by omega) (ev_f (by omega) (Ev.step (fun _ => rfl) ?_))))
          simp only [impl_CheckDigit.j1]
          rw [wr (x := (i : Int) + 1) (by omega), show (bt s i - 48) % 256 = bt s i - 48 by omega]
          exact ev_f (by simp) (ev_t (by omega) (ev_t (by omega) (ev_t (by omega) (ev_t (by omega) v2))))
      · refine ⟨-1, Ev.step (fun _ => rfl) ?_, Ev.step (fun _ => rfl) ?_⟩
        · simp only [spec_CheckDigit.l0]
          rw [wr (x := bt s i) (by omega)]
          refine ev_t (by omega) (ev_t (by omega) (ev_t (by omega) (ev_f (by omega) (Ev.step (fun _ => rfl) ?_))))
          simp only [spec_CheckDigit.j1, l1In_eq, Option.bind_some]
          rw [show inB (bt s i) 48 57 = false from inB_f.2 hD]
          exact ev_f (by simp) (ev_t (by omega) (ev_f (by simp) (Ev.now _)))
        · simp only [impl_CheckDigit.l0]
          refine ev_t (by omega) (ev_t (by omega) (ev_t (by omega) (ev_f (by omega) (Ev.step (fun _ => rfl) ?_))))
          simp only [impl_CheckDigit.j1]
          refine ev_f (by simp) (ev_t (by omega) ?_)
          by_cases h48 : bt s i ≥ 48
          · exact ev_t h48 (ev_f (by omega) (Ev.now _))
          · exact ev_f h48 (Ev.now _)
theorem checkDigit_same (s : ByteArray) : ∃ v, Ev (fun k => spec_CheckDigit.f k s) v ∧ Ev (fun k => impl_CheckDigit.f k s) v := by
  simp only [spec_CheckDigit.f, impl_CheckDigit.f]
  by_cases h : (s.size : Int) = 10
  · obtain ⟨v, h1, h2⟩ := digits_same s (by omega) 0 (by omega) 0
    exact ⟨v, ev_t h h1, ev_t h h2⟩
  · exact ⟨-1, ev_f h (Ev.now _), ev_f h (Ev.now _)⟩

end Go.Proofs.Ytlmohamgfindmac.Pu
