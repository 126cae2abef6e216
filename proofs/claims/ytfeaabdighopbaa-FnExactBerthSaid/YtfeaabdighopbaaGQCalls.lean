/- Plain lemmas on the printed functions (Calls). -/
import Derived.Test.YtfeaabdighopbaaPu0
import Derived.Test.YtfeaabdighopbaaPGx0
import Derived.Test.YtfeaabdighopbaaPGx1
import Derived.Test.YtfeaabdighopbaaPGx3
import Derived.Test.YtfeaabdighopbaaPGx4
import Derived.Test.YtfeaabdighopbaaPGx7
import Derived.Test.YtfeaabdighopbaaPGx8
import Derived.Test.YtfeaabdighopbaaGQBase
namespace Go.Proofs.Ytfeaabdighopbaa.Pu
open Go.RowKit Go.Proofs.Ytfeaabdighopbaa Go.Proofs.Ytfeaabdighopbaa.PG Go.Proofs.Ytfeaabdighopbaa.Pu Go.Proofs.YtfeaabdighopbaaW.PrintWords Go.Proofs.YtfeaabdighopbaaW.PrintLast Go.Proofs.YtfeaabdighopbaaW.PrintMore
set_option linter.unusedVariables false
set_option linter.unusedSimpArgs false
def tB (g : Int) (x : S91) : Bool := inB x.f1 1 1000 && (inB x.f2 0 100000000 && (inB x.f3 0 100000000 && (decide (x.f2 < x.f3) && (inB x.f4 (-1) 1000 && (decide (x.f4 < 0) || decide (x.f4 + x.f1 ≤ g))))))
theorem min_eq (a : Int) : spec_l1Minute.f a = some (inB a 0 100000000) := by simp only [spec_l1Minute.f, l1In_eq, Option.bind_some]
theorem min_eq2 (a : Int) : impl_minuteOk.f a = some (inB a 0 100000000) := by simp only [impl_minuteOk.f, in_eq, Option.bind_some]
theorem callOk_eq (g : Int) (hg : 1 ≤ g ∧ g ≤ 1000) (x : S91) : impl_callOk.f g x.f0 x.f1 x.f2 x.f3 x.f4 = some (inB x.f0 1 1000000 && tB g x) := by
  simp only [impl_callOk.f, impl_idRight.f, min_eq2, in_eq, Option.bind_some, tB]
  cases inB x.f0 1 1000000 with
  | false => simp
  | true =>
  cases h1 : inB x.f1 1 1000 with
  | false => simp
  | true =>
  rw [inB_t] at h1
  cases inB x.f2 0 100000000 with
  | false => simp
  | true =>
  cases inB x.f3 0 100000000 with
  | false => simp
  | true =>
  by_cases h2 : x.f2 < x.f3
  · rw [wr (x := g - x.f1) (by omega)]
    by_cases h3 : x.f4 = -1
    · simp [h2, h3, inB]
    · have e : inB x.f4 0 (g - x.f1) = (inB x.f4 (-1) 1000 && (decide (x.f4 < 0) || decide (x.f4 + x.f1 ≤ g))) := by
        rw [Bool.eq_iff_iff, Bool.and_eq_true, Bool.or_eq_true, inB_t, inB_t, decide_eq_true_eq, decide_eq_true_eq]; omega
      simp [h2, h3, e]
  · simp [h2]
theorem calls_l0 (g : Int) (hg : 1 ≤ g ∧ g ≤ 1000) (l : List S91) (hl : l.length ≤ 1048576) : ∀ i : Nat, i ≤ l.length → ∃ v, Ev (fun k => spec_CallsOk.l0 k g l i) v ∧ Ev (fun k => impl_CallsOk.l0 k g l l l.length i) v := by
  refine down ?_ ?_
  · refine ⟨true, Ev.step (fun _ => rfl) ?_, Ev.step (fun _ => rfl) ?_⟩
    · simp only [spec_CallsOk.l0]; exact ev_f (by omega) (Ev.now _)
    · simp only [impl_CallsOk.l0]; exact ev_f (by omega) (Ev.now _)
  · rintro i hi ⟨v, v1, v2⟩
    have s2 : Ev (fun k => spec_CallsOk.j2 k g l i true) false := Ev.step (fun _ => rfl) (by simp only [spec_CallsOk.j2]; exact Ev.now _)
    have s3 : Ev (fun k => spec_CallsOk.j2 k g l i false) v := Ev.step (fun _ => rfl) (by simp only [spec_CallsOk.j2]; rw [wr (by omega)]; exact ev_f (by simp) v1)
    obtain ⟨x, hx⟩ : ∃ x, x = rd_T91 l i := ⟨_, rfl⟩
    have tail : Ev (fun k => if inB x.f1 1 1000 = true then (if inB x.f2 0 100000000 = true then (if inB x.f3 0 100000000 = true then (if x.f2 ≥ x.f3 then spec_CallsOk.j2 k g l i true else (if inB x.f4 (-1) 1000 = true then (if x.f4 ≥ 0 then spec_CallsOk.j2 k g l i (decide (wrap64 (x.f4 + x.f1) > g)) else spec_CallsOk.j2 k g l i false) else spec_CallsOk.j2 k g l i true)) else spec_CallsOk.j2 k g l i true) else spec_CallsOk.j2 k g l i true) else spec_CallsOk.j2 k g l i true) (tB g x && v) := by
      unfold tB
      cases h1 : inB x.f1 1 1000 with
      | false => exact ev_f (by simp) (by simpa using s2)
      | true =>
      refine ev_t rfl ?_
      rw [inB_t] at h1
      cases inB x.f2 0 100000000 with
      | false => exact ev_f (by simp) (by simpa using s2)
      | true =>
      refine ev_t rfl ?_
      cases inB x.f3 0 100000000 with
      | false => exact ev_f (by simp) (by simpa using s2)
      | true =>
      refine ev_t rfl ?_
      by_cases h2 : x.f2 ≥ x.f3
      · refine ev_t h2 ?_
        rw [decide_eq_false (show ¬ x.f2 < x.f3 by omega)]; simpa using s2
      · refine ev_f h2 ?_
        rw [decide_eq_true (show x.f2 < x.f3 by omega)]
        cases h4 : inB x.f4 (-1) 1000 with
        | false => exact ev_f (by simp) (by simpa using s2)
        | true =>
        refine ev_t rfl ?_
        rw [inB_t] at h4
        by_cases h5 : x.f4 ≥ 0
        · refine ev_t h5 ?_
          rw [wr (x := x.f4 + x.f1) (by omega), decide_eq_false (show ¬ x.f4 < 0 by omega)]
          by_cases h6 : x.f4 + x.f1 > g
          · rw [decide_eq_true h6, decide_eq_false (show ¬ x.f4 + x.f1 ≤ g by omega)]; simpa using s2
          · rw [decide_eq_false h6, decide_eq_true (show x.f4 + x.f1 ≤ g by omega)]; simpa using s3
        · refine ev_f h5 ?_
          rw [decide_eq_true (show x.f4 < 0 by omega)]; simpa using s3
    have im : ∀ r, Ev (fun k => if (i : Int) > 0 then (if 0 ≤ (i : Int) - 1 then (if (i : Int) - 1 < (l.length : Int) then (if (rd_T91 l ((i : Int) - 1)).f0 ≥ x.f0 then (some false) else impl_CallsOk.l0 k g l l l.length ((i : Int) + 1)) else none) else none) else impl_CallsOk.l0 k g l l l.length ((i : Int) + 1)) r → True := fun _ _ => trivial
    cases hid : inB x.f0 1 1000000 with
    | false =>
      refine ⟨false, Ev.step (fun _ => rfl) ?_, Ev.step (fun _ => rfl) ?_⟩
      · simp only [spec_CallsOk.l0, ← hx, l1In_eq, Option.bind_some, hid]
        exact ev_t (by omega) (ev_t (by omega) (ev_f (by simp) s2))
      · simp only [impl_CallsOk.l0, ← hx, callOk_eq g hg x, Option.bind_some, hid]
        exact ev_t (by omega) (ev_t (by omega) (ev_t (by omega) (ev_f (by simp) (Ev.now _))))
    | true =>
      by_cases h0 : (i : Int) > 0
      · by_cases ho : (rd_T91 l ((i : Int) - 1)).f0 ≥ x.f0
        · refine ⟨false, Ev.step (fun _ => rfl) ?_, Ev.step (fun _ => rfl) ?_⟩
          · simp only [spec_CallsOk.l0, ← hx, l1In_eq, min_eq, Option.bind_some, hid]
            rw [wr (x := (i : Int) - 1) (by omega)]
            exact ev_t (by omega) (ev_t (by omega) (ev_t (by first | rfl | trivial) (ev_t h0 (ev_t (by omega) (ev_t (by omega) (ev_t ho s2))))))
          · simp only [impl_CallsOk.l0, ← hx, callOk_eq g hg x, Option.bind_some, hid, Bool.true_and]
            rw [wr (x := (i : Int) - 1) (by omega)]
            refine ev_t (by omega) (ev_t (by omega) (ev_t (by omega) ?_))
            cases tB g x with
            | false => exact ev_f (by simp) (Ev.now _)
            | true => exact ev_t rfl (ev_t h0 (ev_t (by omega) (ev_t (by omega) (ev_t ho (Ev.now _)))))
        · refine ⟨tB g x && v, Ev.step (fun _ => rfl) ?_, Ev.step (fun _ => rfl) ?_⟩
          · simp only [spec_CallsOk.l0, ← hx, l1In_eq, min_eq, Option.bind_some, hid]
            rw [wr (x := (i : Int) - 1) (by omega)]
            exact ev_t (by omega) (ev_t (by omega) (ev_t (by first | rfl | trivial) (ev_t h0 (ev_t (by omega) (ev_t (by omega) (ev_f ho tail))))))
          · simp only [impl_CallsOk.l0, ← hx, callOk_eq g hg x, Option.bind_some, hid, Bool.true_and]
            rw [wr (x := (i : Int) - 1) (by omega), wr (x := (i : Int) + 1) (by omega)]
            refine ev_t (by omega) (ev_t (by omega) (ev_t (by omega) ?_))
            cases tB g x with
            | false => exact ev_f (by simp) (by simpa using Ev.now false)
            | true => exact ev_t rfl (ev_t h0 (ev_t (by omega) (ev_t (by omega) (ev_f ho (by simpa using v2)))))
      · refine ⟨tB g x && v, Ev.step (fun _ => rfl) ?_, Ev.step (fun _ => rfl) ?_⟩
        · simp only [spec_CallsOk.l0, ← hx, l1In_eq, min_eq, Option.bind_some, hid]
          exact ev_t (by omega) (ev_t (by omega) (ev_t (by first | rfl | trivial) (ev_f h0 tail)))
        · simp only [impl_CallsOk.l0, ← hx, callOk_eq g hg x, Option.bind_some, hid, Bool.true_and]
          rw [wr (x := (i : Int) + 1) (by omega)]
          refine ev_t (by omega) (ev_t (by omega) (ev_t (by omega) ?_))
          cases tB g x with
          | false => exact ev_f (by simp) (by simpa using Ev.now false)
          | true => exact ev_t rfl (ev_f h0 (by simpa using v2))
theorem calls_same (g : Int) (l : List S91) (hl : l.length ≤ 1048576) : ∃ v, Ev (fun k => spec_CallsOk.f k g l) v ∧ Ev (fun k => impl_CallsOk.f k g l) v := by
  have t1 : Ev (fun k => spec_CallsOk.j0 k g l true) false := Ev.step (fun _ => rfl) (by simp only [spec_CallsOk.j0]; exact Ev.now _)
  have t2 : Ev (fun k => impl_CallsOk.j0 k g l true) false := Ev.step (fun _ => rfl) (by simp only [impl_CallsOk.j0]; exact Ev.now _)
  simp only [spec_CallsOk.f, impl_CallsOk.f, l1In_eq, in_eq, Option.bind_some]
  cases hg : inB g 1 1000 with
  | false => exact ⟨false, by simpa using t1, by simpa using t2⟩
  | true =>
    by_cases hn : (l.length : Int) > 24
    · rw [decide_eq_true hn]; exact ⟨false, by simpa using t1, by simpa using t2⟩
    · obtain ⟨v, v1, v2⟩ := calls_l0 g (inB_t.1 hg) l hl 0 (Nat.zero_le _)
      have u1 : Ev (fun k => spec_CallsOk.j0 k g l false) v := Ev.step (fun _ => rfl) (by simp only [spec_CallsOk.j0]; exact ev_f (by simp) v1)
      have u2 : Ev (fun k => impl_CallsOk.j0 k g l false) v := Ev.step (fun _ => rfl) (by simp only [impl_CallsOk.j0]; exact ev_f (by simp) v2)
      rw [decide_eq_false hn]
      exact ⟨v, ev_t (by first | rfl | trivial) u1, ev_t (by first | rfl | trivial) u2⟩
theorem szCall_ev (l : List S93) (hl : l.length ≤ 9223372036854775807) : ∃ s, laws_szCallS.f l 1048576 = some s ∧ (0 ≤ s → l.length ≤ 1048576) := by
  simp only [laws_szCallS.f]
  rw [wr (by omega)]
  by_cases c : 1048576 - (l.length : Int) < 0
  · rw [if_pos c]; exact ⟨-1, rfl, fun h => by omega⟩
  · rw [if_neg c]; exact ⟨_, rfl, fun _ => by omega⟩

end Go.Proofs.Ytfeaabdighopbaa.Pu
