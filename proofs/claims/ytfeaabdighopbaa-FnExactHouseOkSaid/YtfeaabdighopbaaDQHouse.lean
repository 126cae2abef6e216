/- Plain lemmas on the printed functions (House). -/
import Derived.Test.YtfeaabdighopbaaPu0
import Derived.Test.YtfeaabdighopbaaPDx0
import Derived.Test.YtfeaabdighopbaaPDx1
import Derived.Test.YtfeaabdighopbaaPDx2
import Derived.Test.YtfeaabdighopbaaPDx3
import Derived.Test.YtfeaabdighopbaaPDx4
import Derived.Test.YtfeaabdighopbaaPDx5
import Derived.Test.YtfeaabdighopbaaDQBase
namespace Go.Proofs.Ytfeaabdighopbaa.Pu
open Go.RowKit Go.Proofs.Ytfeaabdighopbaa Go.Proofs.Ytfeaabdighopbaa.PD Go.Proofs.Ytfeaabdighopbaa.Pu Go.Proofs.YtfeaabdighopbaaW.PrintWords Go.Proofs.YtfeaabdighopbaaW.PrintLast Go.Proofs.YtfeaabdighopbaaW.PrintMore
set_option linter.unusedVariables false
set_option linter.unusedSimpArgs false
theorem ev_ite {α : Type} {c : Prop} [Decidable c] {f g : Nat → Option α} {r : α} (ht : c → Ev f r) (hf : ¬ c → Ev g r) : Ev (fun k => if c then f k else g k) r := by
  by_cases h : c
  · exact ev_t h (ht h)
  · exact ev_f h (hf h)
def lotB (a b c : Int) : Bool := inB a 1 1000000 && (inB b 0 1000000 && inB c 0 5000)
def dutyV (x : S119) : Int := wrap64 (Int.tdiv (wrap64 ((wrap64 (x.f2 * x.f3)) * x.f4)) 1000)
theorem duty_s (x : S119) : spec_Duty6.f x.f2 x.f3 x.f4 = some (if lotB x.f2 x.f3 x.f4 = true then (dutyV x, true) else (0, false)) := by
  simp only [spec_Duty6.f, l1In_eq, Option.bind_some, lotB, dutyV]
  generalize wrap64 ((wrap64 (wrap64 (x.f2 * x.f3) * x.f4)).tdiv 1000) = d
  by_cases h1 : inB x.f2 1 1000000 = true <;> by_cases h2 : inB x.f3 0 1000000 = true <;> by_cases h3 : inB x.f4 0 5000 = true <;> simp [h1, h2, h3]
theorem right_i (a b c : Int) : impl_lotRight.f a b c = some (lotB a b c) := by
  simp only [impl_lotRight.f, in_eq, Option.bind_some, lotB]
  cases inB a 1 1000000 <;> cases inB b 0 1000000 <;> cases inB c 0 5000 <;> rfl
theorem duty_i (x : S119) (h : lotB x.f2 x.f3 x.f4 = true) : impl_Lot_duty.f x.f0 x.f1 x.f2 x.f3 x.f4 x.f5 x.f6 = some (dutyV x) := by
  simp only [impl_Lot_duty.f, impl_Duty6.f, right_i, Option.bind_some, h, dutyV]
  rfl
theorem traders_same (l : List S119) (t : List S122) (a : Int) (ht : t.length ≤ 1048576) (b : List Int) (hb : b.length = t.length) : ∀ i : Nat, i ≤ t.length → ∃ v, Ev (fun k => spec_HouseOk.l1 k b i l t a) v ∧ Ev (fun k => impl_HouseOk.l1 k b t t.length i) v := by
  refine down ?_ ?_
  · refine ⟨true, Ev.step (fun _ => rfl) ?_, Ev.step (fun _ => rfl) ?_⟩
    · simp only [spec_HouseOk.l1]; exact ev_f (by omega) (Ev.now _)
    · simp only [impl_HouseOk.l1]; exact ev_f (by omega) (Ev.now _)
  · rintro i hi ⟨v, v1, v2⟩
    have s1 : Ev (fun k => spec_HouseOk.j5 k b i true l t a) false := Ev.step (fun _ => rfl) (by simp only [spec_HouseOk.j5]; exact Ev.now _)
    have s2 : Ev (fun k => impl_HouseOk.j5 k b t t.length i true) false := Ev.step (fun _ => rfl) (by simp only [impl_HouseOk.j5]; exact Ev.now _)
    have u1 : Ev (fun k => spec_HouseOk.j5 k b i false l t a) v := Ev.step (fun _ => rfl) (by simp only [spec_HouseOk.j5]; rw [wr (x := (i : Int) + 1) (by omega)]; exact ev_f (by simp) v1)
    have u2 : Ev (fun k => impl_HouseOk.j5 k b t t.length i false) v := Ev.step (fun _ => rfl) (by simp only [impl_HouseOk.j5]; rw [wr (x := (i : Int) + 1) (by omega)]; exact ev_f (by simp) v2)
    obtain ⟨x, hx⟩ : ∃ x, x = rd_T122 t i := ⟨_, rfl⟩
    by_cases hg : (inB x.f0 0 1000000000000000 && (inB x.f1 0 1000000000000000 && (inB x.f2 0 x.f1 && !(x.f2 != rd b i)))) = true
    · simp only [Bool.and_eq_true] at hg
      obtain ⟨h1, h2, h3, h4⟩ := hg
      have h4' : (x.f2 != rd b i) = false := by simpa using h4
      refine ⟨v, Ev.step (fun _ => rfl) ?_, Ev.step (fun _ => rfl) ?_⟩
      · simp only [spec_HouseOk.l1, ← hx, l1In_eq, Option.bind_some, h1, h2, h3, h4']
        exact ev_t (by omega) (ev_t (by omega) (ev_t (by first | rfl | trivial) (ev_t (by first | rfl | trivial) (ev_t (by first | rfl | trivial) (ev_t (by omega) u1)))))
      · simp only [impl_HouseOk.l1, ← hx, in_eq, Option.bind_some, h1, h2, h3, h4']
        exact ev_t (by omega) (ev_t (by omega) (ev_t (by omega) (ev_t (by first | rfl | trivial) (ev_t (by first | rfl | trivial) (ev_t (by first | rfl | trivial) (ev_t (by omega) u2))))))
    · refine ⟨false, Ev.step (fun _ => rfl) ?_, Ev.step (fun _ => rfl) ?_⟩
      · simp only [spec_HouseOk.l1, ← hx, l1In_eq, Option.bind_some]
        refine ev_t (by omega) (ev_t (by omega) (ev_ite (fun h1 => ev_ite (fun h2 => ev_ite (fun h3 => ev_t (by omega) ?_) (fun _ => s1)) (fun _ => s1)) (fun _ => s1)))
        rw [show (x.f2 != rd b i) = true by simpa [h1, h2, h3] using hg]; exact s1
      · simp only [impl_HouseOk.l1, ← hx, in_eq, Option.bind_some]
        refine ev_t (by omega) (ev_t (by omega) (ev_t (by omega) (ev_ite (fun h1 => ev_ite (fun h2 => ev_ite (fun h3 => ev_t (by omega) ?_) (fun _ => s2)) (fun _ => s2)) (fun _ => s2))))
        rw [show (x.f2 != rd b i) = true by simpa [h1, h2, h3] using hg]; exact s2
theorem lots_same (l : List S119) (t : List S122) (a : Int) (hl : l.length ≤ 1048576) (ht : t.length ≤ 1048576) : ∀ i : Nat, i ≤ l.length → ∀ b : List Int, b.length = t.length → ∃ v, Ev (fun k => spec_HouseOk.l0 k b i l t a) v ∧ Ev (fun k => impl_HouseOk.l0 k b l l.length i l t a) v := by
  refine down ?_ ?_
  · intro b hb
    obtain ⟨v, v1, v2⟩ := traders_same l t a ht b hb 0 (Nat.zero_le _)
    refine ⟨v, Ev.step (fun _ => rfl) ?_, Ev.step (fun _ => rfl) ?_⟩
    · simp only [spec_HouseOk.l0]; exact ev_f (by omega) v1
    · simp only [impl_HouseOk.l0]; exact ev_f (by omega) v2
  · intro i hi ih b hb
    obtain ⟨x, hx⟩ : ∃ x, x = rd_T119 l i := ⟨_, rfl⟩
    have s1 : ∀ d, Ev (fun k => spec_HouseOk.j2 k b i d true l t a x.f0 x.f1 x.f2 x.f3 x.f4 x.f5 x.f6) false := fun d => Ev.step (fun _ => rfl) (by simp only [spec_HouseOk.j2]; exact Ev.now _)
    have s2 : Ev (fun k => impl_HouseOk.j2 k b l l.length i true l t a x.f0 x.f1 x.f2 x.f3 x.f4 x.f5 x.f6) false := Ev.step (fun _ => rfl) (by simp only [impl_HouseOk.j2]; exact Ev.now _)
    by_cases hg : (lotB x.f2 x.f3 x.f4 && (inB x.f0 1 1000000 && (!(decide ((i : Int) > 0) && decide ((rd_T119 l ((i : Int) - 1)).f0 ≥ x.f0)) && (inB x.f1 0 ((t.length : Int) - 1) && inB x.f5 1 5)))) = true
    · simp only [Bool.and_eq_true] at hg
      obtain ⟨h1, h2, h3, h4, h5⟩ := hg
      have h3' : ¬ ((i : Int) > 0 ∧ (rd_T119 l ((i : Int) - 1)).f0 ≥ x.f0) := by
        intro h; rw [decide_eq_true h.1, decide_eq_true h.2] at h3; simp at h3
      obtain ⟨d, hd⟩ : ∃ d, d = if x.f5 = 3 then dutyV x else 0 := ⟨_, rfl⟩
      have ho := inB_t.1 h4
      obtain ⟨v, v1, v2⟩ := ih (b.set x.f1.toNat (wrap64 (rd b x.f1 + d))) (by simpa using hb)
      have t1 : ∃ u, Ev (fun k => spec_HouseOk.j3 k b i d l t a x.f0 x.f1 x.f2 x.f3 x.f4 x.f5 x.f6) u ∧ Ev (fun k => impl_HouseOk.j3 k b d l l.length i l t a x.f0 x.f1 x.f2 x.f3 x.f4 x.f5 x.f6) u := by
        by_cases he : x.f6 = d
        · refine ⟨v, Ev.step (fun _ => rfl) ?_, Ev.step (fun _ => rfl) ?_⟩
          · simp only [spec_HouseOk.j3]; rw [wr (x := (i : Int) + 1) (by omega)]; exact ev_t he (ev_t (by omega) (ev_t (by omega) v1))
          · simp only [impl_HouseOk.j3]; rw [wr (x := (i : Int) + 1) (by omega), he]; exact ev_t rfl (ev_t (by omega) (ev_t (by omega) v2))
        · refine ⟨false, Ev.step (fun _ => rfl) ?_, Ev.step (fun _ => rfl) ?_⟩
          · simp only [spec_HouseOk.j3]; exact ev_f he (Ev.now _)
          · simp only [impl_HouseOk.j3]; exact ev_f he (Ev.now _)
      obtain ⟨u, u1, u2⟩ := t1
      have w1 : Ev (fun k => spec_HouseOk.j2 k b i (dutyV x) false l t a x.f0 x.f1 x.f2 x.f3 x.f4 x.f5 x.f6) u := Ev.step (fun _ => rfl) (by
        simp only [spec_HouseOk.j2]
        refine ev_f (by simp) (ev_ite (fun h => ?_) (fun h => ?_))
        · rw [hd, if_pos h] at u1; exact u1
        · rw [hd, if_neg h] at u1; exact u1)
      have w2 : Ev (fun k => impl_HouseOk.j2 k b l l.length i false l t a x.f0 x.f1 x.f2 x.f3 x.f4 x.f5 x.f6) u := Ev.step (fun _ => rfl) (by
        simp only [impl_HouseOk.j2, duty_i x h1, Option.bind_some]
        refine ev_f (by simp) (ev_ite (fun h => ?_) (fun h => ?_))
        · rw [hd, if_pos h] at u2; exact u2
        · rw [hd, if_neg h] at u2; exact u2)
      refine ⟨u, Ev.step (fun _ => rfl) ?_, Ev.step (fun _ => rfl) ?_⟩
      · simp only [spec_HouseOk.l0, ← hx, duty_s, l1In_eq, Option.bind_some, h1, if_true, h2, h5, Bool.not_true]
        rw [wr (x := (t.length : Int) - 1) (by omega)]
        refine ev_t (by omega) (ev_t (by omega) (ev_ite (fun hi0 => ?_) (fun hi0 => ev_t h4 w1)))
        rw [wr (x := (i : Int) - 1) (by omega)]
        exact ev_t (by omega) (ev_t (by omega) (ev_f (fun h => h3' ⟨hi0, h⟩) (ev_t h4 w1)))
      · simp only [impl_HouseOk.l0, ← hx, impl_idRight.f, right_i, in_eq, Option.bind_some, h1, if_true, h2, h5, Bool.not_true]
        rw [wr (x := (t.length : Int) - 1) (by omega)]
        refine ev_t (by omega) (ev_t (by omega) (ev_t (by omega) (ev_ite (fun hi0 => ?_) (fun hi0 => ev_t h4 w2))))
        rw [wr (x := (i : Int) - 1) (by omega)]
        exact ev_t (by omega) (ev_t (by omega) (ev_f (fun h => h3' ⟨hi0, h⟩) (ev_t h4 w2)))
    · refine ⟨false, Ev.step (fun _ => rfl) ?_, Ev.step (fun _ => rfl) ?_⟩
      · simp only [spec_HouseOk.l0, ← hx, duty_s, l1In_eq, Option.bind_some]
        rw [wr (x := (t.length : Int) - 1) (by omega)]
        refine ev_t (by omega) (ev_t (by omega) ?_)
        cases h1 : lotB x.f2 x.f3 x.f4 with
        | false => exact ev_f (by simp) (s1 _)
        | true =>
        simp only [if_true]
        refine ev_ite (fun h2 => ev_ite (fun hi0 => ?_) (fun hi0 => ev_ite (fun h4 => ?_) (fun _ => s1 _))) (fun _ => s1 _)
        · rw [wr (x := (i : Int) - 1) (by omega)]
          refine ev_t (by omega) (ev_t (by omega) (ev_ite (fun _ => s1 _) (fun h3 => ev_ite (fun h4 => ?_) (fun _ => s1 _))))
          have e5 : inB x.f5 1 5 = false := by
            have h3' : (rd_T119 l ((i : Int) - 1)).f0 < x.f0 := by omega
            have h6 : 0 < i := by omega
            simpa [h1, h2, h6, h3', h4] using hg
          rw [e5]; exact s1 _
        · have e5 : inB x.f5 1 5 = false := by
            have h6 : i = 0 := by omega
            simpa [h1, h2, h6, h4] using hg
          rw [e5]; exact s1 _
      · simp only [impl_HouseOk.l0, ← hx, impl_idRight.f, right_i, in_eq, Option.bind_some]
        rw [wr (x := (t.length : Int) - 1) (by omega)]
        refine ev_t (by omega) (ev_t (by omega) (ev_t (by omega) ?_))
        refine ev_ite (fun h2 => ev_ite (fun hi0 => ?_) (fun hi0 => ev_ite (fun h4 => ev_ite (fun h1 => ?_) (fun _ => s2)) (fun _ => s2))) (fun _ => s2)
        · rw [wr (x := (i : Int) - 1) (by omega)]
          refine ev_t (by omega) (ev_t (by omega) (ev_ite (fun _ => s2) (fun h3 => ev_ite (fun h4 => ev_ite (fun h1 => ?_) (fun _ => s2)) (fun _ => s2))))
          have e5 : inB x.f5 1 5 = false := by
            have h3' : (rd_T119 l ((i : Int) - 1)).f0 < x.f0 := by omega
            have h6 : 0 < i := by omega
            simpa [h1, h2, h6, h3', h4] using hg
          rw [e5]; exact s2
        · have e5 : inB x.f5 1 5 = false := by
            have h6 : i = 0 := by omega
            simpa [h1, h2, h6, h4] using hg
          rw [e5]; exact s2
theorem house_same (l : List S119) (t : List S122) (a : Int) (hl : l.length ≤ 1048576) (ht : t.length ≤ 1048576) : ∃ v, Ev (fun k => spec_HouseOk.f k l t a) v ∧ Ev (fun k => impl_HouseOk.f k l t a) v := by
  have s1 : Ev (fun k => spec_HouseOk.j0 k true l t a) false := Ev.step (fun _ => rfl) (by simp only [spec_HouseOk.j0]; exact Ev.now _)
  have s2 : Ev (fun k => impl_HouseOk.j0 k true l t a) false := Ev.step (fun _ => rfl) (by simp only [impl_HouseOk.j0]; exact Ev.now _)
  simp only [spec_HouseOk.f, impl_HouseOk.f, l1In_eq, in_eq, Option.bind_some]
  by_cases h1 : (l.length : Int) > 40
  · exact ⟨false, ev_t h1 s1, ev_t h1 s2⟩
  by_cases h2 : (t.length : Int) > 10
  · exact ⟨false, ev_f h1 (ev_t h2 s1), ev_f h1 (ev_t h2 s2)⟩
  cases h3 : inB a 0 1000000000000000 with
  | false => exact ⟨false, ev_f h1 (ev_f h2 s1), ev_f h1 (ev_f h2 s2)⟩
  | true =>
  obtain ⟨v, v1, v2⟩ := lots_same l t a hl ht 0 (Nat.zero_le _) (List.replicate ((t.length : Int)).toNat 0) (by simp)
  refine ⟨v, ev_f h1 (ev_f h2 (Ev.step (fun _ => rfl) ?_)), ev_f h1 (ev_f h2 (Ev.step (fun _ => rfl) ?_))⟩
  · simp only [spec_HouseOk.j0]; exact ev_f (by simp) (ev_t (by omega) (ev_t (by omega) v1))
  · simp only [impl_HouseOk.j0]; exact ev_f (by simp) (ev_t (by omega) (ev_t (by omega) v2))

end Go.Proofs.Ytfeaabdighopbaa.Pu
