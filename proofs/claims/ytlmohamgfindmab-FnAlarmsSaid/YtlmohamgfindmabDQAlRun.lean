/- Plain lemmas on the printed functions (AlRun). -/
import Derived.Test.YtlmohamgfindmabPu0
import Derived.Test.YtlmohamgfindmabPDx2
import Derived.Test.YtlmohamgfindmabPDx3
import Derived.Test.YtlmohamgfindmabPDx4
import Derived.Test.YtlmohamgfindmabDQBase
namespace Go.Proofs.Ytlmohamgfindmab.Pu
open Go.RowKit Go.Proofs.Ytlmohamgfindmab Go.Proofs.Ytlmohamgfindmab.PD Go.Proofs.Ytlmohamgfindmab.Pu Go.Proofs.YtlmohamgfindmabW.PrintWords Go.Proofs.YtlmohamgfindmabW.PrintLast Go.Proofs.YtlmohamgfindmabW.PrintMore
set_option linter.unusedVariables false
set_option linter.unusedSimpArgs false
def run (p : Int → Bool) (l : List Int) : Nat → Nat
  | 0 => 0
  | i + 1 => if p (rd l (i : Int)) then run p l i + 1 else 0
theorem run_le (p : Int → Bool) (l : List Int) : ∀ i, run p l i ≤ i
  | 0 => Nat.le_refl _
  | i + 1 => by
    unfold run
    have := run_le p l i
    split <;> omega
theorem run_iff (p : Int → Bool) (l : List Int) : ∀ i d : Nat, d ≤ run p l i ↔ d ≤ i ∧ ∀ j : Nat, i - d ≤ j → j < i → p (rd l (j : Int)) = true
  | 0, d => by
    unfold run
    constructor
    · intro h; exact ⟨h, fun j _ h2 => by omega⟩
    · intro h; exact h.1
  | i + 1, d => by
    unfold run
    cases hp : p (rd l (i : Int)) with
    | true =>
      simp only [if_true]
      cases d with
      | zero => exact ⟨fun _ => ⟨by omega, fun j h1 h2 => by omega⟩, fun _ => by omega⟩
      | succ d =>
        rw [show d + 1 ≤ run p l i + 1 ↔ d ≤ run p l i by omega, run_iff p l i d]
        constructor
        · rintro ⟨h1, h2⟩
          refine ⟨by omega, fun j h3 h4 => ?_⟩
          by_cases e : j = i
          · rw [e]; exact hp
          · exact h2 j (by omega) (by omega)
        · rintro ⟨h1, h2⟩
          exact ⟨by omega, fun j h3 h4 => h2 j (by omega) (by omega)⟩
    | false =>
      simp only [Bool.false_eq_true, if_false]
      constructor
      · intro h; exact ⟨by omega, fun j h1 h2 => by omega⟩
      · rintro ⟨h1, h2⟩
        apply Classical.byContradiction
        intro hn
        have := h2 i (by omega) (by omega)
        rw [hp] at this
        cases this
theorem any_win (l : List Int) (q : Int → Bool) (s m : Nat) (hm : m ≤ l.length) : ((l.take m).drop s).any q = true ↔ ∃ j : Nat, s ≤ j ∧ j < m ∧ q (rd l (j : Int)) = true := by
  rw [List.any_eq_true]
  constructor
  · rintro ⟨x, hx, hq⟩
    obtain ⟨i, hi, rfl⟩ := List.getElem_of_mem hx
    have hi2 : s + i < m := by rw [List.length_drop, List.length_take] at hi; omega
    refine ⟨s + i, by omega, hi2, ?_⟩
    rw [List.getElem_drop, List.getElem_take] at hq
    rwa [show rd l ((s + i : Nat) : Int) = l[s + i] by (simp only [rd, Int.toNat_natCast]; simp [show s + i < l.length by omega])]
  · rintro ⟨j, h1, h2, h3⟩
    refine ⟨l[j], ?_, ?_⟩
    · rw [List.mem_iff_getElem]
      refine ⟨j - s, by rw [List.length_drop, List.length_take]; omega, ?_⟩
      rw [List.getElem_drop, List.getElem_take]
      congr 1
      omega
    · rwa [show rd l (j : Int) = l[j] by simp [rd, show j < l.length by omega]] at h3
theorem win_run (l : List Int) (q : Int → Bool) (d m : Nat) (hm : m ≤ l.length) (hd : d ≤ m) : ((l.take m).drop (m - d)).any q = !decide (d ≤ run (fun x => !q x) l m) := by
  rw [Bool.eq_iff_iff, any_win l q (m - d) m hm, Bool.not_eq_true', decide_eq_false_iff_not, run_iff]
  constructor
  · rintro ⟨j, h1, h2, h3⟩ ⟨_, h4⟩
    have := h4 j h1 h2
    rw [h3] at this
    cases this
  · intro h
    apply Classical.byContradiction
    intro hn
    apply h
    refine ⟨hd, fun j h1 h2 => ?_⟩
    cases hq : q (rd l (j : Int)) with
    | false => rfl
    | true => exact absurd ⟨j, h1, h2, hq⟩ hn
def nOn (H L D : Int) (l : List Int) (i : Nat) (on : Bool) : Bool :=
  if on then !decide (D ≤ (run (fun x => !decide (x > L)) l (i + 1) : Nat)) else decide (D ≤ (run (fun x => !decide (x < H)) l (i + 1) : Nat))
theorem al_s (H L D : Int) (l : List Int) (hl : l.length ≤ 500) (i : Nat) (hi : i < l.length) (out : List Bool) (ho : out.length = i) (on : Bool) (v : List Bool × Bool)
    (h : Ev (fun k => spec_Alarms.l0 k l (out ++ [nOn H L D l i on]) (nOn H L D l i on) (run (fun x => !decide (x < H)) l (i + 1) : Nat) (run (fun x => !decide (x > L)) l (i + 1) : Nat) ((i + 1 : Nat) : Int) H L D) v) :
    Ev (fun k => spec_Alarms.l0 k l out on (run (fun x => !decide (x < H)) l i : Nat) (run (fun x => !decide (x > L)) l i : Nat) (i : Int) H L D) v := by
  have r1 := run_le (fun x => !decide (x < H)) l i
  have r2 := run_le (fun x => !decide (x > L)) l i
  have e1 : ((run (fun x => !decide (x < H)) l (i + 1) : Nat) : Int) = if rd l (i : Int) < H then 0 else wrap64 ((run (fun x => !decide (x < H)) l i : Nat) + 1) := by
    rw [wr (by omega)]
    conv => lhs; unfold run
    by_cases c : rd l (i : Int) < H <;> simp [c]
  have e2 : ((run (fun x => !decide (x > L)) l (i + 1) : Nat) : Int) = if rd l (i : Int) > L then 0 else wrap64 ((run (fun x => !decide (x > L)) l i : Nat) + 1) := by
    rw [wr (by omega)]
    conv => lhs; unfold run
    by_cases c : rd l (i : Int) > L
    · simp [c]
    · have c' : ¬ L < rd l (i : Int) := by omega
      simp [c']
  have j4 : ∀ hi2 lo2 : Int, hi2 = (run (fun x => !decide (x < H)) l (i + 1) : Nat) → lo2 = (run (fun x => !decide (x > L)) l (i + 1) : Nat) → Ev (fun k => spec_Alarms.j3 k l out on hi2 lo2 (i : Int) H L D) v := by
    rintro _ _ rfl rfl
    refine Ev.step (fun _ => rfl) ?_
    simp only [spec_Alarms.j3]
    unfold nOn at h
    generalize ((run (fun x => !decide (x < H)) l (i + 1) : Nat) : Int) = hi2 at h ⊢
    generalize ((run (fun x => !decide (x > L)) l (i + 1) : Nat) : Int) = lo2 at h ⊢
    cases on with
    | true =>
      refine ev_t rfl (Ev.step (fun _ => rfl) ?_)
      simp only [spec_Alarms.j4]
      rw [wr (x := (i : Int) + 1) (by omega)]
      by_cases c : D ≤ lo2
      · refine ev_t (by simpa using c) (ev_t (by omega) ?_)
        simpa [c] using h
      · refine ev_f (by simpa using c) (ev_t (by first | rfl | trivial) (ev_t (by omega) ?_))
        simpa [c] using h
    | false =>
      refine ev_f (by simp) (Ev.step (fun _ => rfl) ?_)
      simp only [spec_Alarms.j4]
      rw [wr (x := (i : Int) + 1) (by omega)]
      refine ev_f (by simp) (ev_f (by simp) ?_)
      by_cases c : D ≤ hi2
      · refine ev_t c (ev_t (by omega) ?_)
        simpa [c] using h
      · refine ev_f c (ev_t (by omega) ?_)
        simpa [c] using h
  have j2 : ∀ hi2 : Int, hi2 = (run (fun x => !decide (x < H)) l (i + 1) : Nat) → Ev (fun k => spec_Alarms.j2 k l out on hi2 (wrap64 ((run (fun x => !decide (x > L)) l i : Nat) + 1)) (i : Int) H L D) v := by
    intro hi2 hh
    refine Ev.step (fun _ => rfl) ?_
    simp only [spec_Alarms.j2]
    refine ev_t (by omega) (ev_t (by omega) ?_)
    by_cases c : rd l (i : Int) > L
    · exact ev_t c (j4 _ _ hh (by rw [e2, if_pos c]))
    · exact ev_f c (j4 _ _ hh (by rw [e2, if_neg c]))
  refine Ev.step (fun _ => rfl) ?_
  simp only [spec_Alarms.l0]
  refine ev_t (by omega) (ev_t (by omega) ?_)
  by_cases c : rd l (i : Int) < H
  · exact ev_t c (j2 _ (by rw [e1, if_pos c]))
  · exact ev_f c (j2 _ (by rw [e1, if_neg c]))
theorem al_i (H L D : Int) (hD : 1 ≤ D ∧ D ≤ 100) (l : List Int) (hl : l.length ≤ 500) (i : Nat) (hi : i < l.length) (out rest : List Bool) (ho : out.length = i) (hr : rest.length = l.length - i) (on : Bool) (v : List Bool × Bool)
    (h : Ev (fun k => impl_Alarms.l0 k l ((out ++ [nOn H L D l i on]) ++ rest.tail) (nOn H L D l i on) l.length ((i + 1 : Nat) : Int) H L D) v) :
    Ev (fun k => impl_Alarms.l0 k l (out ++ rest) on l.length (i : Int) H L D) v := by
  have hset : ∀ b : Bool, (out ++ rest).set (i : Int).toNat b = (out ++ [b]) ++ rest.tail := by
    intro b
    rw [Int.toNat_natCast, List.set_append_right (h := by omega), ho, Nat.sub_self]
    cases rest with
    | nil => simp at hr; omega
    | cons x r => simp
  have hlen : (i : Int) < ((out ++ rest).length : Int) := by rw [List.length_append]; omega
  refine Ev.step (fun _ => rfl) ?_
  simp only [impl_Alarms.l0, cf_impl_Alarms_1_170.f, cf_impl_Alarms_2_170.f, Option.bind_some]
  rw [wr (x := (i : Int) + 1) (by omega), wr (x := (i : Int) + 1 - D) (by omega)]
  refine ev_t (by omega) ?_
  have hn : (((i : Int) + 1 : Int)).toNat = i + 1 := by omega
  have hc : (i : Int) + 1 = ((i + 1 : Nat) : Int) := by omega
  by_cases c : (i : Int) + 1 ≥ D
  · refine ev_t c (ev_t (by omega) (ev_t (by omega) (ev_t (by omega) ?_)))
    have hs : ((i : Int) + 1 - D).toNat = (i + 1) - D.toNat := by omega
    cases on with
    | true =>
      refine ev_t rfl (ev_t (by omega) (ev_t hlen ?_))
      have e := win_run l (fun x => decide (x > L)) D.toNat (i + 1) (by omega) (by omega)
      rw [hn, hs, e, hset, hc]
      have e2 : (!decide (D.toNat ≤ run (fun x => !decide (x > L)) l (i + 1))) = nOn H L D l i true := by
        unfold nOn
        rw [if_pos rfl]
        congr 1
        rw [decide_eq_decide]
        omega
      rw [e2]
      exact h
    | false =>
      refine ev_f (by simp) (ev_t (by omega) (ev_t hlen ?_))
      have e := win_run l (fun x => decide (x < H)) D.toNat (i + 1) (by omega) (by omega)
      rw [hn, hs, e, hset, hc]
      have e2 : (!!decide (D.toNat ≤ run (fun x => !decide (x < H)) l (i + 1))) = nOn H L D l i false := by
        unfold nOn
        rw [if_neg (by simp), Bool.not_not, decide_eq_decide]
        omega
      rw [e2]
      exact h
  · refine ev_f c (ev_t (by omega) (ev_t hlen ?_))
    rw [hset, hc]
    have r1 := run_le (fun x => !decide (x < H)) l (i + 1)
    have r2 := run_le (fun x => !decide (x > L)) l (i + 1)
    have e2 : on = nOn H L D l i on := by
      unfold nOn
      cases on with
      | true => rw [if_pos rfl, decide_eq_false (by omega)]; rfl
      | false => rw [if_neg (by simp), decide_eq_false (by omega)]
    rw [← e2] at h
    exact h

end Go.Proofs.Ytlmohamgfindmab.Pu
