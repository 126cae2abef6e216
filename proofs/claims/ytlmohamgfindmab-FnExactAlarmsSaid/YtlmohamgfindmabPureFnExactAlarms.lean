/- The pure statement of FnExactAlarms, proved: for every input that the opening lets in, the printed law comes to true. -/
import Derived.Test.YtlmohamgfindmabPu0
import Derived.Test.YtlmohamgfindmabPBx2
import Derived.Test.YtlmohamgfindmabPBx3
import Derived.Test.YtlmohamgfindmabPBx4
import Derived.Test.YtlmohamgfindmabPBx7
import Derived.Test.YtlmohamgfindmabBQBase
import Derived.Test.YtlmohamgfindmabBQConvIntS
import Derived.Test.YtlmohamgfindmabBQBMarks
import Derived.Test.YtlmohamgfindmabStFnExactAlarms
namespace Go.Proofs.Ytlmohamgfindmab.Pure
open Go.RowKit Go.Proofs.Ytlmohamgfindmab Go.Proofs.Ytlmohamgfindmab.PB Go.Proofs.Ytlmohamgfindmab.Pu Go.Proofs.YtlmohamgfindmabW.PrintWords Go.Proofs.YtlmohamgfindmabW.PrintLast Go.Proofs.YtlmohamgfindmabW.PrintMore
set_option linter.unusedVariables false
set_option linter.unusedSimpArgs false
def run (p : Int → Bool) (l : List Int) : Nat → Nat
  | 0 => 0
  | i + 1 => if p (rd l (i : Int)) then run p l i + 1 else 0
theorem run_le (p : Int → Bool) (l : List Int) : ∀ i, run p l i ≤ i
  | 0 => Nat.le_refl _
  | i + 1 => by
    unfold run
    have := run_le p l i
    split <;> omega
theorem run_iff (p : Int → Bool) (l : List Int) : ∀ i d : Nat, d ≤ run p l i ↔ d ≤ i ∧ ∀ j : Nat, i - d ≤ j → j < i → p (rd l (j : Int)) = true
  | 0, d => by
    unfold run
    constructor
    · intro h; exact ⟨h, fun j _ h2 => by omega⟩
    · intro h; exact h.1
  | i + 1, d => by
    unfold run
    cases hp : p (rd l (i : Int)) with
    | true =>
      simp only [if_true]
      cases d with
      | zero => exact ⟨fun _ => ⟨by omega, fun j h1 h2 => by omega⟩, fun _ => by omega⟩
      | succ d =>
        rw [show d + 1 ≤ run p l i + 1 ↔ d ≤ run p l i by omega, run_iff p l i d]
        constructor
        · rintro ⟨h1, h2⟩
          refine ⟨by omega, fun j h3 h4 => ?_⟩
          by_cases e : j = i
          · rw [e]; exact hp
          · exact h2 j (by omega) (by omega)
        · rintro ⟨h1, h2⟩
          exact ⟨by omega, fun j h3 h4 => h2 j (by omega) (by omega)⟩
    | false =>
      simp only [Bool.false_eq_true, if_false]
      constructor
      · intro h; exact ⟨by omega, fun j h1 h2 => by omega⟩
      · rintro ⟨h1, h2⟩
        apply Classical.byContradiction
        intro hn
        have := h2 i (by omega) (by omega)
        rw [hp] at this
        cases this
theorem any_win (l : List Int) (q : Int → Bool) (s m : Nat) (hm : m ≤ l.length) : ((l.take m).drop s).any q = true ↔ ∃ j : Nat, s ≤ j ∧ j < m ∧ q (rd l (j : Int)) = true := by
  rw [List.any_eq_true]
  constructor
  · rintro ⟨x, hx, hq⟩
    obtain ⟨i, hi, rfl⟩ := List.getElem_of_mem hx
    have hi2 : s + i < m := by rw [List.length_drop, List.length_take] at hi; omega
    refine ⟨s + i, by omega, hi2, ?_⟩
    rw [List.getElem_drop, List.getElem_take] at hq
    rwa [show rd l ((s + i : Nat) : Int) = l[s + i] by (simp only [rd, Int.toNat_natCast]; simp [show s + i < l.length by omega])]
  · rintro ⟨j, h1, h2, h3⟩
    refine ⟨l[j], ?_, ?_⟩
    · rw [List.mem_iff_getElem]
      refine ⟨j - s, by rw [List.length_drop, List.length_take]; omega, ?_⟩
      rw [List.getElem_drop, List.getElem_take]
      congr 1
      omega
    · rwa [show rd l (j : Int) = l[j] by simp [rd, show j < l.length by omega]] at h3
theorem win_run (l : List Int) (q : Int → Bool) (d m : Nat) (hm : m ≤ l.length) (hd : d ≤ m) : ((l.take m).drop (m - d)).any q = !decide (d ≤ run (fun x => !q x) l m) := by
  rw [Bool.eq_iff_iff, any_win l q (m - d) m hm, Bool.not_eq_true', decide_eq_false_iff_not, run_iff]
  constructor
  · rintro ⟨j, h1, h2, h3⟩ ⟨_, h4⟩
    have := h4 j h1 h2
    rw [h3] at this
    cases this
  · intro h
    apply Classical.byContradiction
    intro hn
    apply h
    refine ⟨hd, fun j h1 h2 => ?_⟩
    cases hq : q (rd l (j : Int)) with
    | false => rfl
    | true => exact absurd ⟨j, h1, h2, hq⟩ hn
def nOn (H L D : Int) (l : List Int) (i : Nat) (on : Bool) : Bool :=
  if on then !decide (D ≤ (run (fun x => !decide (x > L)) l (i + 1) : Nat)) else decide (D ≤ (run (fun x => !decide (x < H)) l (i + 1) : Nat))
theorem al_s (H L D : Int) (l : List Int) (hl : l.length ≤ 500) (i : Nat) (hi : i < l.length) (out : List Bool) (ho : out.length = i) (on : Bool) (v : List Bool × Bool)
    (h : Ev (fun k => spec_Alarms.l0 k l (out ++ [nOn H L D l i on]) (nOn H L D l i on) (run (fun x => !decide (x < H)) l (i + 1) : Nat) (run (fun x => !decide (x > L)) l (i + 1) : Nat) ((i + 1 : Nat) : Int) H L D) v) :
    Ev (fun k => spec_Alarms.l0 k l out on (run (fun x => !decide (x < H)) l i : Nat) (run (fun x => !decide (x > L)) l i : Nat) (i : Int) H L D) v := by
  have r1 := run_le (fun x => !decide (x < H)) l i
  have r2 := run_le (fun x => !decide (x > L)) l i
  have e1 : ((run (fun x => !decide (x < H)) l (i + 1) : Nat) : Int) = if rd l (i : Int) < H then 0 else wrap64 ((run (fun x => !decide (x < H)) l i : Nat) + 1) := by
    rw [wr (by omega)]
    conv => lhs; unfold run
    by_cases c : rd l (i : Int) < H <;> simp [c]
  have e2 : ((run (fun x => !decide (x > L)) l (i + 1) : Nat) : Int) = if rd l (i : Int) > L then 0 else wrap64 ((run (fun x => !decide (x > L)) l i : Nat) + 1) := by
    rw [wr (by omega)]
    conv => lhs; unfold run
    by_cases c : rd l (i : Int) > L
    · simp [c]
    · have c' : ¬ L < rd l (i : Int) := by omega
      simp [c']
  have j4 : ∀ hi2 lo2 : Int, hi2 = (run (fun x => !decide (x < H)) l (i + 1) : Nat) → lo2 = (run (fun x => !decide (x > L)) l (i + 1) : Nat) → Ev (fun k => spec_Alarms.j3 k l out on hi2 lo2 (i : Int) H L D) v := by
    rintro _ _ rfl rfl
    refine Ev.step (fun _ => rfl) ?_
    simp only [spec_Alarms.j3]
    unfold nOn at h
    generalize ((run (fun x => !decide (x < H)) l (i + 1) : Nat) : Int) = hi2 at h ⊢
    generalize ((run (fun x => !decide (x > L)) l (i + 1) : Nat) : Int) = lo2 at h ⊢
    cases on with
    | true =>
      refine ev_t rfl (Ev.step (fun _ => rfl) ?_)
      simp only [spec_Alarms.j4]
      rw [wr (x := (i : Int) + 1) (by omega)]
      by_cases c : D ≤ lo2
      · refine ev_t (by simpa using c) (ev_t (by omega) ?_)
        simpa [c] using h
      · refine ev_f (by simpa using c) (ev_t (by first | rfl | trivial) (ev_t (by omega) ?_))
        simpa [c] using h
    | false =>
      refine ev_f (by simp) (Ev.step (fun _ => rfl) ?_)
      simp only [spec_Alarms.j4]
      rw [wr (x := (i : Int) + 1) (by omega)]
      refine ev_f (by simp) (ev_f (by simp) ?_)
      by_cases c : D ≤ hi2
      · refine ev_t c (ev_t (by omega) ?_)
        simpa [c] using h
      · refine ev_f c (ev_t (by omega) ?_)
        simpa [c] using h
  have j2 : ∀ hi2 : Int, hi2 = (run (fun x => !decide (x < H)) l (i + 1) : Nat) → Ev (fun k => spec_Alarms.j2 k l out on hi2 (wrap64 ((run (fun x => !decide (x > L)) l i : Nat) + 1)) (i : Int) H L D) v := by
    intro hi2 hh
    refine Ev.step (fun _ => rfl) ?_
    simp only [spec_Alarms.j2]
    refine ev_t (by omega) (ev_t (by omega) ?_)
    by_cases c : rd l (i : Int) > L
    · exact ev_t c (j4 _ _ hh (by rw [e2, if_pos c]))
    · exact ev_f c (j4 _ _ hh (by rw [e2, if_neg c]))
  refine Ev.step (fun _ => rfl) ?_
  simp only [spec_Alarms.l0]
  refine ev_t (by omega) (ev_t (by omega) ?_)
  by_cases c : rd l (i : Int) < H
  · exact ev_t c (j2 _ (by rw [e1, if_pos c]))
  · exact ev_f c (j2 _ (by rw [e1, if_neg c]))
theorem al_i (H L D : Int) (hD : 1 ≤ D ∧ D ≤ 100) (l : List Int) (hl : l.length ≤ 500) (i : Nat) (hi : i < l.length) (out rest : List Bool) (ho : out.length = i) (hr : rest.length = l.length - i) (on : Bool) (v : List Bool × Bool)
    (h : Ev (fun k => impl_Alarms.l0 k l ((out ++ [nOn H L D l i on]) ++ rest.tail) (nOn H L D l i on) l.length ((i + 1 : Nat) : Int) H L D) v) :
    Ev (fun k => impl_Alarms.l0 k l (out ++ rest) on l.length (i : Int) H L D) v := by
  have hset : ∀ b : Bool, (out ++ rest).set (i : Int).toNat b = (out ++ [b]) ++ rest.tail := by
    intro b
    rw [Int.toNat_natCast, List.set_append_right (h := by omega), ho, Nat.sub_self]
    cases rest with
    | nil => simp at hr; omega
    | cons x r => simp
  have hlen : (i : Int) < ((out ++ rest).length : Int) := by rw [List.length_append]; omega
  refine Ev.step (fun _ => rfl) ?_
  simp only [impl_Alarms.l0, cf_impl_Alarms_1_178.f, cf_impl_Alarms_2_178.f, Option.bind_some]
  rw [wr (x := (i : Int) + 1) (by omega), wr (x := (i : Int) + 1 - D) (by omega)]
  refine ev_t (by omega) ?_
  have hn : (((i : Int) + 1 : Int)).toNat = i + 1 := by omega
  have hc : (i : Int) + 1 = ((i + 1 : Nat) : Int) := by omega
  by_cases c : (i : Int) + 1 ≥ D
  · refine ev_t c (ev_t (by omega) (ev_t (by omega) (ev_t (by omega) ?_)))
    have hs : ((i : Int) + 1 - D).toNat = (i + 1) - D.toNat := by omega
    cases on with
    | true =>
      refine ev_t rfl (ev_t (by omega) (ev_t hlen ?_))
      have e := win_run l (fun x => decide (x > L)) D.toNat (i + 1) (by omega) (by omega)
      rw [hn, hs, e, hset, hc]
      have e2 : (!decide (D.toNat ≤ run (fun x => !decide (x > L)) l (i + 1))) = nOn H L D l i true := by
        unfold nOn
        rw [if_pos rfl]
        congr 1
        rw [decide_eq_decide]
        omega
      rw [e2]
      exact h
    | false =>
      refine ev_f (by simp) (ev_t (by omega) (ev_t hlen ?_))
      have e := win_run l (fun x => decide (x < H)) D.toNat (i + 1) (by omega) (by omega)
      rw [hn, hs, e, hset, hc]
      have e2 : (!!decide (D.toNat ≤ run (fun x => !decide (x < H)) l (i + 1))) = nOn H L D l i false := by
        unfold nOn
        rw [if_neg (by simp), Bool.not_not, decide_eq_decide]
        omega
      rw [e2]
      exact h
  · refine ev_f c (ev_t (by omega) (ev_t hlen ?_))
    rw [hset, hc]
    have r1 := run_le (fun x => !decide (x < H)) l (i + 1)
    have r2 := run_le (fun x => !decide (x > L)) l (i + 1)
    have e2 : on = nOn H L D l i on := by
      unfold nOn
      cases on with
      | true => rw [if_pos rfl, decide_eq_false (by omega)]; rfl
      | false => rw [if_neg (by simp), decide_eq_false (by omega)]
    rw [← e2] at h
    exact h
theorem al_l0 (H L D : Int) (hD : 1 ≤ D ∧ D ≤ 100) (l : List Int) (hl : l.length ≤ 500) : ∀ i : Nat, i ≤ l.length → ∀ (out rest : List Bool) (on : Bool), out.length = i → rest.length = l.length - i →
    ∃ v : List Bool, v.length = l.length ∧ Ev (fun k => spec_Alarms.l0 k l out on (run (fun x => !decide (x < H)) l i : Nat) (run (fun x => !decide (x > L)) l i : Nat) (i : Int) H L D) (v, true) ∧ Ev (fun k => impl_Alarms.l0 k l (out ++ rest) on l.length (i : Int) H L D) (v, true) := by
  refine down ?_ ?_
  · intro out rest on ho hr
    obtain rfl : rest = [] := List.eq_nil_of_length_eq_zero (by omega)
    refine ⟨out, ho, Ev.step (fun _ => rfl) ?_, Ev.step (fun _ => rfl) ?_⟩
    · simp only [spec_Alarms.l0]; exact ev_f (by omega) (Ev.now _)
    · simp only [impl_Alarms.l0]; rw [List.append_nil]; exact ev_f (by omega) (Ev.now _)
  · intro i hi ih out rest on ho hr
    obtain ⟨v, hv, v1, v2⟩ := ih (out ++ [nOn H L D l i on]) rest.tail (nOn H L D l i on) (by simp [ho]) (by rw [List.length_tail]; omega)
    exact ⟨v, hv, al_s H L D l hl i hi out ho on _ v1, al_i H L D hD l hl i hi out rest ho hr on _ v2⟩
theorem al_same (H L D : Int) (l : List Int) (hl : l.length ≤ 1048576) : ∃ (v : List Bool) (t : Bool), v.length ≤ 1048576 ∧ Ev (fun k => spec_Alarms.f k H L D l) (v, t) ∧ Ev (fun k => impl_Alarms.f k H L D l) (v, t) := by
  have t1 : Ev (fun k => spec_Alarms.j0 k l true H L D) (([] : List Bool), false) := Ev.step (fun _ => rfl) (by simp only [spec_Alarms.j0]; exact Ev.now _)
  have t2 : Ev (fun k => impl_Alarms.j0 k l true H L D) (([] : List Bool), false) := Ev.step (fun _ => rfl) (by simp only [impl_Alarms.j0]; exact Ev.now _)
  simp only [spec_Alarms.f, impl_Alarms.f, l1In_eq, in_eq, Option.bind_some]
  cases inB H (-1000000) 1000000 with
  | false => exact ⟨[], false, by simp, by simpa using t1, by simpa using t2⟩
  | true =>
  cases inB L (-1000000) H with
  | false => exact ⟨[], false, by simp, by simpa using t1, by simpa using t2⟩
  | true =>
  cases hD : inB D 1 100 with
  | false => exact ⟨[], false, by simp, by simpa using t1, by simpa using t2⟩
  | true =>
    by_cases hn : (l.length : Int) > 500
    · rw [decide_eq_true hn]
      exact ⟨[], false, by simp, by simpa using t1, by simpa using t2⟩
    · rw [decide_eq_false hn]
      obtain ⟨v, hv, v1, v2⟩ := al_l0 H L D (inB_t.1 hD) l (by omega) 0 (Nat.zero_le _) [] (List.replicate l.length false) false rfl (by simp)
      have u1 : Ev (fun k => spec_Alarms.j0 k l false H L D) (v, true) := Ev.step (fun _ => rfl) (by simp only [spec_Alarms.j0]; exact ev_f (by simp) (by simpa [run] using v1))
      have u2 : Ev (fun k => impl_Alarms.j0 k l false H L D) (v, true) := Ev.step (fun _ => rfl) (by simp only [impl_Alarms.j0, Int.toNat_natCast]; exact ev_f (by simp) (ev_t (by omega) (ev_t (by omega) (by simpa using v2))))
      exact ⟨v, true, by omega, ev_t (by first | rfl | trivial) (ev_t (by first | rfl | trivial) (ev_t (by first | rfl | trivial) u1)), ev_t (by first | rfl | trivial) (ev_t (by first | rfl | trivial) (ev_t (by first | rfl | trivial) u2))⟩
theorem P_Alarms : ∀ (H L D : Int) (l : List Int), l.length ≤ maxLen → ∃ k, laws_FnExactAlarms.f k H L D l = some true := by
  intro H L D l hl
  refine Ev.rounds ?_
  unfold maxLen at hl
  simp only [laws_FnExactAlarms.f, laws_toAlarmRule.f, Option.bind_some]
  by_cases hw : (l.length : Int) > 1048576
  · exact ev_t hw (Ev.now _)
  refine ev_f hw ?_
  have ht := toIntS_id l (by omega)
  obtain ⟨v, t, hv, v1, v2⟩ := al_same H L D l (by omega)
  have hm := markIntS_ev l (by omega)
  have hb := markBoolS_ev v (by omega)
  have hh := heldBoolS_ev v.length (by omega)
  have he := eqBoolS_ev v (by omega)
  have u2 : Ev (fun k => laws_FnExactAlarms.j2 k (mks v.length) ((v.length : Int) + 1) false) true := Ev.step (fun _ => rfl) (by
    simp only [laws_FnExactAlarms.j2]
    exact ev_f (by simp) (Ev.bind hh (ev_f (by omega) (ev_t (by first | rfl | trivial) (Ev.now _)))))
  have u1 : Ev (fun k => laws_FnExactAlarms.j1 k l v t v false H L D) true := Ev.step (fun _ => rfl) (by
    simp only [laws_FnExactAlarms.j1, laws_toAlarmRule.f, Option.bind_some]
    exact ev_f (by simp) (Ev.bind hb (Ev.bind hh (ev_f (by omega) (ev_t (by first | rfl | trivial) (Ev.bind ht (Ev.bind v2 (Ev.bind he (ev_t rfl (by simpa using u2))))))))))
  have u0 : Ev (fun k => laws_FnExactAlarms.j0 k l v t l v t false H L D) true := Ev.step (fun _ => rfl) (by
    simp only [laws_FnExactAlarms.j0]
    exact ev_f (by simp) (Ev.bind ht (Ev.bind (eqIntS_ev l (by omega)) (ev_t rfl (Ev.bind hm (ev_f (by show ¬ ((l.length : Int) + 1 < 0); omega) (Ev.bind he (ev_t rfl (by simpa using u1)))))))))
  exact Ev.bind ht (Ev.bind v1 (Ev.bind ht (Ev.bind v2 (Ev.bind he (ev_t rfl (by simpa using u0))))))
theorem FnExactAlarms : laws_FnExactAlarms.Pure := fun x l h h2 => P_Alarms _ _ _ l h2.1

end Go.Proofs.Ytlmohamgfindmab.Pure
