/- The pure statement of FnAlarms, proved: for every input that the opening lets in, the printed law comes to true. -/
import Derived.Test.YtlmohamgfindmabPu0
import Derived.Test.YtlmohamgfindmabPDx2
import Derived.Test.YtlmohamgfindmabPDx4
import Derived.Test.YtlmohamgfindmabPDx5
import Derived.Test.YtlmohamgfindmabPDx8
import Derived.Test.YtlmohamgfindmabDQBase
import Derived.Test.YtlmohamgfindmabDQDrawsAl
import Derived.Test.YtlmohamgfindmabDQAlRun
import Derived.Test.YtlmohamgfindmabStFnAlarms
namespace Go.Proofs.Ytlmohamgfindmab.Pure
open Go.RowKit Go.Proofs.Ytlmohamgfindmab Go.Proofs.Ytlmohamgfindmab.PD Go.Proofs.Ytlmohamgfindmab.Pu Go.Proofs.YtlmohamgfindmabW.PrintWords Go.Proofs.YtlmohamgfindmabW.PrintLast Go.Proofs.YtlmohamgfindmabW.PrintMore
set_option linter.unusedVariables false
set_option linter.unusedSimpArgs false
theorem al_strong (H L D : Int) (hD : 1 ≤ D ∧ D ≤ 100) (l : List Int) (hl : l.length ≤ 500) : ∀ i : Nat, i ≤ l.length → ∀ (out rest : List Bool) (on : Bool), out.length = i → rest.length = l.length - i →
    ∃ v : List Bool, v.length = l.length ∧ v.take i = out ∧ (∀ j : Nat, i ≤ j → j < l.length → rdOf false v (j : Int) = nOn H L D l j (if j = i then on else rdOf false v ((j : Int) - 1))) ∧
      Ev (fun k => spec_Alarms.l0 k l out on (run (fun x => !decide (x < H)) l i : Nat) (run (fun x => !decide (x > L)) l i : Nat) (i : Int) H L D) (v, true) ∧ Ev (fun k => impl_Alarms.l0 k l (out ++ rest) on l.length (i : Int) H L D) (v, true) := by
  refine down ?_ ?_
  · intro out rest on ho hr
    obtain rfl : rest = [] := List.eq_nil_of_length_eq_zero (by omega)
    refine ⟨out, ho, by rw [← ho, List.take_length], fun j h1 h2 => by omega, Ev.step (fun _ => rfl) ?_, Ev.step (fun _ => rfl) ?_⟩
    · simp only [spec_Alarms.l0]; exact ev_f (by omega) (Ev.now _)
    · simp only [impl_Alarms.l0]; rw [List.append_nil]; exact ev_f (by omega) (Ev.now _)
  · intro i hi ih out rest on ho hr
    obtain ⟨v, hv, ht, hs, v1, v2⟩ := ih (out ++ [nOn H L D l i on]) rest.tail (nOn H L D l i on) (by simp [ho]) (by rw [List.length_tail]; omega)
    have hvi : rdOf false v (i : Int) = nOn H L D l i on := by
      have e : v[i]'(by omega) = (v.take (i + 1))[i]'(by rw [List.length_take]; omega) := by rw [List.getElem_take]
      have e2 : (v.take (i + 1))[i]'(by rw [List.length_take]; omega) = nOn H L D l i on := by
        simp only [ht]
        rw [List.getElem_append_right (by omega)]
        simp
      simp only [rdOf, Int.toNat_natCast]
      simp [show i < v.length by omega, e, e2]
    refine ⟨v, hv, ?_, ?_, al_s H L D l hl i hi out ho on _ v1, al_i H L D hD l hl i hi out rest ho hr on _ v2⟩
    · have := congrArg (List.take i) ht
      rw [List.take_take, Nat.min_eq_left (by omega), List.take_append_of_le_length (by omega), ← ho, List.take_length] at this
      rw [← ho]; exact this
    · intro j h1 h2
      by_cases e : j = i
      · subst e; rw [if_pos rfl]; exact hvi
      · rw [if_neg e, hs j (by omega) h2]
        by_cases e2 : j = i + 1
        · subst e2
          rw [if_pos rfl, show ((i + 1 : Nat) : Int) - 1 = (i : Int) by omega, hvi]
        · rw [if_neg e2]
def allD (p : Int → Bool) (l : List Int) (s : Nat) : Nat → Bool
  | 0 => true
  | c + 1 => p (rd l ((s + c : Nat) : Int)) && allD p l s c
theorem allD_iff (p : Int → Bool) (l : List Int) (s : Nat) : ∀ c : Nat, allD p l s c = true ↔ ∀ j : Nat, s ≤ j → j < s + c → p (rd l (j : Int)) = true
  | 0 => by simp [allD]; omega
  | c + 1 => by
    simp only [allD, Bool.and_eq_true, allD_iff p l s c]
    constructor
    · rintro ⟨h1, h2⟩ j h3 h4
      by_cases e : j = s + c
      · rw [e]; exact h1
      · exact h2 j h3 (by omega)
    · intro h
      exact ⟨h _ (by omega) (by omega), fun j h1 h2 => h j h1 (by omega)⟩
theorem law_l1 (H L D : Int) (hD : 1 ≤ D ∧ D ≤ 100) (l : List Int) (hl : l.length ≤ 500) (v : List Bool) (was : Bool) (i : Nat) (hi : i < l.length) (s : Nat) (hs : (s : Int) = (if (i : Int) - D + 1 ≤ 0 then 0 else (i : Int) - D + 1)) (r : Bool) : ∀ c : Nat, s + c ≤ i + 1 → ∀ hg lo : Bool,
    Ev (fun k => laws_FnAlarms.j3 k l v was i (hg && allD (fun x => decide (x ≥ H)) l s c) (lo && allD (fun x => decide (x ≤ L)) l s c) H L D) r →
    Ev (fun k => laws_FnAlarms.l1 k l v was i hg lo ((s + c : Nat) - 1 : Int) H L D) r := by
  intro c
  induction c with
  | zero =>
    intro hc hg lo h
    refine Ev.step (fun _ => rfl) ?_
    simp only [laws_FnAlarms.l1]
    rw [wr (x := (i : Int) - D) (by omega)]
    simp only [allD, Bool.and_true] at h
    by_cases q : (i : Int) - D + 1 ≤ 0
    · rw [if_pos q] at hs
      by_cases q2 : ((s + 0 : Nat) - 1 : Int) > (i : Int) - D
      · exact ev_t q2 (ev_f (by omega) h)
      · exact ev_f q2 h
    · rw [if_neg q] at hs
      exact ev_f (by omega) h
  | succ c ih =>
    intro hc hg lo h
    refine Ev.step (fun _ => rfl) ?_
    simp only [laws_FnAlarms.l1]
    have e : ((s + (c + 1) : Nat) - 1 : Int) = ((s + c : Nat) : Int) := by omega
    rw [e, wr (x := (i : Int) - D) (by omega), wr (x := ((s + c : Nat) : Int) - 1) (by omega)]
    have hlo : (i : Int) - D < ((s + c : Nat) : Int) := by
      by_cases q : (i : Int) - D + 1 ≤ 0
      · omega
      · rw [if_neg q] at hs; omega
    refine ev_t hlo (ev_t (by omega) ?_)
    simp only [allD] at h
    rw [← Bool.and_assoc, ← Bool.and_assoc] at h
    cases hg with
    | true =>
      refine ev_t rfl (ev_t (by omega) (ev_t (by omega) ?_))
      cases lo with
      | true => exact ev_t rfl (ih (by omega) _ _ (by simpa using h))
      | false => exact ev_f (by simp) (ih (by omega) _ _ (by simpa using h))
    | false =>
      refine ev_f (by simp) ?_
      cases lo with
      | true => exact ev_t rfl (ev_t (by omega) (ev_t (by omega) (ih (by omega) _ _ (by simpa using h))))
      | false => exact ev_f (by simp) (ih (by omega) _ _ (by simpa using h))
theorem law_j3 (H L D : Int) (l : List Int) (v : List Bool) (hv : v.length = l.length) (hl : l.length ≤ 500) (i : Nat) (hi : i < l.length) (was hg lo : Bool) (hw : rdOf false v (i : Int) = (if was then !lo else hg))
    (h : Ev (fun k => laws_FnAlarms.l0 k l v (rdOf false v (i : Int)) ((i + 1 : Nat) : Int) H L D) true) : Ev (fun k => laws_FnAlarms.j3 k l v was i hg lo H L D) true := by
  have j6 : ∀ x y : Bool, (if y = true then true else x) = rdOf false v (i : Int) → Ev (fun k => laws_FnAlarms.j6 k l v i x y H L D) true := by
    intro x y hxy
    refine Ev.step (fun _ => rfl) ?_
    simp only [laws_FnAlarms.j6]
    rw [wr (x := (i : Int) + 1) (by omega)]
    have h : Ev (fun k => laws_FnAlarms.l0 k l v (rdOf false v (i : Int)) ((i : Int) + 1) H L D) true := h
    cases y with
    | true =>
      rw [if_pos rfl] at hxy
      exact ev_t rfl (ev_t (by omega) (ev_t (by omega) (ev_f (by rw [← hxy]; simp) h)))
    | false =>
      rw [if_neg (by simp)] at hxy
      exact ev_f (by simp) (ev_t (by omega) (ev_t (by omega) (ev_f (by rw [← hxy]; simp) h)))
  refine Ev.step (fun _ => rfl) ?_
  simp only [laws_FnAlarms.j3]
  cases was with
  | true =>
    rw [if_pos rfl] at hw
    refine ev_t rfl (Ev.step (fun _ => rfl) ?_)
    simp only [laws_FnAlarms.j4]
    cases lo with
    | true =>
      refine ev_t rfl (Ev.step (fun _ => rfl) ?_)
      simp only [laws_FnAlarms.j5]
      exact ev_t (by first | rfl | trivial) (j6 _ _ (by rw [hw]; rfl))
    | false =>
      refine ev_f (by simp) (Ev.step (fun _ => rfl) ?_)
      simp only [laws_FnAlarms.j5]
      exact ev_t (by first | rfl | trivial) (j6 _ _ (by rw [hw]; rfl))
  | false =>
    rw [if_neg (by simp)] at hw
    refine ev_f (by simp) (Ev.step (fun _ => rfl) ?_)
    simp only [laws_FnAlarms.j4]
    refine ev_f (by simp) (Ev.step (fun _ => rfl) ?_)
    simp only [laws_FnAlarms.j5]
    refine ev_f (by simp) (j6 _ _ ?_)
    rw [hw]; cases hg <;> rfl
theorem win_all (l : List Int) (p : Int → Bool) (D : Int) (hD : 1 ≤ D) (i s : Nat) (hs : (s : Int) = (if (i : Int) - D + 1 ≤ 0 then 0 else (i : Int) - D + 1)) : (decide ((i : Int) + 1 ≥ D) && allD p l s (i + 1 - s)) = decide (D ≤ (run p l (i + 1) : Nat)) := by
  rw [Bool.eq_iff_iff, Bool.and_eq_true, decide_eq_true_eq, decide_eq_true_eq, allD_iff]
  have e : D ≤ ((run p l (i + 1) : Nat) : Int) ↔ D.toNat ≤ run p l (i + 1) := by omega
  rw [e, run_iff]
  have hsi : s ≤ i + 1 := by
    by_cases q : (i : Int) - D + 1 ≤ 0
    · rw [if_pos q] at hs; omega
    · rw [if_neg q] at hs; omega
  constructor
  · rintro ⟨h1, h2⟩
    refine ⟨by omega, fun j h3 h4 => h2 j ?_ (by omega)⟩
    by_cases q : (i : Int) - D + 1 ≤ 0
    · rw [if_pos q] at hs; omega
    · rw [if_neg q] at hs; omega
  · rintro ⟨h1, h2⟩
    refine ⟨by omega, fun j h3 h4 => h2 j ?_ (by omega)⟩
    by_cases q : (i : Int) - D + 1 ≤ 0
    · rw [if_pos q] at hs; omega
    · rw [if_neg q] at hs; omega
theorem run_congr {p q : Int → Bool} (h : ∀ x, p x = q x) (l : List Int) (i : Nat) : run p l i = run q l i := by rw [show p = q from funext h]
theorem law_l0 (H L D : Int) (hD : 1 ≤ D ∧ D ≤ 100) (l : List Int) (hl : l.length ≤ 500) (v : List Bool) (hv : v.length = l.length) (hs : ∀ j : Nat, j < l.length → rdOf false v (j : Int) = nOn H L D l j (if j = 0 then false else rdOf false v ((j : Int) - 1))) :
    ∀ i : Nat, i ≤ l.length → Ev (fun k => laws_FnAlarms.l0 k l v (if i = 0 then false else rdOf false v ((i : Int) - 1)) (i : Int) H L D) true := by
  refine down ?_ ?_
  · refine Ev.step (fun _ => rfl) ?_
    simp only [laws_FnAlarms.l0]
    exact ev_f (by omega) (Ev.now _)
  · intro i hi ih
    rw [if_neg (by omega), show ((i + 1 : Nat) : Int) - 1 = (i : Int) by omega] at ih
    have hsi := hs i hi
    generalize (if i = 0 then false else rdOf false v ((i : Int) - 1)) = was at hsi ⊢
    refine Ev.step (fun _ => rfl) ?_
    simp only [laws_FnAlarms.l0]
    rw [wr (x := (i : Int) + 1) (by omega)]
    refine ev_t (by omega) ?_
    obtain ⟨s, hsd⟩ : ∃ s : Nat, (s : Int) = (if (i : Int) - D + 1 ≤ 0 then 0 else (i : Int) - D + 1) := by
      by_cases q : (i : Int) - D + 1 ≤ 0
      · exact ⟨0, by rw [if_pos q]; rfl⟩
      · exact ⟨((i : Int) - D + 1).toNat, by rw [if_neg q]; omega⟩
    have hsi2 : s ≤ i := by
      by_cases q : (i : Int) - D + 1 ≤ 0
      · rw [if_pos q] at hsd; omega
      · rw [if_neg q] at hsd; omega
    have := law_l1 H L D hD l hl v was i hi s hsd true (i + 1 - s) (by omega) (decide ((i : Int) + 1 ≥ D)) (decide ((i : Int) + 1 ≥ D)) (by
      rw [win_all l _ D hD.1 i s hsd, win_all l _ D hD.1 i s hsd]
      refine law_j3 H L D l v hv hl i hi was _ _ ?_ ih
      rw [hsi]
      unfold nOn
      rw [run_congr (p := fun x => decide (x ≥ H)) (q := fun x => !decide (x < H)) (fun x => by rw [Bool.eq_iff_iff]; simp), run_congr (p := fun x => decide (x ≤ L)) (q := fun x => !decide (x > L)) (fun x => by rw [Bool.eq_iff_iff]; simp)])
    rw [show ((s + (i + 1 - s) : Nat) - 1 : Int) = (i : Int) by omega] at this
    exact this
theorem P_FnAlarms : ∀ l : List Int, l.length ≤ maxLen → ∃ k, laws_FnAlarms.f k l = some true := by
  intro c hc
  refine Ev.rounds ?_
  simp only [laws_FnAlarms.f, laws_big.f, Option.bind_some]
  by_cases hb : (c.length : Int) > 1048576
  · exact ev_t (by simpa using hb) (Ev.now _)
  refine ev_f (by simpa using hb) ?_
  obtain ⟨H, L, D, l, hl, hd⟩ := drawAl c (by omega)
  have t1 : Ev (fun k => spec_Alarms.j0 k l true H L D) (([] : List Bool), false) := Ev.step (fun _ => rfl) (by simp only [spec_Alarms.j0]; exact Ev.now _)
  have t2 : Ev (fun k => impl_Alarms.j0 k l true H L D) (([] : List Bool), false) := Ev.step (fun _ => rfl) (by simp only [impl_Alarms.j0]; exact Ev.now _)
  have key : (Ev (fun k => impl_Alarms.f k H L D l) (([] : List Bool), false) ∧ Ev (fun k => spec_Alarms.f k H L D l) (([] : List Bool), false)) ∨
      (∃ v : List Bool, (1 ≤ D ∧ D ≤ 100) ∧ l.length ≤ 500 ∧ v.length = l.length ∧ (∀ j : Nat, j < l.length → rdOf false v (j : Int) = nOn H L D l j (if j = 0 then false else rdOf false v ((j : Int) - 1))) ∧ Ev (fun k => impl_Alarms.f k H L D l) (v, true) ∧ Ev (fun k => spec_Alarms.f k H L D l) (v, true)) := by
    simp only [spec_Alarms.f, impl_Alarms.f, l1In_eq, in_eq, Option.bind_some]
    cases inB H (-1000000) 1000000 with
    | false => exact .inl ⟨by simpa using t2, by simpa using t1⟩
    | true =>
    cases inB L (-1000000) H with
    | false => exact .inl ⟨by simpa using t2, by simpa using t1⟩
    | true =>
    cases hD : inB D 1 100 with
    | false => exact .inl ⟨by simpa using t2, by simpa using t1⟩
    | true =>
      by_cases hn : (l.length : Int) > 500
      · rw [decide_eq_true hn]
        exact .inl ⟨by simpa using t2, by simpa using t1⟩
      · rw [decide_eq_false hn]
        obtain ⟨v, hv, _, hs, v1, v2⟩ := al_strong H L D (inB_t.1 hD) l (by omega) 0 (Nat.zero_le _) [] (List.replicate l.length false) false rfl (by simp)
        have u1 : Ev (fun k => spec_Alarms.j0 k l false H L D) (v, true) := Ev.step (fun _ => rfl) (by simp only [spec_Alarms.j0]; exact ev_f (by simp) (by simpa [run] using v1))
        have u2 : Ev (fun k => impl_Alarms.j0 k l false H L D) (v, true) := Ev.step (fun _ => rfl) (by simp only [impl_Alarms.j0, Int.toNat_natCast]; exact ev_f (by simp) (ev_t (by omega) (ev_t (by omega) (by simpa using v2))))
        exact .inr ⟨v, inB_t.1 hD, by omega, hv, fun j hj => hs j (Nat.zero_le _) hj, ev_t (by first | rfl | trivial) (ev_t (by first | rfl | trivial) (ev_t (by first | rfl | trivial) u2)), ev_t (by first | rfl | trivial) (ev_t (by first | rfl | trivial) (ev_t (by first | rfl | trivial) u1))⟩
  rcases key with ⟨k1, k2⟩ | ⟨v, hD, hl5, hv, hs, k1, k2⟩
  · exact Ev.bind hd (Ev.bind k1 (Ev.bind k2 (ev_f (by simp) (ev_f (by simp) (Ev.now _)))))
  · have e := law_l0 H L D hD l hl5 v hv hs 0 (Nat.zero_le _)
    rw [if_pos rfl] at e
    have u : Ev (fun k => laws_FnAlarms.j0 k l v ((v.length : Int) != (l.length : Int)) H L D) true := by
      rw [show ((v.length : Int) != (l.length : Int)) = false by simp [hv]]
      exact Ev.step (fun _ => rfl) (by simp only [laws_FnAlarms.j0]; exact ev_f (by simp) e)
    exact Ev.bind hd (Ev.bind k1 (Ev.bind k2 (ev_t rfl (ev_t rfl u))))
theorem FnAlarms : laws_FnAlarms.Pure := fun l h => P_FnAlarms l h.1

end Go.Proofs.Ytlmohamgfindmab.Pure
