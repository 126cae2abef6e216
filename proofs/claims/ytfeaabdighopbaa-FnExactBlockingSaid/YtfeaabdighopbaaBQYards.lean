/- Plain lemmas on the printed functions (Yards). -/
import Derived.Test.YtfeaabdighopbaaPu0
import Derived.Test.YtfeaabdighopbaaPBx0
import Derived.Test.YtfeaabdighopbaaPBx1
import Derived.Test.YtfeaabdighopbaaPBx2
import Derived.Test.YtfeaabdighopbaaPBx3
import Derived.Test.YtfeaabdighopbaaPBx6
import Derived.Test.YtfeaabdighopbaaPBx7
import Derived.Test.YtfeaabdighopbaaPBx9
import Derived.Test.YtfeaabdighopbaaBQBase
import Derived.Test.YtfeaabdighopbaaBQConvIntS
namespace Go.Proofs.Ytfeaabdighopbaa.Pu
open Go.RowKit Go.Proofs.Ytfeaabdighopbaa Go.Proofs.Ytfeaabdighopbaa.PB Go.Proofs.Ytfeaabdighopbaa.Pu Go.Proofs.YtfeaabdighopbaaW.PrintWords Go.Proofs.YtfeaabdighopbaaW.PrintLast Go.Proofs.YtfeaabdighopbaaW.PrintMore
set_option linter.unusedVariables false
set_option linter.unusedSimpArgs false
theorem ev_ite {α : Type} {c : Prop} [Decidable c] {f g : Nat → Option α} {r : α} (ht : c → Ev f r) (hf : ¬ c → Ev g r) : Ev (fun k => if c then f k else g k) r := by
  by_cases h : c
  · exact ev_t h (ht h)
  · exact ev_f h (hf h)
def flen (ls : List (List Int)) : Nat := ls.flatten.length
theorem drop_row (ls : List (List Int)) (i : Nat) (hi : i < ls.length) : ls.drop i = rd_L1 ls i :: ls.drop (i + 1) := by
  rw [List.drop_eq_getElem_cons hi]
  congr 1
  simp [rd_L1, List.getD, hi]
theorem drop_el (s : List Int) (j : Nat) (hj : j < s.length) : s.drop j = rd s j :: s.drop (j + 1) := by
  rw [List.drop_eq_getElem_cons hj]
  congr 1
  simp [rd, List.getD, hj]
theorem szRows_ev (ls : List (List Int)) (hl : ls.length ≤ 9223372036854775807) (hs : ∀ s ∈ ls, s.length ≤ 9223372036854775807) : ∃ s, Ev (fun k => laws_szIntSS.f k ls 1048576) s ∧ (0 ≤ s → ls.length + ls.flatten.length ≤ 1048576) := by
  have key : ∀ i : Nat, i ≤ ls.length → ∀ a : Nat, a ≤ 1048576 → ls.length ≤ 1048576 → ∃ s, Ev (fun k => laws_szIntSS.l0 k ls a i) s ∧ (0 ≤ s → (ls.drop i).flatten.length ≤ a) := by
    refine down ?_ ?_
    · intro a ha hn
      refine ⟨a, Ev.step (fun _ => rfl) ?_, fun _ => by simp⟩
      simp only [laws_szIntSS.l0]
      exact ev_f (by omega) (Ev.now _)
    · intro i hi ih a ha hn
      have hm : (rd_L1 ls i).length ≤ 9223372036854775807 := hs _ (by rw [show rd_L1 ls i = ls[i] by simp [rd_L1, List.getD, hi]]; exact List.getElem_mem hi)
      have hsz : ∀ k : Nat, laws_szIntS.f (rd_L1 ls i) a = if (a : Int) - (rd_L1 ls i).length < 0 then some (-1) else some ((a : Int) - (rd_L1 ls i).length) := by
        intro k
        simp only [laws_szIntS.f]
        rw [wr (by omega)]
      by_cases c : (a : Int) - (rd_L1 ls i).length < 0
      · refine ⟨-1, Ev.step (fun _ => rfl) ?_, fun h => absurd h (by decide)⟩
        simp only [laws_szIntSS.l0, hsz 0, if_pos c, Option.bind_some]
        exact ev_t (by omega) (ev_t (by omega) (ev_t (by decide) (Ev.now _)))
      · obtain ⟨s, h1, h2⟩ := ih (a - (rd_L1 ls i).length) (by omega) hn
        refine ⟨s, Ev.step (fun _ => rfl) ?_, fun h => ?_⟩
        · simp only [laws_szIntSS.l0, hsz 0, if_neg c, Option.bind_some]
          rw [wr (x := (i : Int) + 1) (by omega), show (a : Int) - (rd_L1 ls i).length = ((a - (rd_L1 ls i).length : Nat) : Int) by omega]
          exact ev_t (by omega) (ev_t (by omega) h1)
        · have h3 := h2 h
          rw [drop_row ls i hi, List.flatten_cons, List.length_append]
          omega
  simp only [laws_szIntSS.f]
  rw [wr (by omega)]
  by_cases c : 1048576 - (ls.length : Int) < 0
  · exact ⟨-1, ev_t c (Ev.now _), fun h => absurd h (by decide)⟩
  · obtain ⟨s, h1, h2⟩ := key 0 (Nat.zero_le _) (1048576 - ls.length) (by omega) (by omega)
    refine ⟨s, ev_f c ?_, fun h => ?_⟩
    · rw [show 1048576 - (ls.length : Int) = ((1048576 - ls.length : Nat) : Int) by omega]; exact h1
    · have := h2 h
      rw [List.drop_zero] at this
      omega
theorem toRows_ev (ls : List (List Int)) (hl : ls.length ≤ 1048576) (hs : ls.flatten.length ≤ 1048576) : Ev (fun k => laws_toIntSS.f k ls) ls := by
  have hrow : ∀ i : Nat, i < ls.length → (rd_L1 ls i).length ≤ 1048576 := fun i hi => by
    have h1 : (rd_L1 ls i).length ≤ ls.flatten.length := by
      have h2 : rd_L1 ls i ∈ ls := by rw [show rd_L1 ls i = ls[i] by simp [rd_L1, List.getD, hi]]; exact List.getElem_mem hi
      exact (List.sublist_flatten_of_mem h2).length_le
    omega
  have key : ∀ i, i ≤ ls.length → Ev (fun k => laws_toIntSS.l0 k ls ((ls.take i).map id ++ List.replicate (ls.length - i) []) (i : Int)) ls := by
    refine down ?_ ?_
    · rw [fill_all, List.map_id]
      refine Ev.step (fun _ => rfl) ?_
      simp only [laws_toIntSS.l0]
      exact ev_f (by omega) (Ev.now _)
    · intro i hi ih
      refine Ev.step (fun _ => rfl) ?_
      simp only [laws_toIntSS.l0]
      refine ev_t (by omega) (ev_t (by omega) (Ev.bind (toIntS_id _ (by have := hrow i hi; omega)) (ev_t (by simp; omega) ?_)))
      rw [wr (by omega), Int.toNat_natCast, set_fill ls id [] i hi _ (by simp [rd_L1, hi])]
      exact ih
  have h0 := key 0 (Nat.zero_le _)
  rw [fill_none] at h0
  simp only [laws_toIntSS.f]
  refine ev_t (by omega) (ev_t (by omega) ?_)
  simpa using h0
theorem eqRows_ev (ls : List (List Int)) (hl : ls.length ≤ 1048576) (hs : ls.flatten.length ≤ 1048576) : Ev (fun k => laws_eqIntSS.f k ls ls) true := by
  have hrow : ∀ i : Nat, i < ls.length → (rd_L1 ls i).length ≤ 1048576 := fun i hi => by
    have h1 : (rd_L1 ls i).length ≤ ls.flatten.length := by
      have h2 : rd_L1 ls i ∈ ls := by rw [show rd_L1 ls i = ls[i] by simp [rd_L1, List.getD, hi]]; exact List.getElem_mem hi
      exact (List.sublist_flatten_of_mem h2).length_le
    omega
  have key : ∀ i, i ≤ ls.length → Ev (fun k => laws_eqIntSS.l0 k ls ls (i : Int)) true := by
    refine down ?_ ?_
    · refine Ev.step (fun _ => rfl) ?_
      simp only [laws_eqIntSS.l0]
      exact ev_f (by omega) (Ev.now _)
    · intro i hi ih
      refine Ev.step (fun _ => rfl) ?_
      simp only [laws_eqIntSS.l0]
      refine ev_t (by omega) (ev_t (by omega) (ev_t (by omega) (Ev.bind (eqIntS_ev _ (by have := hrow i hi; omega)) (ev_t rfl ?_))))
      rw [wr (by omega)]
      exact ih
  simp only [laws_eqIntSS.f]
  exact ev_t (by first | rfl | trivial) (key 0 (Nat.zero_le _))
theorem count_ev (a : Int) (ls : List (List Int)) (hl : ls.length ≤ 1048576) (hs : ls.flatten.length ≤ 1048576) (x : Int) : Ev (fun k => spec_l18Count.f k a ls x) (ls.flatten.count x : Nat) := by
  have key : ∀ i : Nat, i ≤ ls.length → ∀ n : Nat, n + (ls.drop i).flatten.length ≤ 1048576 → Ev (fun k => spec_l18Count.l0 k x n i a ls) ((n + (ls.drop i).flatten.count x : Nat) : Int) := by
    refine down ?_ ?_
    · intro n hn
      refine Ev.step (fun _ => rfl) ?_
      simp only [spec_l18Count.l0]
      refine ev_f (by omega) ?_
      simpa using Ev.now (n : Int)
    · intro i hi ih n hn
      rw [drop_row ls i hi, List.flatten_cons, List.length_append] at hn
      have inner : ∀ j : Nat, j ≤ (rd_L1 ls i).length → ∀ n : Nat, n + ((rd_L1 ls i).drop j).length + (ls.drop (i + 1)).flatten.length ≤ 1048576 → Ev (fun k => spec_l18Count.l1 k x n i j a ls) ((n + ((rd_L1 ls i).drop j).count x + (ls.drop (i + 1)).flatten.count x : Nat) : Int) := by
        refine down ?_ ?_
        · intro n hn
          refine Ev.step (fun _ => rfl) ?_
          simp only [spec_l18Count.l1]
          rw [wr (x := (i : Int) + 1) (by omega)]
          rw [List.drop_of_length_le (Nat.le_refl _)] at hn ⊢
          refine ev_t (by omega) (ev_t (by omega) (ev_f (by omega) ?_))
          have h1 := ih n (by simpa using hn)
          simpa using h1
        · intro j hj jh n hn
          rw [drop_el _ j hj] at hn ⊢
          rw [List.length_cons] at hn
          have hjl : j < 1048576 := by
            have h1 : (rd_L1 ls i).length ≤ ls.flatten.length := by
              have h2 : rd_L1 ls i ∈ ls := by rw [show rd_L1 ls i = ls[i] by simp [rd_L1, List.getD, hi]]; exact List.getElem_mem hi
              exact (List.sublist_flatten_of_mem h2).length_le
            omega
          refine Ev.step (fun _ => rfl) ?_
          simp only [spec_l18Count.l1]
          rw [wr (x := (j : Int) + 1) (by omega), wr (x := (n : Int) + 1) (by omega)]
          refine ev_t (by omega) (ev_t (by omega) (ev_t (by omega) (ev_t (by omega) ?_)))
          by_cases hx : rd (rd_L1 ls i) j = x
          · refine ev_t hx ?_
            have h1 := jh (n + 1) (by omega)
            rw [hx, List.count_cons_self]
            rw [show n + (((rd_L1 ls i).drop (j + 1)).count x + 1) + (ls.drop (i + 1)).flatten.count x = n + 1 + ((rd_L1 ls i).drop (j + 1)).count x + (ls.drop (i + 1)).flatten.count x by omega]
            exact h1
          · refine ev_f hx ?_
            rw [List.count_cons_of_ne hx]
            exact jh n (by omega)
      have h0 := inner 0 (Nat.zero_le _) n (by rw [List.drop_zero]; omega)
      refine Ev.step (fun _ => rfl) ?_
      simp only [spec_l18Count.l0]
      rw [drop_row ls i hi, List.flatten_cons, List.count_append]
      refine ev_t (by omega) ?_
      rw [List.drop_zero] at h0
      rw [← Nat.add_assoc]
      exact h0
  have h0 := key 0 (Nat.zero_le _) 0 (by rw [List.drop_zero]; omega)
  simp only [spec_l18Count.f]
  simpa using h0
def goodB (fl : List Int) (b : Int) : Bool := inB b 1 1000000 && decide (fl.count b = 1)
def yardB (a : Int) (ls : List (List Int)) : Bool := inB a 1 6 && (inB ls.length 1 12 && (ls.all (fun s => decide ((s.length : Int) ≤ a)) && ls.flatten.all (goodB ls.flatten)))
theorem specYard_ev (a : Int) (ls : List (List Int)) (hl : ls.length ≤ 1048576) (hs : ls.flatten.length ≤ 1048576) : Ev (fun k => spec_YardOk.f k a ls) (yardB a ls) := by
  have s0 : Ev (fun k => spec_YardOk.j0 k true a ls) false := Ev.step (fun _ => rfl) (by simp only [spec_YardOk.j0]; exact Ev.now _)
  have key1 : ∀ i : Nat, i ≤ ls.length → Ev (fun k => spec_YardOk.l1 k i a ls) ((ls.drop i).flatten.all (goodB ls.flatten)) := by
    refine down ?_ ?_
    · refine Ev.step (fun _ => rfl) ?_
      simp only [spec_YardOk.l1]
      refine ev_f (by omega) ?_
      simpa using Ev.now true
    · intro i hi ih
      have hrow : (rd_L1 ls i).length ≤ 1048576 := by
        have h1 : (rd_L1 ls i).length ≤ ls.flatten.length := by
          have h2 : rd_L1 ls i ∈ ls := by rw [show rd_L1 ls i = ls[i] by simp [rd_L1, List.getD, hi]]; exact List.getElem_mem hi
          exact (List.sublist_flatten_of_mem h2).length_le
        omega
      have inner : ∀ j : Nat, j ≤ (rd_L1 ls i).length → Ev (fun k => spec_YardOk.l2 k i j a ls) (((rd_L1 ls i).drop j).all (goodB ls.flatten) && (ls.drop (i + 1)).flatten.all (goodB ls.flatten)) := by
        refine down ?_ ?_
        · refine Ev.step (fun _ => rfl) ?_
          simp only [spec_YardOk.l2]
          rw [wr (x := (i : Int) + 1) (by omega), List.drop_of_length_le (Nat.le_refl _)]
          refine ev_t (by omega) (ev_t (by omega) (ev_f (by omega) ?_))
          simpa using ih
        · intro j hj jh
          have s1 : Ev (fun k => spec_YardOk.j4 k i j true a ls) false := Ev.step (fun _ => rfl) (by simp only [spec_YardOk.j4]; exact Ev.now _)
          refine Ev.step (fun _ => rfl) ?_
          simp only [spec_YardOk.l2, l1In_eq, Option.bind_some]
          rw [drop_el _ j hj, List.all_cons]
          refine ev_t (by omega) (ev_t (by omega) (ev_t (by omega) (ev_t (by omega) ?_)))
          cases h1 : inB (rd (rd_L1 ls i) j) 1 1000000 with
          | false => refine ev_f (by simp) ?_; simpa [goodB, h1] using s1
          | true =>
            refine ev_t rfl (Ev.bind (count_ev a ls hl hs _) (Ev.step (fun _ => rfl) ?_))
            simp only [spec_YardOk.j4]
            rw [wr (x := (j : Int) + 1) (by omega)]
            by_cases h2 : ls.flatten.count (rd (rd_L1 ls i) j) = 1
            · refine ev_f (by rw [h2]; decide) ?_
              simpa [goodB, h1, h2] using jh
            · refine ev_t (by simp; omega) ?_
              simpa [goodB, h1, h2] using Ev.now false
      have h0 := inner 0 (Nat.zero_le _)
      refine Ev.step (fun _ => rfl) ?_
      simp only [spec_YardOk.l1]
      rw [drop_row ls i hi, List.flatten_cons, List.all_append]
      exact ev_t (by omega) (by simpa using h0)
  have key0 : ∀ i : Nat, i ≤ ls.length → Ev (fun k => spec_YardOk.l0 k i a ls) ((ls.drop i).all (fun s => decide ((s.length : Int) ≤ a)) && ls.flatten.all (goodB ls.flatten)) := by
    refine down ?_ ?_
    · refine Ev.step (fun _ => rfl) ?_
      simp only [spec_YardOk.l0]
      refine ev_f (by omega) ?_
      simpa using key1 0 (Nat.zero_le _)
    · intro i hi ih
      refine Ev.step (fun _ => rfl) ?_
      simp only [spec_YardOk.l0]
      rw [wr (x := (i : Int) + 1) (by omega), drop_row ls i hi, List.all_cons]
      refine ev_t (by omega) (ev_t (by omega) ?_)
      by_cases h : ((rd_L1 ls i).length : Int) > a
      · refine ev_t h ?_
        rw [decide_eq_false (show ¬ ((rd_L1 ls i).length : Int) ≤ a by omega)]
        simpa using Ev.now false
      · refine ev_f h ?_
        rw [decide_eq_true (show ((rd_L1 ls i).length : Int) ≤ a by omega), Bool.true_and]
        exact ih
  simp only [spec_YardOk.f, l1In_eq, Option.bind_some, yardB]
  cases h1 : inB a 1 6 with
  | false => refine ev_f (by simp) ?_; simpa using s0
  | true =>
  refine ev_t rfl ?_
  cases h2 : inB (ls.length : Int) 1 12 with
  | false => simpa using s0
  | true =>
    refine Ev.step (fun _ => rfl) ?_
    simp only [spec_YardOk.j0]
    refine ev_f (by simp) ?_
    simpa using key0 0 (Nat.zero_le _)
theorem count_one : ∀ fl : List Int, (∀ b ∈ fl, fl.count b = 1) ↔ fl.Nodup := by
  intro fl
  rw [List.nodup_iff_count]
  constructor
  · intro h a
    by_cases ha : a ∈ fl
    · have := h a ha; omega
    · rw [List.count_eq_zero_of_not_mem ha]; omega
  · intro h b hb
    have h1 := h b
    have h2 := List.count_pos_iff.2 hb
    omega
theorem row_some : ∀ (s acc : List Int), impl_YardOk.row acc s = if (∀ b ∈ s, impl_YardOk.idOk b = true) ∧ s.Nodup ∧ (∀ b ∈ s, b ∉ acc) then some (s.reverse ++ acc) else none
  | [], acc => by simp [impl_YardOk.row]
  | b :: s, acc => by
    rw [impl_YardOk.row]
    by_cases h1 : impl_YardOk.idOk b = true
    · by_cases h2 : b ∈ acc
      · rw [if_neg (by simp [h2]), if_neg (fun h => h.2.2 b List.mem_cons_self h2)]
      · rw [if_pos (by simp [h1, h2]), row_some s (b :: acc)]
        by_cases h3 : (∀ c ∈ s, impl_YardOk.idOk c = true) ∧ s.Nodup ∧ (∀ c ∈ s, c ∉ b :: acc)
        · rw [if_pos h3, if_pos, List.reverse_cons, List.append_assoc]
          · rfl
          · refine ⟨fun c hc => ?_, List.nodup_cons.2 ⟨fun hb => h3.2.2 b hb List.mem_cons_self, h3.2.1⟩, fun c hc => ?_⟩
            · rcases List.mem_cons.1 hc with rfl | hc
              · exact h1
              · exact h3.1 c hc
            · rcases List.mem_cons.1 hc with rfl | hc
              · exact h2
              · exact fun h => h3.2.2 c hc (List.mem_cons_of_mem _ h)
        · rw [if_neg h3, if_neg]
          rintro ⟨h4, h5, h6⟩
          have h7 := List.nodup_cons.1 h5
          refine h3 ⟨fun c hc => h4 c (List.mem_cons_of_mem _ hc), h7.2, fun c hc h => ?_⟩
          rcases List.mem_cons.1 h with rfl | h
          · exact h7.1 hc
          · exact h6 c (List.mem_cons_of_mem _ hc) h
    · rw [if_neg (by simp [h1]), if_neg (fun h => h1 (h.1 b List.mem_cons_self))]
theorem rows_iff (a : Int) : ∀ (ls : List (List Int)) (acc : List Int), impl_YardOk.rows a acc ls = true ↔ (∀ s ∈ ls, (s.length : Int) ≤ a) ∧ (∀ b ∈ ls.flatten, impl_YardOk.idOk b = true) ∧ ls.flatten.Nodup ∧ (∀ b ∈ ls.flatten, b ∉ acc)
  | [], acc => by simp [impl_YardOk.rows]
  | s :: ls, acc => by
    rw [impl_YardOk.rows]
    by_cases h1 : (s.length : Int) > a
    · rw [if_pos h1]
      constructor
      · intro h; cases h
      · intro h; have := h.1 s List.mem_cons_self; omega
    · rw [if_neg h1, row_some]
      by_cases h2 : (∀ b ∈ s, impl_YardOk.idOk b = true) ∧ s.Nodup ∧ (∀ b ∈ s, b ∉ acc)
      · rw [if_pos h2]
        rw [rows_iff a ls, List.flatten_cons]
        constructor
        · rintro ⟨h3, h4, h5, h6⟩
          refine ⟨fun t ht => ?_, fun b hb => ?_, List.nodup_append.2 ⟨h2.2.1, h5, fun x hx y hy e => ?_⟩, fun b hb => ?_⟩
          · rcases List.mem_cons.1 ht with rfl | ht
            · omega
            · exact h3 t ht
          · rcases List.mem_append.1 hb with hb | hb
            · exact h2.1 b hb
            · exact h4 b hb
          · subst e; exact h6 x hy (List.mem_append_left _ (List.mem_reverse.2 hx))
          · rcases List.mem_append.1 hb with hb | hb
            · exact h2.2.2 b hb
            · exact fun h => h6 b hb (List.mem_append_right _ h)
        · rintro ⟨h3, h4, h5, h6⟩
          have h7 := List.nodup_append.1 h5
          refine ⟨fun t ht => h3 t (List.mem_cons_of_mem _ ht), fun b hb => h4 b (List.mem_append_right _ hb), h7.2.1, fun b hb h => ?_⟩
          rcases List.mem_append.1 h with h | h
          · exact h7.2.2 b (List.mem_reverse.1 h) b hb rfl
          · exact h6 b (List.mem_append_right _ hb) h
      · rw [if_neg h2]
        constructor
        · intro h; cases h
        · rintro ⟨h3, h4, h5, h6⟩
          rw [List.flatten_cons] at h4 h5 h6
          exact absurd ⟨fun b hb => h4 b (List.mem_append_left _ hb), (List.nodup_append.1 h5).1, fun b hb => h6 b (List.mem_append_left _ hb)⟩ h2
theorem implYard (a : Int) (ls : List (List Int)) : impl_YardOk.f a ls = some (yardB a ls) := by
  unfold impl_YardOk.f yardB
  congr 1
  have e : (decide (1 ≤ a) && decide (a ≤ 6) && decide (1 ≤ ls.length) && decide (ls.length ≤ 12)) = (inB a 1 6 && inB ls.length 1 12) := by
    rw [Bool.eq_iff_iff]; simp only [Bool.and_eq_true, inB_t, decide_eq_true_eq]; omega
  rw [e]
  cases inB a 1 6 with
  | false => simp
  | true =>
  cases inB (ls.length : Int) 1 12 with
  | false => simp
  | true =>
  simp only [Bool.true_and, if_true]
  rw [Bool.eq_iff_iff, rows_iff, Bool.and_eq_true, List.all_eq_true, List.all_eq_true, ← count_one]
  constructor
  · rintro ⟨h1, h2, h3, _⟩
    refine ⟨fun s hs => decide_eq_true (h1 s hs), fun b hb => ?_⟩
    have h4 := h2 b hb
    simp only [impl_YardOk.idOk, Bool.and_eq_true, decide_eq_true_eq] at h4
    simp only [goodB, Bool.and_eq_true, inB_t, decide_eq_true_eq]
    exact ⟨h4, h3 b hb⟩
  · rintro ⟨h1, h2⟩
    simp only [goodB, Bool.and_eq_true, inB_t, decide_eq_true_eq] at h1 h2
    refine ⟨h1, fun b hb => ?_, fun b hb => (h2 b hb).2, fun b _ h => by cases h⟩
    simp only [impl_YardOk.idOk, Bool.and_eq_true, decide_eq_true_eq]
    exact (h2 b hb).1

end Go.Proofs.Ytfeaabdighopbaa.Pu
