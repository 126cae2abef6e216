/- Plain lemmas on the printed functions (BerthQ). -/
import Derived.Test.YtfeaabdighopbaaPu0
import Derived.Test.YtfeaabdighopbaaPGx0
import Derived.Test.YtfeaabdighopbaaPGx9
import Derived.Test.YtfeaabdighopbaaPGx14
import Derived.Test.YtfeaabdighopbaaPGx15
import Derived.Test.YtfeaabdighopbaaGQBase
import Derived.Test.YtfeaabdighopbaaGQCalls
import Derived.Test.YtfeaabdighopbaaGQMeets
import Derived.Test.YtfeaabdighopbaaGQCallsB
namespace Go.Proofs.Ytfeaabdighopbaa.Pu
open Go.RowKit Go.Proofs.Ytfeaabdighopbaa Go.Proofs.Ytfeaabdighopbaa.PG Go.Proofs.Ytfeaabdighopbaa.Pu Go.Proofs.YtfeaabdighopbaaW.PrintWords Go.Proofs.YtfeaabdighopbaaW.PrintLast Go.Proofs.YtfeaabdighopbaaW.PrintMore
set_option linter.unusedVariables false
set_option linter.unusedSimpArgs false
def atC (x : S91) (a : Int) : S91 := ⟨x.f0, x.f1, x.f2, x.f3, a⟩
def freeB (l : List S91) (i : Nat) (c : S91) (k : Nat) : Bool := decide (k = i) || !meetB c (rd_T91 l k)
theorem free_same (l : List S91) (i : Nat) (hi : i < l.length) (hu : ∀ j : Nat, j < l.length → (rd_T91 l j).f0 = (rd_T91 l i).f0 → j = i) (c : S91) :
    (l.any fun x => x.f0 != (rd_T91 l i).f0 && (impl_shares.f x.f0 x.f1 x.f2 x.f3 x.f4 c.f0 c.f1 c.f2 c.f3 c.f4 == some true)) = !allFrom (freeB l i c) 0 l.length := by
  rw [Bool.eq_iff_iff, Bool.not_eq_true', List.any_eq_true, ← Bool.not_eq_true, allFrom_iff]
  simp only [shares_eq]
  constructor
  · rintro ⟨x, hx, h⟩ hall
    obtain ⟨j, hj, rfl⟩ := List.getElem_of_mem hx
    have h1 := hall j (by omega) (by omega)
    have e : rd_T91 l j = l[j] := by simp [rd_T91, List.getD, hj]
    simp only [freeB, e, Bool.or_eq_true, decide_eq_true_eq, Bool.not_eq_true'] at h1
    simp only [Bool.and_eq_true, bne_iff_ne, ne_eq, beq_iff_eq, Option.some.injEq] at h
    rcases h1 with h1 | h1
    · subst h1; exact h.1 (by rw [e])
    · rw [meetB_comm, h.2] at h1; cases h1
  · intro h
    obtain ⟨j, hj⟩ := Classical.not_forall.1 h
    have hj1 : j < l.length := Classical.byContradiction fun h1 => hj fun _ h2 => absurd h2 (by omega)
    have hj2 : ¬ freeB l i c j = true := fun h1 => hj fun _ _ => h1
    have e : rd_T91 l j = l[j] := by simp [rd_T91, List.getD, hj1]
    simp only [freeB, e, Bool.or_eq_true, decide_eq_true_eq, Bool.not_eq_true', not_or, Bool.not_eq_false] at hj2
    refine ⟨l[j], List.getElem_mem hj1, ?_⟩
    simp only [Bool.and_eq_true, bne_iff_ne, ne_eq, beq_iff_eq, Option.some.injEq]
    refine ⟨fun h1 => hj2.1 (hu j hj1 (by rw [e]; exact h1)), by rw [meetB_comm]; exact hj2.2⟩
theorem rest_none (g : Int) (l : List S91) (hl : l.length ≤ 1048576) (id : Int) : ∀ j : Nat, j ≤ l.length → (∀ m : Nat, j ≤ m → m < l.length → (rd_T91 l m).f0 ≠ id) → Ev (fun k => spec_Berth.l0 k g l id j) (-1, false) := by
  refine down ?_ ?_
  · intro _
    refine Ev.step (fun _ => rfl) ?_
    simp only [spec_Berth.l0]
    exact ev_f (by omega) (Ev.now _)
  · intro j hj ih hm
    refine Ev.step (fun _ => rfl) ?_
    simp only [spec_Berth.l0]
    rw [wr (x := (j : Int) + 1) (by omega)]
    exact ev_t (by omega) (ev_t (by omega) (ev_f (hm j (Nat.le_refl _) hj) (ih fun m h1 h2 => hm m (by omega) h2)))
theorem scan_same (g : Int) (l : List S91) (hl : l.length ≤ 1048576) (hc : callsB g l = true) (i : Nat) (hi : i < l.length) (x : S91) (hx : x = rd_T91 l i) : ∀ a : Nat, a ≤ 1001 → ∃ v, (∀ y : Int, Ev (fun k => spec_Berth.l1 k g l x.f0 i a x.f0 x.f1 x.f2 x.f3 y) v) ∧ Ev (fun k => impl_Berth.l0 k g l x.f0 x.f0 x.f1 x.f2 x.f3 a) v := by
  have hb := calls_bd hc
  have h1 := hb.2 i hi
  rw [← hx] at h1
  have huq : ∀ j : Nat, j < l.length → (rd_T91 l j).f0 = (rd_T91 l i).f0 → j = i := by
    intro j hj he
    rcases Nat.lt_trichotomy j i with h | h | h
    · have := calls_rise hc j i h hi; omega
    · exact h
    · have := calls_rise hc i j h hj; omega
  have hrest : Ev (fun k => spec_Berth.l0 k g l x.f0 ((i + 1 : Nat) : Int)) (-1, false) := rest_none g l hl x.f0 (i + 1) (by omega) fun m hm1 hm2 he => by
    have := huq m hm2 (by rw [← hx]; exact he); omega
  have far : ∀ a : Nat, ¬ wrap64 ((a : Int) + x.f1) ≤ g → ∃ v, (∀ y : Int, Ev (fun k => spec_Berth.l1 k g l x.f0 i a x.f0 x.f1 x.f2 x.f3 y) v) ∧ Ev (fun k => impl_Berth.l0 k g l x.f0 x.f0 x.f1 x.f2 x.f3 a) v := by
    intro a ha
    refine ⟨(-1, false), fun y => Ev.step (fun _ => rfl) ?_, Ev.step (fun _ => rfl) ?_⟩
    · simp only [spec_Berth.l1]; rw [wr (x := (i : Int) + 1) (by omega)]; exact ev_f ha hrest
    · simp only [impl_Berth.l0]; exact ev_f ha (Ev.now _)
  have hx1 : x.f1 ≤ 1000 := by
    simp only [callsB, Bool.and_eq_true] at hc
    have h2 := (allFrom_iff _ _).1 hc.2.2 i (by omega) (by omega)
    simp only [okB, tB, Bool.and_eq_true] at h2
    rw [hx]; exact (inB_t.1 h2.2.1.1).2
  refine down (far 1001 (by rw [wr (by omega)]; omega)) ?_
  rintro a ha ⟨v, v1, v2⟩
  by_cases hle : wrap64 ((a : Int) + x.f1) ≤ g
  · have hfs := free_same l i hi huq (atC x a)
    rw [← hx] at hfs
    have inner : ∀ j : Nat, j ≤ l.length → ∀ f : Bool, Ev (fun k => spec_Berth.l2 k g l x.f0 i a f j x.f0 x.f1 x.f2 x.f3 a) (if (f && allFrom (freeB l i (atC x a)) j (l.length - j)) = true then ((a : Int), true) else v) := by
      refine down ?_ ?_
      · intro f
        refine Ev.step (fun _ => rfl) ?_
        simp only [spec_Berth.l2, Nat.sub_self, allFrom, Bool.and_true]
        rw [wr (x := (a : Int) + 1) (by omega)]
        refine ev_f (by omega) ?_
        cases f with
        | true => exact ev_t rfl (Ev.now _)
        | false => exact ev_f (by simp) (v1 _)
      · intro j hj ih f
        have hal : allFrom (freeB l i (atC x a)) j (l.length - j) = (freeB l i (atC x a) j && allFrom (freeB l i (atC x a)) (j + 1) (l.length - (j + 1))) := by
          rw [show l.length - j = (l.length - (j + 1)) + 1 by omega]; rfl
        refine Ev.step (fun _ => rfl) ?_
        simp only [spec_Berth.l2]
        rw [wr (x := (j : Int) + 1) (by omega)]
        refine ev_t (by omega) ?_
        cases f with
        | false => exact ev_f (by simp) (by simpa using ih false)
        | true =>
          refine ev_t rfl ?_
          by_cases hji : j = i
          · refine ev_t (by omega) ?_
            rw [hal, show freeB l i (atC x a) j = true by simp [freeB, hji]]
            simpa using ih true
          · refine ev_f (by omega) (ev_t (by omega) ?_)
            have he := meet_eq (atC x a) (rd_T91 l j)
            simp only [atC] at he
            simp only [he, Option.bind_some]
            rw [hal, show freeB l i (atC x a) j = !meetB (atC x a) (rd_T91 l j) by simp [freeB, hji]]
            rw [Bool.true_and]
            exact ih (!meetB (atC x a) (rd_T91 l j))
    have h0 := inner 0 (Nat.zero_le _) true
    rw [Bool.true_and, Nat.sub_zero] at h0
    refine ⟨if allFrom (freeB l i (atC x a)) 0 l.length = true then ((a : Int), true) else v, fun y => Ev.step (fun _ => rfl) ?_, Ev.step (fun _ => rfl) ?_⟩
    · simp only [spec_Berth.l1]; exact ev_t hle h0
    · simp only [impl_Berth.l0]
      refine ev_t hle ?_
      change (l.any fun y => y.f0 != x.f0 && (impl_shares.f y.f0 y.f1 y.f2 y.f3 y.f4 x.f0 x.f1 x.f2 x.f3 (a : Int) == some true)) = _ at hfs
      simp only [hfs]
      cases allFrom (freeB l i (atC x a)) 0 l.length with
      | true => exact ev_f (by simp) (by simpa using Ev.now ((a : Int), true))
      | false =>
        refine ev_t rfl ?_
        rw [wr (x := (a : Int) + 1) (by omega)]
        simpa using v2
  · exact far a hle
theorem berth_same (g : Int) (l : List S91) (id : Int) (hl : l.length ≤ 1048576) : ∃ v, Ev (fun k => spec_Berth.f k g l id) v ∧ Ev (fun k => impl_Berth.f k g l id) v := by
  obtain ⟨c, c1, c2⟩ := calls_same g l hl
  have hcc := Ev.inj' c2 (impl_calls g l hl)
  subst hcc
  have s1 := spec_clear g l hl _ c1
  have s2 := impl_clear g l hl _ c2
  simp only [spec_Berth.f, impl_Berth.f]
  cases hcl : (clearB l && callsB g l) with
  | false =>
    rw [hcl] at s1 s2
    exact ⟨(-1, false), Ev.bind s1 (ev_f (by simp) (Ev.now _)), Ev.bind s2 (ev_f (by simp) (Ev.now _))⟩
  | true =>
    rw [hcl] at s1 s2
    rw [Bool.and_eq_true] at hcl
    by_cases hany : l.any (fun x => x.f0 == id) = true
    · obtain ⟨i, hi⟩ : ∃ i, i = l.findIdx (fun x => x.f0 == id) := ⟨_, rfl⟩
      have hlt : i < l.length := by rw [hi]; exact List.findIdx_lt_length_of_exists (List.any_eq_true.1 hany)
      have hidx : Gv.idxP (fun x : S91 => x.f0 == id) l = (i : Int) := by unfold Gv.idxP; rw [if_pos hany, hi]
      have e : rd_T91 l i = l[i] := by simp [rd_T91, List.getD, hlt]
      have hid : (rd_T91 l i).f0 = id := by
        have h2 := List.findIdx_getElem (p := fun x : S91 => x.f0 == id) (xs := l) (w := by rw [← hi]; exact hlt)
        simp only [← hi, beq_iff_eq] at h2
        rw [e]; exact h2
      obtain ⟨v, v1, v2⟩ := scan_same g l hl hcl.2 i hlt (rd_T91 l i) rfl 0 (by omega)
      rw [hid] at v1 v2
      have hpre : ∀ j : Nat, j ≤ i → Ev (fun k => spec_Berth.l0 k g l id j) v := by
        refine down ?_ ?_
        · refine Ev.step (fun _ => rfl) ?_
          simp only [spec_Berth.l0]
          refine ev_t (by omega) (ev_t (by omega) (ev_t hid ?_))
          rw [hid]
          exact v1 _
        · intro j hj ih
          refine Ev.step (fun _ => rfl) ?_
          simp only [spec_Berth.l0]
          rw [wr (x := (j : Int) + 1) (by omega)]
          refine ev_t (by omega) (ev_t (by omega) (ev_f (fun h => ?_) ih))
          have := calls_rise hcl.2 j i hj hlt
          omega
      refine ⟨v, Ev.bind s1 (ev_t rfl (hpre 0 (Nat.zero_le _))), Ev.bind s2 (ev_t rfl ?_)⟩
      simp only [hidx]
      refine ev_f (by omega) ?_
      rw [hid]
      exact v2
    · have hidx : Gv.idxP (fun x : S91 => x.f0 == id) l = -1 := by unfold Gv.idxP; rw [if_neg hany]
      refine ⟨(-1, false), Ev.bind s1 (ev_t rfl (rest_none g l hl id 0 (Nat.zero_le _) fun m _ hm he => hany ?_)), Ev.bind s2 (ev_t rfl ?_)⟩
      · rw [List.any_eq_true]
        refine ⟨l[m], List.getElem_mem hm, ?_⟩
        have e : rd_T91 l m = l[m] := by simp [rd_T91, List.getD, hm]
        rw [← e]; simpa using he
      · simp only [hidx]; exact ev_t (by omega) (Ev.now _)

end Go.Proofs.Ytfeaabdighopbaa.Pu
