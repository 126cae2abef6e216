/- The pure statement of FnExactBookOk, proved: for every input that the opening lets in, the printed law comes to true. -/
import Derived.Test.YthbmpegaogfibadPu0
import Derived.Test.YthbmpegaogfibadPBx0
import Derived.Test.YthbmpegaogfibadPBx1
import Derived.Test.YthbmpegaogfibadPBx2
import Derived.Test.YthbmpegaogfibadPBx3
import Derived.Test.YthbmpegaogfibadPBx6
import Derived.Test.YthbmpegaogfibadPBx7
import Derived.Test.YthbmpegaogfibadPBx8
import Derived.Test.YthbmpegaogfibadPBx9
import Derived.Test.YthbmpegaogfibadPBx12
import Derived.Test.YthbmpegaogfibadPBx13
import Derived.Test.YthbmpegaogfibadBQBase
import Derived.Test.YthbmpegaogfibadBQConvIntS
import Derived.Test.YthbmpegaogfibadBQNames
import Derived.Test.YthbmpegaogfibadBQBills
import Derived.Test.YthbmpegaogfibadBQConvBillS
import Derived.Test.YthbmpegaogfibadStFnExactBookOk
namespace Go.Proofs.Ythbmpegaogfibad.Pure
open Go.RowKit Go.Proofs.Ythbmpegaogfibad Go.Proofs.Ythbmpegaogfibad.PB Go.Proofs.Ythbmpegaogfibad.Pu Go.Proofs.YthbmpegaogfibadW.PrintWords Go.Proofs.YthbmpegaogfibadW.PrintLast Go.Proofs.YthbmpegaogfibadW.PrintMore
set_option linter.unusedVariables false
set_option linter.unusedSimpArgs false
theorem freed1 (l : List S38) (fr : List Int) (hl : l.length ≤ 1048576) (hr : fr.length ≤ 1048576) : Ev (fun k => spec_BookOk.l2 k 0 l fr) (impl_BookOk.freed l fr fr.length 0 && decide ((l.length : Int) ≤ 30)) := by
  have key : ∀ j : Nat, j ≤ fr.length → Ev (fun k => spec_BookOk.l2 k (j : Int) l fr) (impl_BookOk.freed l fr (fr.length - j) (j : Int) && decide ((l.length : Int) ≤ 30)) := by
    refine down ?_ ?_
    · rw [Nat.sub_self, impl_BookOk.freed, Bool.true_and]
      refine Ev.step (fun _ => rfl) ?_
      simp only [spec_BookOk.l2]
      exact ev_f (by omega) (Ev.now _)
    · intro j hj ih
      rw [show fr.length - j = (fr.length - (j + 1)) + 1 by omega, impl_BookOk.freed, Bool.and_assoc]
      have ih' : Ev (fun k => spec_BookOk.l2 k ((j : Int) + 1) l fr) (impl_BookOk.freed l fr (fr.length - (j + 1)) ((j : Int) + 1) && decide ((l.length : Int) ≤ 30)) := ih
      generalize (impl_BookOk.freed l fr (fr.length - (j + 1)) ((j : Int) + 1) && decide ((l.length : Int) ≤ 30)) = q at ih' ⊢
      have j4 : ∀ b, Ev (fun k => spec_BookOk.j4 k (j : Int) b l fr) (!b && q) := fun b => by
        refine Ev.step (fun _ => rfl) ?_
        simp only [spec_BookOk.j4]
        rw [wr (x := (j : Int) + 1) (by omega)]
        cases b with
        | true => exact ev_t (by first | rfl | trivial) (Ev.now _)
        | false => exact ev_f (by simp) (by simpa using ih')
      obtain ⟨v, v1, v2⟩ := find1 l fr (rd fr (j : Int)) hl
      refine Ev.step (fun _ => rfl) ?_
      simp only [spec_BookOk.l2]
      refine ev_t (by omega) (ev_t (by omega) (Ev.bind v1 ?_))
      cases ha : l.any fun x => x.f0 == rd fr (j : Int) with
      | false =>
        rw [ha] at v2
        exact ev_t (by simpa using v2) (by simpa using j4 true)
      | true =>
        rw [ha] at v2
        refine ev_f (by simpa using v2) ?_
        rw [Bool.true_and]
        by_cases h2 : (j : Int) > 0
        · refine ev_t h2 ?_
          rw [wr (x := (j : Int) - 1) (by omega), decide_eq_true (show 0 < (j : Int) from h2), Bool.true_and]
          exact ev_t (by omega) (ev_t (by omega) (j4 _))
        · rw [decide_eq_false (show ¬ 0 < (j : Int) from h2), Bool.false_and]
          exact ev_f h2 (j4 false)
  exact key 0 (Nat.zero_le _)
theorem bills1 (l : List S38) (fr : List Int) (hl : l.length ≤ 1048576) (hr : fr.length ≤ 1048576) (hf : ∀ x ∈ l, fitB x) : Ev (fun k => spec_BookOk.f k l fr) (impl_BookOk.bills nameB eoB l l.length 0 && (impl_BookOk.freed l fr fr.length 0 && decide ((l.length : Int) ≤ 30))) := by
  have h2 := freed1 l fr hl hr
  generalize (impl_BookOk.freed l fr fr.length 0 && decide ((l.length : Int) ≤ 30)) = q at h2 ⊢
  have key : ∀ i : Nat, i ≤ l.length → Ev (fun k => spec_BookOk.l0 k (i : Int) l fr) (impl_BookOk.bills nameB eoB l (l.length - i) (i : Int) && q) := by
    refine down ?_ ?_
    · rw [Nat.sub_self, impl_BookOk.bills, Bool.true_and]
      refine Ev.step (fun _ => rfl) ?_
      simp only [spec_BookOk.l0]
      exact ev_f (by omega) h2
    · intro i hi ih
      rw [show l.length - i = (l.length - (i + 1)) + 1 by omega, impl_BookOk.bills, Bool.and_assoc]
      exact bill1 l fr i hi hl hf _ ih
  simp only [spec_BookOk.f]
  exact key 0 (Nat.zero_le _)
theorem ev_list {α : Type} (F : α → Nat → Option Bool) (r : α → Bool) : ∀ l : List α, (∀ x ∈ l, Ev (F x) (r x)) → ∃ K, ∀ k, K ≤ k → ∀ x ∈ l, F x k = some (r x)
  | [], _ => ⟨0, fun k _ x hx => by simp at hx⟩
  | y :: l, h => by
    obtain ⟨K1, h1⟩ := h y (by simp)
    obtain ⟨K2, h2⟩ := ev_list F r l fun x hx => h x (by simp [hx])
    refine ⟨K1 + K2, fun k hk x hx => ?_⟩
    rcases List.mem_cons.1 hx with rfl | hx
    · exact h1 k (by omega)
    · exact h2 k (by omega) x hx
theorem bills2 (l : List S38) (fr : List Int) (hf : ∀ x ∈ l, fitB x) (hw : fr.all impl_BookOk.wfB = true) : Ev (fun k => impl_BookOk.f k l fr) (if (l.length : Int) > 30 then false else impl_BookOk.bills nameB eoB l l.length 0 && impl_BookOk.freed l fr fr.length 0) := by
  obtain ⟨K1, h1⟩ := ev_list (fun x k => impl_nameOk.f k x.f1) (fun x => nameB x.f1) l fun x hx => name2 _ (hf x hx).1
  obtain ⟨K2, h2⟩ := ev_list (fun x k => impl_emptyOrName.f k x.f2) (fun x => eoB x.f2) l fun x hx => eo2 _ (hf x hx).2.1
  obtain ⟨K3, h3⟩ := ev_list (fun s k => impl_emptyOrName.f k s) (fun s => eoB s) (l.flatMap fun x => x.f4) fun s hs => by
    obtain ⟨x, hx, hs⟩ := List.mem_flatMap.1 hs
    exact eo2 _ ((hf x hx).2.2.2 s hs)
  refine ⟨K1 + K2 + K3, fun k hk => ?_⟩
  have g1 : ∀ x ∈ l, impl_nameOk.f k x.f1 = some (nameB x.f1) := fun x hx => h1 k (by omega) x hx
  have g2 : ∀ x ∈ l, impl_emptyOrName.f k x.f2 = some (eoB x.f2) := fun x hx => h2 k (by omega) x hx
  have g3 : ∀ x ∈ l, ∀ s ∈ x.f4, impl_emptyOrName.f k s = some (eoB s) := fun x hx s hs => h3 k (by omega) s (List.mem_flatMap.2 ⟨x, hx, hs⟩)
  have e2 : ∀ s, impl_emptyOrName.f k s = some (eoB s) → impl_BookOk.eo k s = eoB s := fun s h => by unfold impl_BookOk.eo; rw [h]; cases eoB s <;> rfl
  show impl_BookOk.f k l fr = _
  unfold impl_BookOk.f
  rw [if_pos ⟨List.all_eq_true.2 fun x hx => by
    simp only [impl_BookOk.whole, g1 x hx, g2 x hx, Option.isSome_some, Bool.true_and]
    exact List.all_eq_true.2 fun s hs => by rw [g3 x hx s hs]; rfl, hw⟩]
  rw [impl_BookOk.bills_congr nameB eoB (impl_BookOk.nm k) (impl_BookOk.eo k) l (fun x hx => ⟨by unfold impl_BookOk.nm; rw [g1 x hx]; cases nameB x.f1 <;> rfl, e2 _ (g2 x hx), fun s hs => e2 _ (g3 x hx s hs)⟩) l.length 0 (Int.le_refl _) (by omega)]
theorem book_same (l : List S38) (fr : List Int) (hl : l.length ≤ 1048576) (hr : fr.length ≤ 1048576) (hf : ∀ x ∈ l, fitB x) (hw : fr.all impl_BookOk.wfB = true) : ∃ v, Ev (fun k => spec_BookOk.f k l fr) v ∧ Ev (fun k => impl_BookOk.f k l fr) v := by
  refine ⟨_, bills1 l fr hl hr hf, ?_⟩
  have h := bills2 l fr hf hw
  by_cases c : (l.length : Int) > 30
  · rw [if_pos c] at h
    rw [decide_eq_false (show ¬ (l.length : Int) ≤ 30 by omega), Bool.and_false, Bool.and_false]
    exact h
  · rw [if_neg c] at h
    rw [decide_eq_true (show (l.length : Int) ≤ 30 by omega), Bool.and_true]
    exact h
theorem P_BookOk : ∀ (l : List S50) (fr : List Int), l.length ≤ maxLen → (∀ x ∈ l, longB x) → fr.length ≤ maxLen → fr.all impl_BookOk.wfB = true → ∃ k, laws_FnExactBookOk.f k l fr = some true := by
  intro l fr hl hx hr hw
  refine Ev.rounds ?_
  unfold maxLen at hl hr
  simp only [laws_FnExactBookOk.f, laws_szBook.f, laws_szIntS.f]
  obtain ⟨z, z1, z2, z3⟩ := szBillS_ev l 1048576 (by omega) (by omega) hx
  by_cases h : z < 0
  · exact Ev.bind (Ev.bind z1 (ev_t h (Ev.now _))) (ev_t (by decide) (Ev.now _))
  obtain ⟨hl2, hf⟩ := z3 (by omega)
  by_cases h2 : z - (fr.length : Int) < 0
  · refine Ev.bind (a := -1) (Ev.bind z1 (ev_f h ?_)) (ev_t (by decide) (Ev.now _))
    rw [wr (x := z - (fr.length : Int)) (by omega), if_pos h2]
    simp only [Option.bind_some]
    exact ev_t (by decide) (Ev.now _)
  have hto : Ev (fun k => laws_toBook.f k l fr) (l.map cBill, fr) := by
    simp only [laws_toBook.f]
    exact Ev.bind (toBillS_ev l hl2 fun x hx => (hf x hx).2.2.1) (Ev.bind (toIntS_id fr (by omega)) (Ev.now _))
  have hl3 : (l.map cBill).length ≤ 1048576 := by simpa using hl2
  have hf3 : ∀ x ∈ l.map cBill, fitB x := fun x hx => by
    obtain ⟨y, hy, rfl⟩ := List.mem_map.1 hx
    exact hf y hy
  have heq : Ev (fun k => laws_eqBook.f k (l.map cBill) fr (l.map cBill) fr) true := by
    simp only [laws_eqBook.f]
    exact Ev.bind (eqBillS_ev _ hl3 fun x hx => (hf3 x hx).2.2.1) (ev_t rfl (Ev.bind (eqIntS_ev fr (by omega)) (ev_t rfl (Ev.now _))))
  obtain ⟨v, v1, v2⟩ := book_same (l.map cBill) fr hl3 (by omega) hf3 hw
  refine Ev.bind (a := z - (fr.length : Int)) (Ev.bind z1 (ev_f h ?_)) (ev_f (by omega) (Ev.bind hto (Ev.bind v1 (Ev.bind hto (Ev.bind v2 (ev_f (by simp) (Ev.bind hto (Ev.bind heq (ev_t rfl (Ev.now _))))))))))
  rw [wr (x := z - (fr.length : Int)) (by omega), if_neg h2]
  simp only [Option.bind_some]
  exact ev_f h2 (Ev.now _)
theorem wfB_of {x : Int} (h : (Lit.int .i64 x).wf = true) : impl_BookOk.wfB x = true := by
  simp [Lit.wf, IntKind.min, IntKind.max, IntKind.signed, IntKind.bits] at h
  simp only [impl_BookOk.wfB, Bool.and_eq_true, decide_eq_true_eq]
  omega
theorem FnExactBookOk : laws_FnExactBookOk.Pure := fun x g => P_BookOk x.f0 x.f1 g.1.1 (fun b hb => ⟨(g.1.2 b hb).2.1, (g.1.2 b hb).2.2.1, (g.1.2 b hb).2.2.2.2.1, (g.1.2 b hb).2.2.2.2.2⟩) g.2.1 (List.all_eq_true.2 fun z hz => wfB_of (g.2.2 z hz))

end Go.Proofs.Ythbmpegaogfibad.Pure
