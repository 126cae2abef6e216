/- Plain lemmas on the printed functions (Meets). -/
import Derived.Test.YtfeaabdighopbaaPu0
import Derived.Test.YtfeaabdighopbaaPGx0
import Derived.Test.YtfeaabdighopbaaPGx4
import Derived.Test.YtfeaabdighopbaaPGx5
import Derived.Test.YtfeaabdighopbaaPGx6
import Derived.Test.YtfeaabdighopbaaPGx8
import Derived.Test.YtfeaabdighopbaaPGx9
import Derived.Test.YtfeaabdighopbaaGQBase
import Derived.Test.YtfeaabdighopbaaGQCalls
namespace Go.Proofs.Ytfeaabdighopbaa.Pu
open Go.RowKit Go.Proofs.Ytfeaabdighopbaa Go.Proofs.Ytfeaabdighopbaa.PG Go.Proofs.Ytfeaabdighopbaa.Pu Go.Proofs.YtfeaabdighopbaaW.PrintWords Go.Proofs.YtfeaabdighopbaaW.PrintLast Go.Proofs.YtfeaabdighopbaaW.PrintMore
set_option linter.unusedVariables false
set_option linter.unusedSimpArgs false
def meetB (a b : S91) : Bool := decide (a.f4 ≥ 0) && (decide (b.f4 ≥ 0) && (decide (a.f2 < b.f3) && (decide (b.f2 < a.f3) && (decide (a.f4 < wrap64 (b.f4 + b.f1)) && decide (b.f4 < wrap64 (a.f4 + a.f1))))))
theorem meet_eq (a b : S91) : spec_l17Meet.f a.f0 a.f1 a.f2 a.f3 a.f4 b.f0 b.f1 b.f2 b.f3 b.f4 = some (meetB a b) := by
  unfold spec_l17Meet.f meetB
  by_cases h1 : a.f4 ≥ 0 <;> by_cases h2 : b.f4 ≥ 0 <;> by_cases h3 : a.f2 < b.f3 <;> by_cases h4 : b.f2 < a.f3 <;> by_cases h5 : a.f4 < wrap64 (b.f4 + b.f1) <;> simp [h1, h2, h3, h4, h5]
theorem shares_eq (a b : S91) : impl_shares.f a.f0 a.f1 a.f2 a.f3 a.f4 b.f0 b.f1 b.f2 b.f3 b.f4 = some (meetB a b) := by
  unfold impl_shares.f meetB
  by_cases h1 : a.f4 ≥ 0 <;> by_cases h2 : b.f4 ≥ 0 <;> by_cases h3 : a.f2 < b.f3 <;> by_cases h4 : b.f2 < a.f3 <;> by_cases h5 : a.f4 < wrap64 (b.f4 + b.f1) <;> simp [h1, h2, h3, h4, h5]
theorem meetB_comm (a b : S91) : meetB a b = meetB b a := by
  rw [Bool.eq_iff_iff]
  simp only [meetB, Bool.and_eq_true, decide_eq_true_eq]
  constructor <;> (rintro ⟨h1, h2, h3, h4, h5, h6⟩; exact ⟨h2, h1, h4, h3, h6, h5⟩)
def rowB (l : List S91) (i : Nat) : Bool := !((l.take i).any fun x => meetB x (rd_T91 l i))
def clearB (l : List S91) : Bool := allFrom (rowB l) 0 l.length
theorem spec_clear (g : Int) (l : List S91) (hl : l.length ≤ 1048576) (c : Bool) (hc : Ev (fun k => spec_CallsOk.f k g l) c) : Ev (fun k => spec_Clear17.f k g l) (clearB l && c) := by
  simp only [spec_Clear17.f]
  refine ev_all (n := l.length) (g := fun k i => spec_Clear17.l0 k g l i) (rowB l) c ?_ ?_
  · refine Ev.step (fun _ => rfl) ?_
    simp only [spec_Clear17.l0]
    exact ev_f (by omega) (Ev.bind hc (Ev.now _))
  · intro i hi r hr
    have inner : ∀ j : Nat, j ≤ i → Ev (fun k => spec_Clear17.l1 k g l i j) (!(((l.take i).drop j).any fun x => meetB x (rd_T91 l i)) && r) := by
      refine down ?_ ?_
      · rw [List.drop_of_length_le (by simp; omega)]
        refine Ev.step (fun _ => rfl) ?_
        simp only [spec_Clear17.l1]
        rw [wr (x := (i : Int) + 1) (by omega)]
        exact ev_f (by omega) (by simpa using hr)
      · intro j hj jh
        have hd : (l.take i).drop j = rd_T91 l j :: (l.take i).drop (j + 1) := by
          rw [List.drop_eq_getElem_cons (by simp; omega)]
          congr 1
          simp [rd_T91, List.getD, show j < l.length by omega]
        refine Ev.step (fun _ => rfl) ?_
        simp only [spec_Clear17.l1, meet_eq, Option.bind_some]
        rw [wr (x := (j : Int) + 1) (by omega), hd, List.any_cons, meetB_comm]
        refine ev_t (by omega) (ev_t (by omega) (ev_t (by omega) (ev_t (by omega) (ev_t (by omega) ?_))))
        cases meetB (rd_T91 l j) (rd_T91 l i) with
        | true => exact ev_t rfl (by simpa using Ev.now false)
        | false => exact ev_f (by simp) (by simpa using jh)
    have h0 := inner 0 (Nat.zero_le _)
    refine Ev.step (fun _ => rfl) ?_
    simp only [spec_Clear17.l0]
    exact ev_t (by omega) (by simpa [rowB] using h0)
theorem impl_clear (g : Int) (l : List S91) (hl : l.length ≤ 1048576) (c : Bool) (hc : Ev (fun k => impl_CallsOk.f k g l) c) : Ev (fun k => impl_Clear17.f k g l) (clearB l && c) := by
  simp only [impl_Clear17.f]
  refine Ev.bind hc ?_
  cases c with
  | false => exact ev_f (by simp) (by simpa using Ev.now false)
  | true =>
    refine ev_t rfl ?_
    refine ev_all (n := l.length) (g := fun k i => impl_Clear17.l0 k l l l.length i) (rowB l) true ?_ ?_
    · refine Ev.step (fun _ => rfl) ?_
      simp only [impl_Clear17.l0]
      exact ev_f (by omega) (Ev.now _)
    · intro i hi r hr
      refine Ev.step (fun _ => rfl) ?_
      simp only [impl_Clear17.l0, cf_impl_Clear17_1_157.f, Option.bind_some]
      have e : ((l.take (i : Int).toNat).any fun x => impl_shares.f x.f0 x.f1 x.f2 x.f3 x.f4 (rd_T91 l i).f0 (rd_T91 l i).f1 (rd_T91 l i).f2 (rd_T91 l i).f3 (rd_T91 l i).f4 == some true) = !rowB l i := by
        simp only [shares_eq, rowB, Int.toNat_natCast, Bool.not_not]
        congr 1
        funext x
        cases meetB x (rd_T91 l i) <;> rfl
      rw [e, wr (x := (i : Int) + 1) (by omega)]
      refine ev_t (by omega) (ev_t (by omega) (ev_t (by omega) (ev_t (by omega) ?_)))
      cases rowB l i with
      | false => exact ev_t rfl (by simpa using Ev.now false)
      | true => exact ev_f (by simp) (by simpa using hr)
theorem clear_same (g : Int) (l : List S91) (hl : l.length ≤ 1048576) : ∃ v, Ev (fun k => spec_Clear17.f k g l) v ∧ Ev (fun k => impl_Clear17.f k g l) v := by
  obtain ⟨c, c1, c2⟩ := calls_same g l hl
  exact ⟨_, spec_clear g l hl c c1, impl_clear g l hl c c2⟩

end Go.Proofs.Ytfeaabdighopbaa.Pu
