/- Plain lemmas on the printed functions (Ints). -/
import Derived.Test.YtjebipmpcabfbaaPu0
import Derived.Test.YtjebipmpcabfbaaPAx4
import Derived.Test.YtjebipmpcabfbaaPAx14
import Derived.Test.YtjebipmpcabfbaaPAx15
import Derived.Test.YtjebipmpcabfbaaQBase
namespace Go.Proofs.Ytjebipmpcabfbaa.Pu
open Go.RowKit Go.Proofs.Ytjebipmpcabfbaa Go.Proofs.Ytjebipmpcabfbaa.PA Go.Proofs.Ytjebipmpcabfbaa.Pu Go.Proofs.YtjebipmpcabfbaaW.PrintWords Go.Proofs.YtjebipmpcabfbaaW.PrintLast Go.Proofs.YtjebipmpcabfbaaW.PrintMore
set_option linter.unusedVariables false
set_option linter.unusedSimpArgs false
theorem toIntS_ev (l : List Int) (hl : l.length ≤ 35184372088832) : Ev (fun k => laws_toIntS.f k l) l := by
  have key : ∀ i, i ≤ l.length → Ev (fun k => laws_toIntS.l0 k l ((l.take i).map id ++ List.replicate (l.length - i) 0) (i : Int)) l := by
    refine down ?_ ?_
    · rw [fill_all, List.map_id]
      refine Ev.step (fun _ => rfl) ?_
      simp only [laws_toIntS.l0]
      exact ev_f (by omega) (Ev.now _)
    · intro i hi ih
      refine Ev.step (fun _ => rfl) ?_
      simp only [laws_toIntS.l0]
      refine ev_t (by omega) (ev_t (by omega) (ev_t (by simp; omega) ?_))
      rw [wr (by omega), Int.toNat_natCast, set_fill l id 0 i hi _ (by simp [rd, hi])]
      exact ih
  have h0 := key 0 (Nat.zero_le _)
  rw [fill_none] at h0
  simp only [laws_toIntS.f]
  refine ev_t (by omega) (ev_t (by omega) ?_)
  simpa using h0
theorem eqIntS_ev (l : List Int) (hl : l.length ≤ 35184372088832) : Ev (fun k => laws_eqIntS.f k l l) true := by
  have key : ∀ i, i ≤ l.length → Ev (fun k => laws_eqIntS.l0 k l l (i : Int)) true := by
    refine down ?_ ?_
    · refine Ev.step (fun _ => rfl) ?_
      simp only [laws_eqIntS.l0]
      exact ev_f (by omega) (Ev.now _)
    · intro i hi ih
      refine Ev.step (fun _ => rfl) ?_
      simp only [laws_eqIntS.l0]
      refine ev_t (by omega) (ev_t (by omega) (ev_t (by omega) (ev_t (by first | rfl | trivial) ?_)))
      rw [wr (by omega)]
      exact ih
  simp only [laws_eqIntS.f]
  exact ev_t (by first | rfl | trivial) (key 0 (Nat.zero_le _))
theorem l3All_ev (l : List Int) (a b : Int) (hl : l.length ≤ 35184372088832) : Ev (fun k => spec_l3All.f k l a b) (l.all fun x => inB x a b) := by
  have key : ∀ i, i ≤ l.length → Ev (fun k => spec_l3All.l0 k l a b (i : Int)) ((l.drop i).all fun x => inB x a b) := by
    refine down ?_ ?_
    · refine Ev.step (fun _ => rfl) ?_
      simp only [spec_l3All.l0]
      exact ev_f (by omega) (by simpa using Ev.now true)
    · intro i hi ih
      refine Ev.step (fun _ => rfl) ?_
      simp only [spec_l3All.l0, l1In_eq, Option.bind_some]
      refine ev_t (by omega) (ev_t (by omega) ?_)
      rw [wr (by omega), List.drop_eq_getElem_cons hi, List.all_cons, show rd l (i : Int) = l[i] by simp [rd, hi]]
      cases inB l[i] a b with
      | true => simpa using ih
      | false => simpa using Ev.now false
  simpa [spec_l3All.f] using key 0 (Nat.zero_le _)
theorem all_eq (l : List Int) (a b : Int) : impl_all.f l a b = some (l.all fun x => inB x a b) := by
  simp only [impl_all.f, inB]
  congr 1
  induction l with
  | nil => rfl
  | cons x l ih => simp only [List.any_cons, List.all_cons, Bool.not_or, ih, Bool.not_not]

end Go.Proofs.Ytjebipmpcabfbaa.Pu
