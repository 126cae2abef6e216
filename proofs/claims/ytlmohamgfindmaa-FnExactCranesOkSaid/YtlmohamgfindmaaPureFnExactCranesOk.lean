/- The pure statement of FnExactCranesOk, proved: for every input that the opening lets in, the printed law comes to true. -/
import Derived.Test.YtlmohamgfindmaaPu0
import Derived.Test.YtlmohamgfindmaaPAx0
import Derived.Test.YtlmohamgfindmaaPAx12
import Derived.Test.YtlmohamgfindmaaPAx13
import Derived.Test.YtlmohamgfindmaaPAx15
import Derived.Test.YtlmohamgfindmaaPAx18
import Derived.Test.YtlmohamgfindmaaQBase
import Derived.Test.YtlmohamgfindmaaQConvCraneS
import Derived.Test.YtlmohamgfindmaaStFnExactCranesOk
namespace Go.Proofs.Ytlmohamgfindmaa.Pure
open Go.RowKit Go.Proofs.Ytlmohamgfindmaa Go.Proofs.Ytlmohamgfindmaa.PA Go.Proofs.Ytlmohamgfindmaa.Pu Go.Proofs.YtlmohamgfindmaaW.PrintWords Go.Proofs.YtlmohamgfindmaaW.PrintLast Go.Proofs.YtlmohamgfindmaaW.PrintMore
set_option linter.unusedVariables false
set_option linter.unusedSimpArgs false
-- CranesOk
def craneP (l : List S122) (g : Int) (i : Nat) : Bool :=
  inB (rd_T122 l i).f1 0 (rd_T122 l i).f0 && (inB (rd_T122 l i).f2 (rd_T122 l i).f0 1000 && !(decide (0 < i) && decide ((rd_T122 l i).f0 < wrap64 ((rd_T122 l ((i : Int) - 1)).f0 + g))))
theorem cranes1 (l : List S122) (g : Int) (hl : l.length ≤ 1048576) : Ev (fun k => spec_CranesOk.f k l g) (allFrom (craneP l g) 0 l.length && (inB l.length 1 8 && inB g 1 20)) := by
  simp only [spec_CranesOk.f]
  refine ev_all (g := fun k i => spec_CranesOk.l0 k l g i) (craneP l g) _ ?_ ?_
  · refine Ev.step (fun _ => rfl) ?_
    simp only [spec_CranesOk.l0, l1In_eq, Option.bind_some]
    refine ev_f (by omega) ?_
    cases inB (l.length : Int) 1 8 <;> exact Ev.now _
  · intro i hi r ih
    have jf : ∀ b, Ev (fun k => spec_CranesOk.j1 k l g i b) (!b && r) := by
      intro b
      refine Ev.step (fun _ => rfl) ?_
      simp only [spec_CranesOk.j1]
      rw [wr (by omega)]
      cases b with
      | true => exact Ev.now _
      | false => simpa using ih
    refine Ev.step (fun _ => rfl) ?_
    simp only [spec_CranesOk.l0, l1In_eq, Option.bind_some]
    refine ev_t (by omega) (ev_t (by omega) ?_)
    unfold craneP
    cases inB (rd_T122 l i).f1 0 (rd_T122 l i).f0 with
    | false => simpa using jf true
    | true =>
    cases inB (rd_T122 l i).f2 (rd_T122 l i).f0 1000 with
    | false => simpa using jf true
    | true =>
    refine ev_t rfl (ev_t rfl ?_)
    by_cases h4 : 0 < i
    · refine ev_t (by omega) ?_
      rw [wr (x := (i : Int) - 1) (by omega)]
      refine ev_t (by omega) (ev_t (by omega) ?_)
      simpa [h4] using jf (decide ((rd_T122 l i).f0 < wrap64 ((rd_T122 l ((i : Int) - 1)).f0 + g)))
    · refine ev_f (by omega) ?_
      simpa [h4] using jf false
def craneQ (l : List S122) (g : Int) (i : Nat) : Bool :=
  inB (rd_T122 l i).f1 0 1000 && (inB (rd_T122 l i).f2 0 1000 && (inB (rd_T122 l i).f0 (rd_T122 l i).f1 (rd_T122 l i).f2 && !(decide (0 < i) && decide ((rd_T122 l i).f0 < wrap64 ((rd_T122 l ((i : Int) - 1)).f0 + g)))))
theorem craneQ_eq (l : List S122) (g : Int) (i : Nat) : craneQ l g i = craneP l g i := by
  unfold craneQ craneP
  simp only [← Bool.and_assoc]
  congr 1
  rw [Bool.eq_iff_iff]
  simp only [Bool.and_eq_true, inB_t]
  omega
theorem cranes2 (l : List S122) (g : Int) (hl : l.length ≤ 1048576) : Ev (fun k => impl_CranesOk.f k l g) (allFrom (craneP l g) 0 l.length && (inB l.length 1 8 && inB g 1 20)) := by
  have hQ : craneQ l g = craneP l g := funext (craneQ_eq l g)
  rw [← hQ]
  have loop : Ev (fun k => impl_CranesOk.l0 k l g l (l.length : Int) 0) (allFrom (craneQ l g) 0 l.length && true) := by
    refine ev_all (g := fun k i => impl_CranesOk.l0 k l g l (l.length : Int) i) (craneQ l g) _ ?_ ?_
    · refine Ev.step (fun _ => rfl) ?_
      simp only [impl_CranesOk.l0]
      exact ev_f (by omega) (Ev.now _)
    · intro i hi r ih
      have jf : ∀ b, Ev (fun k => impl_CranesOk.j2 k l g l (l.length : Int) i b) (!b && r) := by
        intro b
        refine Ev.step (fun _ => rfl) ?_
        simp only [impl_CranesOk.j2]
        rw [wr (by omega)]
        cases b with
        | true => exact Ev.now _
        | false => simpa using ih
      refine Ev.step (fun _ => rfl) ?_
      simp only [impl_CranesOk.l0, in_eq, Option.bind_some]
      refine ev_t (by omega) (ev_t (by omega) (ev_t (by omega) ?_))
      unfold craneQ
      cases inB (rd_T122 l i).f1 0 1000 with
      | false => simpa using jf true
      | true =>
      cases inB (rd_T122 l i).f2 0 1000 with
      | false => simpa using jf true
      | true =>
      cases inB (rd_T122 l i).f0 (rd_T122 l i).f1 (rd_T122 l i).f2 with
      | false => simpa using jf true
      | true =>
      refine ev_t rfl (ev_t rfl (ev_t rfl ?_))
      by_cases h4 : 0 < i
      · refine ev_t (by omega) ?_
        rw [wr (x := (i : Int) - 1) (by omega)]
        refine ev_t (by omega) (ev_t (by omega) ?_)
        simpa [h4] using jf (decide ((rd_T122 l i).f0 < wrap64 ((rd_T122 l ((i : Int) - 1)).f0 + g)))
      · refine ev_f (by omega) ?_
        simpa [h4] using jf false
  rw [Bool.and_true] at loop
  have j0 : ∀ b, Ev (fun k => impl_CranesOk.j0 k l g b) (allFrom (craneQ l g) 0 l.length && !b) := by
    intro b
    refine Ev.step (fun _ => rfl) ?_
    simp only [impl_CranesOk.j0]
    cases b with
    | true => simpa using Ev.now false
    | false => simpa using loop
  simp only [impl_CranesOk.f, in_eq, Option.bind_some]
  cases inB (l.length : Int) 1 8 with
  | false => simpa using j0 true
  | true => simpa using j0 (!inB g 1 20)
theorem P_CranesOk : ∀ (l : List S125) (g : Int), l.length ≤ maxLen → ∃ k, laws_FnExactCranesOk.f k l g = some true := by
  intro l g hl
  refine Ev.rounds ?_
  unfold maxLen at hl
  simp only [laws_FnExactCranesOk.f, laws_szCraneS.f]
  rw [wr (by omega)]
  by_cases h : (l.length : Int) ≤ 1048576
  · rw [if_neg (by omega)]
    simp only [Option.bind_some]
    have h' : (l.map cCrane).length ≤ 1048576 := by simp; omega
    exact ev_f (by omega) (Ev.bind (toCraneS_ev l (by omega)) (Ev.bind (cranes1 _ g h') (Ev.bind (toCraneS_ev l (by omega)) (Ev.bind (cranes2 _ g h') (ev_f (by simp) (Ev.bind (toCraneS_ev l (by omega)) (Ev.bind (eqCraneS_ev _ (by omega)) (ev_t rfl (Ev.now _)))))))))
  · rw [if_pos (by omega)]
    simp only [Option.bind_some]
    exact ev_t (by omega) (Ev.now _)
theorem FnExactCranesOk : laws_FnExactCranesOk.Pure := fun l g h _ => P_CranesOk l g h.1

end Go.Proofs.Ytlmohamgfindmaa.Pure
