/- The pure statement of FnExactTanksOk, proved: for every input that the opening lets in, the printed law comes to true. -/
import Derived.Test.YtlmohamgfindmaaPu0
import Derived.Test.YtlmohamgfindmaaPAx0
import Derived.Test.YtlmohamgfindmaaPAx33
import Derived.Test.YtlmohamgfindmaaPAx34
import Derived.Test.YtlmohamgfindmaaPAx35
import Derived.Test.YtlmohamgfindmaaPAx38
import Derived.Test.YtlmohamgfindmaaQBase
import Derived.Test.YtlmohamgfindmaaQLists
import Derived.Test.YtlmohamgfindmaaQConvCargoTankS
import Derived.Test.YtlmohamgfindmaaStFnExactTanksOk
namespace Go.Proofs.Ytlmohamgfindmaa.Pure
open Go.RowKit Go.Proofs.Ytlmohamgfindmaa Go.Proofs.Ytlmohamgfindmaa.PA Go.Proofs.Ytlmohamgfindmaa.Pu Go.Proofs.YtlmohamgfindmaaW.PrintWords Go.Proofs.YtlmohamgfindmaaW.PrintLast Go.Proofs.YtlmohamgfindmaaW.PrintMore
set_option linter.unusedVariables false
set_option linter.unusedSimpArgs false
def tankB (x : S166) : Bool := inB x.f0 0 x.f1 && (!decide (x.f1 > 100000) && (inB x.f2 (-50) 50 && (inB x.f3 0 1000 && (inB x.f4 0 1000 && !decide (wrap64 (x.f3 + x.f4) > 1000)))))
theorem tank_lit (x : S166) : impl_TanksOk_1.f x.f0 x.f1 x.f2 x.f3 x.f4 = some (!tankB x) := by
  simp only [impl_TanksOk_1.f, in_eq, Option.bind_some, tankB]
  by_cases h : x.f1 > 100000 <;> cases inB x.f0 0 x.f1 <;> cases inB x.f2 (-50) 50 <;> cases inB x.f3 0 1000 <;> cases inB x.f4 0 1000 <;> simp [h]
theorem tank_cf (l : List S166) : cf_impl_TanksOk_1.f l = some (l.any fun x => !tankB x) := by
  simp only [cf_impl_TanksOk_1.f, tank_lit]
  rw [if_pos (by simp)]
  congr 2
  funext x
  cases tankB x <;> rfl
theorem tanks1 (l : List S166) (hl : l.length ≤ 1048576) : Ev (fun k => spec_TanksOk.f k l) (l.all tankB && inB l.length 1 12) := by
  simp only [spec_TanksOk.f]
  rw [← allFrom_list l z166]
  refine ev_all (g := fun k i => spec_TanksOk.l0 k l i) (fun i => tankB (l.getD i z166)) _ ?_ ?_
  · refine Ev.step (fun _ => rfl) ?_
    simp only [spec_TanksOk.l0, l1In_eq, Option.bind_some]
    exact ev_f (by omega) (Ev.now _)
  · intro i hi r ih
    refine Ev.step (fun _ => rfl) ?_
    simp only [spec_TanksOk.l0, l1In_eq, Option.bind_some, rd_T166, Int.toNat_natCast]
    refine ev_t (by omega) (ev_t (by omega) ?_)
    rw [wr (x := (i : Int) + 1) (by omega)]
    show Ev _ (tankB (l.getD i z166) && r)
    unfold tankB
    obtain ⟨x, hx⟩ : ∃ x, x = l.getD i z166 := ⟨_, rfl⟩
    simp only [← hx]
    cases inB x.f0 0 x.f1 with
    | false => exact Ev.now false
    | true =>
    by_cases h : x.f1 > 100000
    · refine ev_t rfl (ev_t h ?_)
      simpa [h] using Ev.now false
    refine ev_t rfl (ev_f h ?_)
    cases inB x.f2 (-50) 50 with
    | false => simpa [h] using Ev.now false
    | true =>
    cases inB x.f3 0 1000 with
    | false => simpa [h] using Ev.now false
    | true =>
    cases inB x.f4 0 1000 with
    | false => simpa [h] using Ev.now false
    | true =>
    refine ev_t rfl (ev_t rfl (ev_t rfl ?_))
    by_cases h2 : wrap64 (x.f3 + x.f4) > 1000
    · refine ev_t h2 ?_
      simpa [h, h2] using Ev.now false
    · refine ev_f h2 ?_
      simpa [h, h2] using ih
theorem tanks2 (l : List S166) : impl_TanksOk.f l = some (l.all tankB && inB l.length 1 12) := by
  simp only [impl_TanksOk.f, in_eq, tank_cf, Option.bind_some, all_any]
  cases inB (l.length : Int) 1 12 <;> simp
theorem P_TanksOk : ∀ (l : List S168), l.length ≤ maxLen → ∃ k, laws_FnExactTanksOk.f k l = some true := by
  intro l hl
  refine Ev.rounds ?_
  unfold maxLen at hl
  simp only [laws_FnExactTanksOk.f, laws_szCargoTankS.f]
  rw [wr (by omega)]
  by_cases h : (l.length : Int) ≤ 1048576
  · rw [if_neg (by omega)]
    simp only [Option.bind_some, tanks2]
    have h' : (l.map cCargoTank).length ≤ 1048576 := by simp; omega
    have ht := toCargoTankS_ev l (by omega)
    exact ev_f (by omega) (Ev.bind ht (Ev.bind (tanks1 _ h') (Ev.bind ht (ev_f (by simp) (Ev.bind ht (Ev.bind (eqCargoTankS_ev _ (by omega)) (ev_t rfl (Ev.now _))))))))
  · rw [if_pos (by omega)]
    simp only [Option.bind_some]
    exact ev_t (by omega) (Ev.now _)
theorem FnExactTanksOk : laws_FnExactTanksOk.Pure := fun l h => P_TanksOk l h.1

end Go.Proofs.Ytlmohamgfindmaa.Pure
