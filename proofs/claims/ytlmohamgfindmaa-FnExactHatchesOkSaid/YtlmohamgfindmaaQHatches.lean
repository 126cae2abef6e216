/- Plain lemmas on the printed functions (Hatches). -/
import Derived.Test.YtlmohamgfindmaaPu0
import Derived.Test.YtlmohamgfindmaaPAx0
import Derived.Test.YtlmohamgfindmaaPAx30
import Derived.Test.YtlmohamgfindmaaPAx31
import Derived.Test.YtlmohamgfindmaaQBase
import Derived.Test.YtlmohamgfindmaaQLists
namespace Go.Proofs.Ytlmohamgfindmaa.Pu
open Go.RowKit Go.Proofs.Ytlmohamgfindmaa Go.Proofs.Ytlmohamgfindmaa.PA Go.Proofs.Ytlmohamgfindmaa.Pu Go.Proofs.YtlmohamgfindmaaW.PrintWords Go.Proofs.YtlmohamgfindmaaW.PrintLast Go.Proofs.YtlmohamgfindmaaW.PrintMore
set_option linter.unusedVariables false
set_option linter.unusedSimpArgs false
def hatchB (x : S135) : Bool := inB x.f0 1 6 && (inB x.f1 1 6 && (inB x.f2 0 1000000 && inB x.f3 0 36))
theorem hatch_lit (x : S135) : impl_HatchesOk_1.f x.f0 x.f1 x.f2 x.f3 = some (!hatchB x) := by
  simp only [impl_HatchesOk_1.f, in_eq, Option.bind_some, hatchB]
  cases inB x.f0 1 6 <;> cases inB x.f1 1 6 <;> cases inB x.f2 0 1000000 <;> cases inB x.f3 0 36 <;> rfl
theorem hatch_cf (l : List S135) : cf_impl_HatchesOk_1.f l = some (l.any fun x => !hatchB x) := by
  simp only [cf_impl_HatchesOk_1.f, hatch_lit]
  rw [if_pos (by simp)]
  congr 2
  funext x
  cases hatchB x <;> rfl
theorem hatches1 (l : List S135) (hl : l.length ≤ 1048576) : Ev (fun k => spec_HatchesOk.f k l) (l.all hatchB && inB l.length 1 6) := by
  simp only [spec_HatchesOk.f]
  rw [← allFrom_list l z135]
  refine ev_all (g := fun k i => spec_HatchesOk.l0 k l i) (fun i => hatchB (l.getD i z135)) _ ?_ ?_
  · refine Ev.step (fun _ => rfl) ?_
    simp only [spec_HatchesOk.l0, l1In_eq, Option.bind_some]
    exact ev_f (by omega) (Ev.now _)
  · intro i hi r ih
    refine Ev.step (fun _ => rfl) ?_
    simp only [spec_HatchesOk.l0, l1In_eq, Option.bind_some, rd_T135, Int.toNat_natCast]
    refine ev_t (by omega) (ev_t (by omega) ?_)
    rw [wr (by omega)]
    generalize l.getD i z135 = x
    unfold hatchB
    cases inB x.f0 1 6 with
    | false => exact Ev.now false
    | true =>
    cases inB x.f1 1 6 with
    | false => exact Ev.now false
    | true =>
    cases inB x.f2 0 1000000 with
    | false => exact Ev.now false
    | true =>
    cases inB x.f3 0 36 with
    | false => exact Ev.now false
    | true => simpa using ih
theorem hatches2 (l : List S135) : impl_HatchesOk.f l = some (l.all hatchB && inB l.length 1 6) := by
  simp only [impl_HatchesOk.f, in_eq, hatch_cf, Option.bind_some, all_any]
  cases inB (l.length : Int) 1 6 <;> simp

end Go.Proofs.Ytlmohamgfindmaa.Pu
