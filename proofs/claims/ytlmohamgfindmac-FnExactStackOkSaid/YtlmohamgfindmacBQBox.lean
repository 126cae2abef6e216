/- Plain lemmas on the printed functions (Box). -/
import Derived.Test.YtlmohamgfindmacPu0
import Derived.Test.YtlmohamgfindmacPBx3
import Derived.Test.YtlmohamgfindmacPBx6
import Derived.Test.YtlmohamgfindmacPBx7
import Derived.Test.YtlmohamgfindmacBQBase
import Derived.Test.YtlmohamgfindmacBQBox9
namespace Go.Proofs.Ytlmohamgfindmac.Pu
open Go.RowKit Go.Proofs.Ytlmohamgfindmac Go.Proofs.Ytlmohamgfindmac.PB Go.Proofs.Ytlmohamgfindmac.Pu Go.Proofs.YtlmohamgfindmacW.PrintWords Go.Proofs.YtlmohamgfindmacW.PrintLast Go.Proofs.YtlmohamgfindmacW.PrintMore
set_option linter.unusedVariables false
set_option linter.unusedSimpArgs false
theorem boxOk_same (n : ByteArray) (w c : Int) (d : Bool) (f t : Int) : ∃ v, Ev (fun k => spec_BoxOk.f k n w c d f t) v ∧ Ev (fun k => impl_BoxOk.f k n w c d f t) v := by
  obtain ⟨v, h1, h2⟩ := boxName_same n
  refine ⟨v && (inB w 1 40000 && (inB c 0 9 && (inB f 0 19 && inB t (f + 1) 19))), ?_, ?_⟩
  · simp only [spec_BoxOk.f, l1In_eq, Option.bind_some]
    refine Ev.bind h1 ?_
    cases v with
    | false => exact Ev.now _
    | true =>
    cases inB w 1 40000 with
    | false => exact Ev.now _
    | true =>
    cases inB c 0 9 with
    | false => exact Ev.now _
    | true =>
    cases h : inB f 0 19 with
    | false => exact Ev.now _
    | true =>
      have := inB_t.1 h
      rw [wr (by omega)]
      exact Ev.now _
  · simp only [impl_BoxOk.f, impl_portOk.f, in_eq, Option.bind_some]
    refine Ev.bind h2 ?_
    cases v with
    | false => exact Ev.now _
    | true =>
    cases inB w 1 40000 with
    | false => exact Ev.now _
    | true =>
    cases inB c 0 9 with
    | false => exact Ev.now _
    | true =>
    cases h : inB f 0 19 with
    | false => exact Ev.now _
    | true =>
      have hf := inB_t.1 h
      refine ev_t rfl (ev_t rfl (ev_t rfl (ev_t rfl ?_)))
      have e : (inB t 0 19 && decide (f < t)) = inB t (f + 1) 19 := by
        rw [Bool.eq_iff_iff]; simp only [Bool.and_eq_true, inB_t, decide_eq_true_eq]; omega
      simp only [Bool.true_and, ← e]
      cases inB t 0 19 with
      | false => exact Ev.now _
      | true => exact Ev.now _

end Go.Proofs.Ytlmohamgfindmac.Pu
