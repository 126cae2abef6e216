/- The openers of the laws' parameters: laid by a program of this session. -/
import Derived.Test.YtlmohamgfindmaaPBx0
import Derived.Test.YtlmohamgfindmaaOpens
namespace Go.Proofs.Ytlmohamgfindmaa.PB
open Go.RowKit Go.Proofs.Ytlmohamgfindmaa Go.Proofs.YtlmohamgfindmaaW.PrintWords Go.Proofs.YtlmohamgfindmaaW.PrintLast
set_option linter.unusedVariables false
def gS176 (x : S176) : Prop := ((Lit.int .i64 x.f0).wf = true) ∧ ((Lit.int .i64 x.f1).wf = true) ∧ ((Lit.int .i64 x.f2).wf = true) ∧ ((Lit.int .i64 x.f3).wf = true) ∧ ((Lit.int .i64 x.f4).wf = true)
theorem op_176 : Op.Opens Try.prog 176 k176 gS176 :=
  Op.opens_struct Try.underlying176 (by kernel_rfl) (by kernel_rfl) rfl (Op.opens_cons (Op.opens_int Try.underlying3) (Op.opens_cons (Op.opens_int Try.underlying3) (Op.opens_cons (Op.opens_int Try.underlying3) (Op.opens_cons (Op.opens_int Try.underlying3) (Op.opens_one (Op.opens_int Try.underlying3)))))) (fun x : S176 => (x.f0, x.f1, x.f2, x.f3, x.f4)) (fun a => ⟨a.1, a.2.1, a.2.2.1, a.2.2.2.1, a.2.2.2.2⟩) (fun _ => rfl)
end Go.Proofs.Ytlmohamgfindmaa.PB
