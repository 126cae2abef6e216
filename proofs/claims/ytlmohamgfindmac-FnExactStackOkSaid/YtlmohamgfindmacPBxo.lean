/- The openers of the laws' parameters: laid by a program of this session. -/
import Derived.Test.YtlmohamgfindmacPBx0
import Derived.Test.YtlmohamgfindmacOpens
namespace Go.Proofs.Ytlmohamgfindmac.PB
open Go.RowKit Go.Proofs.Ytlmohamgfindmac Go.Proofs.YtlmohamgfindmacW.PrintWords Go.Proofs.YtlmohamgfindmacW.PrintLast
set_option linter.unusedVariables false
def gS56 (x : S56) : Prop := (x.f0.size ≤ maxLen) ∧ ((Lit.int .i64 x.f1).wf = true) ∧ ((Lit.int .i64 x.f2).wf = true) ∧ (True) ∧ ((Lit.int .i64 x.f4).wf = true) ∧ ((Lit.int .i64 x.f5).wf = true)
theorem op_56 : Op.Opens Try.prog 56 k56 gS56 :=
  Op.opens_struct Try.underlying56 (by kernel_rfl) (by kernel_rfl) rfl (Op.opens_cons (Op.opens_string Try.underlying9) (Op.opens_cons (Op.opens_int Try.underlying3) (Op.opens_cons (Op.opens_int Try.underlying3) (Op.opens_cons (Op.opens_bool Try.underlying4) (Op.opens_cons (Op.opens_int Try.underlying3) (Op.opens_one (Op.opens_int Try.underlying3))))))) (fun x : S56 => (x.f0, x.f1, x.f2, x.f3, x.f4, x.f5)) (fun a => ⟨a.1, a.2.1, a.2.2.1, a.2.2.2.1, a.2.2.2.2.1, a.2.2.2.2.2⟩) (fun _ => rfl)
end Go.Proofs.Ytlmohamgfindmac.PB
