/- The openers of the laws' parameters: laid by a program of this session. -/
import Derived.Test.YtfeaabdighopbaaPBx0
import Derived.Test.YtfeaabdighopbaaOpens
namespace Go.Proofs.Ytfeaabdighopbaa.PB
open Go.RowKit Go.Proofs.Ytfeaabdighopbaa Go.Proofs.YtfeaabdighopbaaW.PrintWords Go.Proofs.YtfeaabdighopbaaW.PrintLast
set_option linter.unusedVariables false
def gS81 (x : S81) : Prop := ((Lit.int .i64 x.f0).wf = true) ∧ ((x.f1.length ≤ maxLen ∧ ∀ x2_ ∈ x.f1, (x2_.length ≤ maxLen ∧ ∀ x1_ ∈ x2_, (Lit.int .i64 x1_).wf = true)))
theorem op_81 : Op.Opens Try.prog 81 k81 gS81 :=
  Op.opens_struct Try.underlying81 (by kernel_rfl) (by kernel_rfl) rfl (Op.opens_cons (Op.opens_int Try.underlying3) (Op.opens_one (Op.opens_slice Try.underlying79 (by kernel_rfl) (Op.opens_slice Try.underlying53 (by kernel_rfl) (Op.opens_int Try.underlying3))))) (fun x : S81 => (x.f0, x.f1)) (fun a => ⟨a.1, a.2⟩) (fun _ => rfl)
end Go.Proofs.Ytfeaabdighopbaa.PB
