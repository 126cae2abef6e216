/- The openers of the laws' parameters: laid by a program of this session. -/
import Derived.Test.YtfeaabdighopbabPBx0
import Derived.Test.YtfeaabdighopbabOpens
namespace Go.Proofs.Ytfeaabdighopbab.PB
open Go.RowKit Go.Proofs.Ytfeaabdighopbab Go.Proofs.YtfeaabdighopbabW.PrintWords Go.Proofs.YtfeaabdighopbabW.PrintLast
set_option linter.unusedVariables false
def gS56 (x : S56) : Prop := ((Lit.int .i64 x.f0).wf = true) ∧ ((x.f1.length ≤ maxLen ∧ ∀ x2_ ∈ x.f1, (x2_.length ≤ maxLen ∧ ∀ x1_ ∈ x2_, (Lit.int .i64 x1_).wf = true)))
theorem op_56 : Op.Opens Try.prog 56 k56 gS56 :=
  Op.opens_struct Try.underlying56 (by kernel_rfl) (by kernel_rfl) rfl (Op.opens_cons (Op.opens_int Try.underlying3) (Op.opens_one (Op.opens_slice Try.underlying54 (by kernel_rfl) (Op.opens_slice Try.underlying22 (by kernel_rfl) (Op.opens_int Try.underlying3))))) (fun x : S56 => (x.f0, x.f1)) (fun a => ⟨a.1, a.2⟩) (fun _ => rfl)
end Go.Proofs.Ytfeaabdighopbab.PB
