/- The openers of the laws' parameters: laid by a program of this session. -/
import Derived.Test.YthbmpegaogfibabPAx0
import Derived.Test.YthbmpegaogfibabOpens
namespace Go.Proofs.Ythbmpegaogfibab.PA
open Go.RowKit Go.Proofs.Ythbmpegaogfibab Go.Proofs.YthbmpegaogfibabW.PrintWords Go.Proofs.YthbmpegaogfibabW.PrintLast
set_option linter.unusedVariables false
def gS24 (x : S24) : Prop := ((Lit.int .i64 x.f0).wf = true) ∧ ((Lit.int .i64 x.f1).wf = true) ∧ ((x.f2.length ≤ maxLen ∧ ∀ x1_ ∈ x.f2, (Lit.int .i64 x1_).wf = true))
theorem op_24 : Op.Opens Try.prog 24 k24 gS24 :=
  Op.opens_struct Try.underlying24 (by kernel_rfl) (by kernel_rfl) rfl (Op.opens_cons (Op.opens_int Try.underlying3) (Op.opens_cons (Op.opens_int Try.underlying3) (Op.opens_one (Op.opens_slice Try.underlying22 (by kernel_rfl) (Op.opens_int Try.underlying3))))) (fun x : S24 => (x.f0, x.f1, x.f2)) (fun a => ⟨a.1, a.2.1, a.2.2⟩) (fun _ => rfl)
end Go.Proofs.Ythbmpegaogfibab.PA
