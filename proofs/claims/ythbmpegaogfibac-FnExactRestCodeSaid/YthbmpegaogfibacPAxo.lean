/- The openers of the laws' parameters: laid by a program of this session. -/
import Derived.Test.YthbmpegaogfibacPAx0
import Derived.Test.YthbmpegaogfibacOpens
namespace Go.Proofs.Ythbmpegaogfibac.PA
open Go.RowKit Go.Proofs.Ythbmpegaogfibac Go.Proofs.YthbmpegaogfibacW.PrintWords Go.Proofs.YthbmpegaogfibacW.PrintLast
set_option linter.unusedVariables false
def gS37 (x : S37) : Prop := ((Lit.int .i64 x.f0).wf = true) ∧ ((Lit.int .i64 x.f1).wf = true)
theorem op_37 : Op.Opens Try.prog 37 k37 gS37 :=
  Op.opens_struct Try.underlying37 (by kernel_rfl) (by kernel_rfl) rfl (Op.opens_cons (Op.opens_int Try.underlying3) (Op.opens_one (Op.opens_int Try.underlying3))) (fun x : S37 => (x.f0, x.f1)) (fun a => ⟨a.1, a.2⟩) (fun _ => rfl)
end Go.Proofs.Ythbmpegaogfibac.PA
