/- The openers of the laws' parameters: laid by a program of this session. -/
import Derived.Test.YthbmpegaogfibadPBx0
import Derived.Test.YthbmpegaogfibadOpens
namespace Go.Proofs.Ythbmpegaogfibad.PB
open Go.RowKit Go.Proofs.Ythbmpegaogfibad Go.Proofs.YthbmpegaogfibadW.PrintWords Go.Proofs.YthbmpegaogfibadW.PrintLast
set_option linter.unusedVariables false
def gS50 (x : S50) : Prop := ((Lit.int .i64 x.f0).wf = true) ∧ (x.f1.size ≤ maxLen) ∧ (x.f2.size ≤ maxLen) ∧ ((Lit.int .i64 x.f3).wf = true) ∧ ((x.f4.length ≤ maxLen ∧ ∀ x1_ ∈ x.f4, x1_.size ≤ maxLen))
theorem op_50 : Op.Opens Try.prog 50 k50 gS50 :=
  Op.opens_struct Try.underlying50 (by kernel_rfl) (by kernel_rfl) rfl (Op.opens_cons (Op.opens_int Try.underlying3) (Op.opens_cons (Op.opens_string Try.underlying9) (Op.opens_cons (Op.opens_string Try.underlying9) (Op.opens_cons (Op.opens_int Try.underlying3) (Op.opens_one (Op.opens_slice Try.underlying36 (by kernel_rfl) (Op.opens_string Try.underlying9))))))) (fun x : S50 => (x.f0, x.f1, x.f2, x.f3, x.f4)) (fun a => ⟨a.1, a.2.1, a.2.2.1, a.2.2.2.1, a.2.2.2.2⟩) (fun _ => rfl)
def gS25 (x : S25) : Prop := ((x.f0.length ≤ maxLen ∧ ∀ x1_ ∈ x.f0, gS50 x1_)) ∧ ((x.f1.length ≤ maxLen ∧ ∀ x1_ ∈ x.f1, (Lit.int .i64 x1_).wf = true))
theorem op_25 : Op.Opens Try.prog 25 k25 gS25 :=
  Op.opens_struct Try.underlying25 (by kernel_rfl) (by kernel_rfl) rfl (Op.opens_cons (Op.opens_slice Try.underlying22 (by kernel_rfl) op_50) (Op.opens_one (Op.opens_slice Try.underlying23 (by kernel_rfl) (Op.opens_int Try.underlying3)))) (fun x : S25 => (x.f0, x.f1)) (fun a => ⟨a.1, a.2⟩) (fun _ => rfl)
end Go.Proofs.Ythbmpegaogfibad.PB
