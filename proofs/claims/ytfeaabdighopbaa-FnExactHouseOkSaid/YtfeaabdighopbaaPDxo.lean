/- The openers of the laws' parameters: laid by a program of this session. -/
import Derived.Test.YtfeaabdighopbaaPDx0
import Derived.Test.YtfeaabdighopbaaOpens
namespace Go.Proofs.Ytfeaabdighopbaa.PD
open Go.RowKit Go.Proofs.Ytfeaabdighopbaa Go.Proofs.YtfeaabdighopbaaW.PrintWords Go.Proofs.YtfeaabdighopbaaW.PrintLast
set_option linter.unusedVariables false
def gS144 (x : S144) : Prop := ((Lit.int .i64 x.f0).wf = true) ∧ ((Lit.int .i64 x.f1).wf = true) ∧ ((Lit.int .i64 x.f2).wf = true) ∧ ((Lit.int .i64 x.f3).wf = true) ∧ ((Lit.int .i64 x.f4).wf = true) ∧ ((Lit.int .i64 x.f5).wf = true) ∧ ((Lit.int .i64 x.f6).wf = true)
theorem op_144 : Op.Opens Try.prog 144 k144 gS144 :=
  Op.opens_struct Try.underlying144 (by kernel_rfl) (by kernel_rfl) rfl (Op.opens_cons (Op.opens_int Try.underlying3) (Op.opens_cons (Op.opens_int Try.underlying3) (Op.opens_cons (Op.opens_int Try.underlying3) (Op.opens_cons (Op.opens_int Try.underlying3) (Op.opens_cons (Op.opens_int Try.underlying3) (Op.opens_cons (Op.opens_int Try.underlying3) (Op.opens_one (Op.opens_int Try.underlying3)))))))) (fun x : S144 => (x.f0, x.f1, x.f2, x.f3, x.f4, x.f5, x.f6)) (fun a => ⟨a.1, a.2.1, a.2.2.1, a.2.2.2.1, a.2.2.2.2.1, a.2.2.2.2.2.1, a.2.2.2.2.2.2⟩) (fun _ => rfl)
def gS146 (x : S146) : Prop := ((Lit.int .i64 x.f0).wf = true) ∧ ((Lit.int .i64 x.f1).wf = true) ∧ ((Lit.int .i64 x.f2).wf = true)
theorem op_146 : Op.Opens Try.prog 146 k146 gS146 :=
  Op.opens_struct Try.underlying146 (by kernel_rfl) (by kernel_rfl) rfl (Op.opens_cons (Op.opens_int Try.underlying3) (Op.opens_cons (Op.opens_int Try.underlying3) (Op.opens_one (Op.opens_int Try.underlying3)))) (fun x : S146 => (x.f0, x.f1, x.f2)) (fun a => ⟨a.1, a.2.1, a.2.2⟩) (fun _ => rfl)
def gS69 (x : S69) : Prop := ((x.f0.length ≤ maxLen ∧ ∀ x1_ ∈ x.f0, gS144 x1_)) ∧ ((x.f1.length ≤ maxLen ∧ ∀ x1_ ∈ x.f1, gS146 x1_)) ∧ ((Lit.int .i64 x.f2).wf = true)
theorem op_69 : Op.Opens Try.prog 69 k69 gS69 :=
  Op.opens_struct Try.underlying69 (by kernel_rfl) (by kernel_rfl) rfl (Op.opens_cons (Op.opens_slice Try.underlying66 (by kernel_rfl) op_144) (Op.opens_cons (Op.opens_slice Try.underlying67 (by kernel_rfl) op_146) (Op.opens_one (Op.opens_int Try.underlying3)))) (fun x : S69 => (x.f0, x.f1, x.f2)) (fun a => ⟨a.1, a.2.1, a.2.2⟩) (fun _ => rfl)
end Go.Proofs.Ytfeaabdighopbaa.PD
