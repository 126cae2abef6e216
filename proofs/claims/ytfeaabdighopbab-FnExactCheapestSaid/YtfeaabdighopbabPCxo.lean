/- The openers of the laws' parameters: laid by a program of this session. -/
import Derived.Test.YtfeaabdighopbabPCx0
import Derived.Test.YtfeaabdighopbabOpens
namespace Go.Proofs.Ytfeaabdighopbab.PC
open Go.RowKit Go.Proofs.Ytfeaabdighopbab Go.Proofs.YtfeaabdighopbabW.PrintWords Go.Proofs.YtfeaabdighopbabW.PrintLast
set_option linter.unusedVariables false
def gS145 (x : S145) : Prop := ((Lit.int .i64 x.f0).wf = true) ∧ ((Lit.int .i64 x.f1).wf = true) ∧ ((Lit.int .i64 x.f2).wf = true) ∧ ((Lit.int .i64 x.f3).wf = true) ∧ ((Lit.int .i64 x.f4).wf = true) ∧ ((Lit.int .i64 x.f5).wf = true)
theorem op_145 : Op.Opens Try.prog 145 k145 gS145 :=
  Op.opens_struct Try.underlying145 (by kernel_rfl) (by kernel_rfl) rfl (Op.opens_cons (Op.opens_int Try.underlying3) (Op.opens_cons (Op.opens_int Try.underlying3) (Op.opens_cons (Op.opens_int Try.underlying3) (Op.opens_cons (Op.opens_int Try.underlying3) (Op.opens_cons (Op.opens_int Try.underlying3) (Op.opens_one (Op.opens_int Try.underlying3))))))) (fun x : S145 => (x.f0, x.f1, x.f2, x.f3, x.f4, x.f5)) (fun a => ⟨a.1, a.2.1, a.2.2.1, a.2.2.2.1, a.2.2.2.2.1, a.2.2.2.2.2⟩) (fun _ => rfl)
def gS31 (x : S31) : Prop := ((Lit.int .i64 x.f0).wf = true) ∧ ((Lit.int .i64 x.f1).wf = true) ∧ ((x.f2.length ≤ maxLen ∧ ∀ x1_ ∈ x.f2, (Lit.int .i64 x1_).wf = true)) ∧ ((x.f3.length ≤ maxLen ∧ ∀ x1_ ∈ x.f3, gS145 x1_))
theorem op_31 : Op.Opens Try.prog 31 k31 gS31 :=
  Op.opens_struct Try.underlying31 (by kernel_rfl) (by kernel_rfl) rfl (Op.opens_cons (Op.opens_int Try.underlying3) (Op.opens_cons (Op.opens_int Try.underlying3) (Op.opens_cons (Op.opens_slice Try.underlying22 (by kernel_rfl) (Op.opens_int Try.underlying3)) (Op.opens_one (Op.opens_slice Try.underlying29 (by kernel_rfl) op_145))))) (fun x : S31 => (x.f0, x.f1, x.f2, x.f3)) (fun a => ⟨a.1, a.2.1, a.2.2.1, a.2.2.2⟩) (fun _ => rfl)
end Go.Proofs.Ytfeaabdighopbab.PC
