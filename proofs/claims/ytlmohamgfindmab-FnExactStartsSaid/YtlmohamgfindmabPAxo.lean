/- The openers of the laws' parameters: laid by a program of this session. -/
import Derived.Test.YtlmohamgfindmabPAx0
import Derived.Test.YtlmohamgfindmabOpens
namespace Go.Proofs.Ytlmohamgfindmab.PA
open Go.RowKit Go.Proofs.Ytlmohamgfindmab Go.Proofs.YtlmohamgfindmabW.PrintWords Go.Proofs.YtlmohamgfindmabW.PrintLast
set_option linter.unusedVariables false
def gS31 (x : S31) : Prop := (x.f0.size ≤ maxLen) ∧ ((Lit.int .i64 x.f1).wf = true) ∧ ((Lit.int .i64 x.f2).wf = true) ∧ (True) ∧ ((Lit.int .i64 x.f4).wf = true) ∧ ((Lit.int .i64 x.f5).wf = true)
theorem op_31 : Op.Opens Try.prog 31 k31 gS31 :=
  Op.opens_struct Try.underlying31 (by kernel_rfl) (by kernel_rfl) rfl (Op.opens_cons (Op.opens_string Try.underlying9) (Op.opens_cons (Op.opens_int Try.underlying3) (Op.opens_cons (Op.opens_int Try.underlying3) (Op.opens_cons (Op.opens_bool Try.underlying4) (Op.opens_cons (Op.opens_int Try.underlying3) (Op.opens_one (Op.opens_int Try.underlying3))))))) (fun x : S31 => (x.f0, x.f1, x.f2, x.f3, x.f4, x.f5)) (fun a => ⟨a.1, a.2.1, a.2.2.1, a.2.2.2.1, a.2.2.2.2.1, a.2.2.2.2.2⟩) (fun _ => rfl)
def gS38 (x : S38) : Prop := ((Lit.int .i64 x.f0).wf = true) ∧ ((Lit.int .i64 x.f1).wf = true) ∧ ((Lit.int .i64 x.f2).wf = true) ∧ ((Lit.int .i64 x.f3).wf = true)
theorem op_38 : Op.Opens Try.prog 38 k38 gS38 :=
  Op.opens_struct Try.underlying38 (by kernel_rfl) (by kernel_rfl) rfl (Op.opens_cons (Op.opens_int Try.underlying3) (Op.opens_cons (Op.opens_int Try.underlying3) (Op.opens_cons (Op.opens_int Try.underlying3) (Op.opens_one (Op.opens_int Try.underlying3))))) (fun x : S38 => (x.f0, x.f1, x.f2, x.f3)) (fun a => ⟨a.1, a.2.1, a.2.2.1, a.2.2.2⟩) (fun _ => rfl)
def gS121 (x : S121) : Prop := ((Lit.int .i64 x.f0).wf = true) ∧ ((Lit.int .i64 x.f1).wf = true)
theorem op_121 : Op.Opens Try.prog 121 k121 gS121 :=
  Op.opens_struct Try.underlying121 (by kernel_rfl) (by kernel_rfl) rfl (Op.opens_cons (Op.opens_int Try.underlying3) (Op.opens_one (Op.opens_int Try.underlying3))) (fun x : S121 => (x.f0, x.f1)) (fun a => ⟨a.1, a.2⟩) (fun _ => rfl)
end Go.Proofs.Ytlmohamgfindmab.PA
