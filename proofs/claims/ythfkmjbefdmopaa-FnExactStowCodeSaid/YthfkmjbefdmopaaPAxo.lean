/- The openers of the laws' parameters: laid by a program of this session. -/
import Derived.Test.YthfkmjbefdmopaaPAx0
import Derived.Test.YthfkmjbefdmopaaOpens
namespace Go.Proofs.Ythfkmjbefdmopaa.PA
open Go.RowKit Go.Proofs.Ythfkmjbefdmopaa Go.Proofs.YthfkmjbefdmopaaW.PrintWords Go.Proofs.YthfkmjbefdmopaaW.PrintLast
set_option linter.unusedVariables false
def gS47 (x : S47) : Prop := ((Lit.int .i64 x.f0).wf = true) ∧ ((Lit.int .i64 x.f1).wf = true) ∧ ((Lit.int .i64 x.f2).wf = true) ∧ ((Lit.int .i64 x.f3).wf = true)
theorem op_47 : Op.Opens Try.prog 47 k47 gS47 :=
  Op.opens_struct Try.underlying47 (by kernel_rfl) (by kernel_rfl) rfl (Op.opens_cons (Op.opens_int Try.underlying3) (Op.opens_cons (Op.opens_int Try.underlying3) (Op.opens_cons (Op.opens_int Try.underlying3) (Op.opens_one (Op.opens_int Try.underlying3))))) (fun x : S47 => (x.f0, x.f1, x.f2, x.f3)) (fun a => ⟨a.1, a.2.1, a.2.2.1, a.2.2.2⟩) (fun _ => rfl)
def gS37 (x : S37) : Prop := (x.f0.size ≤ maxLen) ∧ ((Lit.int .i64 x.f1).wf = true) ∧ ((Lit.int .i64 x.f2).wf = true) ∧ (True) ∧ ((Lit.int .i64 x.f4).wf = true) ∧ ((Lit.int .i64 x.f5).wf = true)
theorem op_37 : Op.Opens Try.prog 37 k37 gS37 :=
  Op.opens_struct Try.underlying37 (by kernel_rfl) (by kernel_rfl) rfl (Op.opens_cons (Op.opens_string Try.underlying9) (Op.opens_cons (Op.opens_int Try.underlying3) (Op.opens_cons (Op.opens_int Try.underlying3) (Op.opens_cons (Op.opens_bool Try.underlying4) (Op.opens_cons (Op.opens_int Try.underlying3) (Op.opens_one (Op.opens_int Try.underlying3))))))) (fun x : S37 => (x.f0, x.f1, x.f2, x.f3, x.f4, x.f5)) (fun a => ⟨a.1, a.2.1, a.2.2.1, a.2.2.2.1, a.2.2.2.2.1, a.2.2.2.2.2⟩) (fun _ => rfl)
def gS39 (x : S39) : Prop := ((Lit.int .i64 x.f0).wf = true) ∧ ((Lit.int .i64 x.f1).wf = true) ∧ ((Lit.int .i64 x.f2).wf = true)
theorem op_39 : Op.Opens Try.prog 39 k39 gS39 :=
  Op.opens_struct Try.underlying39 (by kernel_rfl) (by kernel_rfl) rfl (Op.opens_cons (Op.opens_int Try.underlying3) (Op.opens_cons (Op.opens_int Try.underlying3) (Op.opens_one (Op.opens_int Try.underlying3)))) (fun x : S39 => (x.f0, x.f1, x.f2)) (fun a => ⟨a.1, a.2.1, a.2.2⟩) (fun _ => rfl)
def gS41 (x : S41) : Prop := (gS37 x.f0) ∧ (gS39 x.f1)
theorem op_41 : Op.Opens Try.prog 41 k41 gS41 :=
  Op.opens_struct Try.underlying41 (by kernel_rfl) (by kernel_rfl) rfl (Op.opens_cons op_37 (Op.opens_one op_39)) (fun x : S41 => (x.f0, x.f1)) (fun a => ⟨a.1, a.2⟩) (fun _ => rfl)
end Go.Proofs.Ythfkmjbefdmopaa.PA
