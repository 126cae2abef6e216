/- Plain lemmas on the printed functions (Base). -/
import Derived.Test.YthbmpegaogfibadPu0
import Derived.Test.YthbmpegaogfibadPBx2
import Derived.Test.YthbmpegaogfibadPBx6
namespace Go.Proofs.Ythbmpegaogfibad.Pu
open Go.RowKit Go.Proofs.Ythbmpegaogfibad Go.Proofs.Ythbmpegaogfibad.PB Go.Proofs.Ythbmpegaogfibad.Pu Go.Proofs.YthbmpegaogfibadW.PrintWords Go.Proofs.YthbmpegaogfibadW.PrintLast Go.Proofs.YthbmpegaogfibadW.PrintMore
set_option linter.unusedVariables false
set_option linter.unusedSimpArgs false
theorem l1In_eq (a b c : Int) : spec_l1In.f a b c = some (inB a b c) := by
  unfold spec_l1In.f inB
  by_cases h : a ≥ b
  · rw [if_pos h]; simp [h]
  · rw [if_neg h]; simp [h]
theorem in_eq (a b c : Int) : impl_in.f a b c = some (inB a b c) := by
  unfold impl_in.f inB
  by_cases h : a ≥ b
  · rw [if_pos h]; simp [h]
  · rw [if_neg h]; simp [h]


end Go.Proofs.Ythbmpegaogfibad.Pu
