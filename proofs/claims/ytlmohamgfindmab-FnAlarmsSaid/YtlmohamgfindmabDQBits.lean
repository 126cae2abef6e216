/- Plain lemmas on the printed functions (Bits). -/
import Derived.Test.YtlmohamgfindmabPu0
import Derived.Test.YtlmohamgfindmabPDx0
namespace Go.Proofs.Ytlmohamgfindmab.Pu
open Go.RowKit Go.Proofs.Ytlmohamgfindmab Go.Proofs.Ytlmohamgfindmab.PD Go.Proofs.Ytlmohamgfindmab.Pu Go.Proofs.YtlmohamgfindmabW.PrintWords Go.Proofs.YtlmohamgfindmabW.PrintLast Go.Proofs.YtlmohamgfindmabW.PrintMore
set_option linter.unusedVariables false
set_option linter.unusedSimpArgs false
theorem and255 (x : Int) : 0 ≤ Go.bits .and .i64 x 255 ∧ Go.bits .and .i64 x 255 ≤ 255 := by
  have h : (BitVec.ofInt 64 x &&& BitVec.ofInt 64 255).toNat ≤ 255 := by
    rw [BitVec.toNat_and]
    exact Nat.le_trans Nat.and_le_right (by decide)
  simp only [Go.bits]
  rw [show IntKind.i64.bits = 64 from rfl]
  rw [Go.IntKind.wrap_i64]
  omega

end Go.Proofs.Ytlmohamgfindmab.Pu
