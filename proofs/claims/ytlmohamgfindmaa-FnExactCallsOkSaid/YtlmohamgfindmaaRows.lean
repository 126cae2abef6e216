/-
  No cell of these rows narrows 'for every input' (looked for: loops, veiled, ifaces, maps, wideKeys, modest, calm, conditions, laid).
  DERIVED. THE GIVEN ROWS OF THIS SEAT. 13 by the template 'for every input the law returns true; each argument reads behind the call as it read before'; 0 by the template 'total and deterministic' (their statements: YtlmohamgfindmaaTotals.lean).
  GIVEN WITH THE SEED: the statements are not yours to turn. If you find one false, say at which input.
  Laid BY PROGRAM, IN A SANDBOX (cutbox-rows.mjs): the forced cells as the released guide's own fill.sh prints them over the translation f14beed9d1e6fcce… (all of the seat's roots in one cut). By AI agents, Wed Nov 11 2026. No macro, syntax, notation, axiom, sorry.
-/
import Derived.Test.YtlmohamgfindmaaChecked
import GoSem.Claim
import GoSem.ClaimJoined
import GoSem.ClaimMapViews
import Derived.JoinedTies
import Derived.KernelRfl
namespace Go.Proofs.Ytlmohamgfindmaa
/- THE CELL 'sum', in the pinned program and in every row, IS THE sha256 OF THE DUMP (.gsa) THAT YtlmohamgfindmaaProg.lean LOADS. Nothing in Lean hashes anything: it is a label: what it is worth is what the hold of that sum in a sandbox is worth. -/
noncomputable def Try.pinned : Pinned := { name := "ytlmohamgfindmaa", sum := "f14beed9d1e6fcce2a0f49670fb9359199c86c8fe50999ebc75fd364e17e68d3", checked := Try.checked }
namespace Rows
def none {H : Type} : Left H := { results := [], args := [] }

/-- 'laws.FnExactCheapest': WHATEVER THE INPUT: true; the input reads as it did. -/
def fnExactCheapestSpec : ChangeSpec := { name := "fnExactCheapest", fn := fun _ => fun
  | [d1, d2] => { results := [.lit (.bool true)], args := [d1, d2] }
  | _ => none }
def fnExactCheapestRow : OpenClaim := { program := "ytlmohamgfindmaa", sum := "f14beed9d1e6fcce2a0f49670fb9359199c86c8fe50999ebc75fd364e17e68d3", func := "loop.example/g00059/laws.FnExactCheapest", spec := "fnExactCheapest", unfollowed := true, recurses := true, apart := false }
def FnExactCheapestSaid : Prop := fnExactCheapestRow.holds Try.pinned (OpenSpec.ofChange fnExactCheapestSpec)

/-- ITS FALSE NEIGHBOUR: 'it returns false'. Refute it at one input. -/
def fnExactCheapestWrong : ChangeSpec := { name := "fnExactCheapest", fn := fun _ => fun
  | [d1, d2] => { results := [.lit (.bool false)], args := [d1, d2] }
  | _ => none }
def FnExactCheapestWrongFalsely : Prop := fnExactCheapestRow.holds Try.pinned (OpenSpec.ofChange fnExactCheapestWrong)

/-- 'laws.FnExactCranesOk': WHATEVER THE INPUT: true; the input reads as it did. -/
def fnExactCranesOkSpec : ChangeSpec := { name := "fnExactCranesOk", fn := fun _ => fun
  | [d1, d2] => { results := [.lit (.bool true)], args := [d1, d2] }
  | _ => none }
def fnExactCranesOkRow : OpenClaim := { program := "ytlmohamgfindmaa", sum := "f14beed9d1e6fcce2a0f49670fb9359199c86c8fe50999ebc75fd364e17e68d3", func := "loop.example/g00059/laws.FnExactCranesOk", spec := "fnExactCranesOk", apart := false }
def FnExactCranesOkSaid : Prop := fnExactCranesOkRow.holds Try.pinned (OpenSpec.ofChange fnExactCranesOkSpec)

/-- ITS FALSE NEIGHBOUR: 'it returns false'. Refute it at one input. -/
def fnExactCranesOkWrong : ChangeSpec := { name := "fnExactCranesOk", fn := fun _ => fun
  | [d1, d2] => { results := [.lit (.bool false)], args := [d1, d2] }
  | _ => none }
def FnExactCranesOkWrongFalsely : Prop := fnExactCranesOkRow.holds Try.pinned (OpenSpec.ofChange fnExactCranesOkWrong)

/-- 'laws.FnExactUllage': WHATEVER THE INPUT: true; the input reads as it did. -/
def fnExactUllageSpec : ChangeSpec := { name := "fnExactUllage", fn := fun _ => fun
  | [d1, d2] => { results := [.lit (.bool true)], args := [d1, d2] }
  | _ => none }
def fnExactUllageRow : OpenClaim := { program := "ytlmohamgfindmaa", sum := "f14beed9d1e6fcce2a0f49670fb9359199c86c8fe50999ebc75fd364e17e68d3", func := "loop.example/g00059/laws.FnExactUllage", spec := "fnExactUllage", unfollowed := true, recurses := true, apart := false }
def FnExactUllageSaid : Prop := fnExactUllageRow.holds Try.pinned (OpenSpec.ofChange fnExactUllageSpec)

/-- ITS FALSE NEIGHBOUR: 'it returns false'. Refute it at one input. -/
def fnExactUllageWrong : ChangeSpec := { name := "fnExactUllage", fn := fun _ => fun
  | [d1, d2] => { results := [.lit (.bool false)], args := [d1, d2] }
  | _ => none }
def FnExactUllageWrongFalsely : Prop := fnExactUllageRow.holds Try.pinned (OpenSpec.ofChange fnExactUllageWrong)

/-- 'laws.FnExactBoxName': WHATEVER THE INPUT: true; the input reads as it did. -/
def fnExactBoxNameSpec : ChangeSpec := { name := "fnExactBoxName", fn := fun _ => fun
  | [d] => { results := [.lit (.bool true)], args := [d] }
  | _ => none }
def fnExactBoxNameRow : OpenClaim := { program := "ytlmohamgfindmaa", sum := "f14beed9d1e6fcce2a0f49670fb9359199c86c8fe50999ebc75fd364e17e68d3", func := "loop.example/g00059/laws.FnExactBoxName", spec := "fnExactBoxName", apart := false }
def FnExactBoxNameSaid : Prop := fnExactBoxNameRow.holds Try.pinned (OpenSpec.ofChange fnExactBoxNameSpec)

/-- ITS FALSE NEIGHBOUR: 'it returns false'. Refute it at one input. -/
def fnExactBoxNameWrong : ChangeSpec := { name := "fnExactBoxName", fn := fun _ => fun
  | [d] => { results := [.lit (.bool false)], args := [d] }
  | _ => none }
def FnExactBoxNameWrongFalsely : Prop := fnExactBoxNameRow.holds Try.pinned (OpenSpec.ofChange fnExactBoxNameWrong)

/-- 'laws.FnExactOrigin': WHATEVER THE INPUT: true; the input reads as it did. -/
def fnExactOriginSpec : ChangeSpec := { name := "fnExactOrigin", fn := fun _ => fun
  | [d1, d2, d3] => { results := [.lit (.bool true)], args := [d1, d2, d3] }
  | _ => none }
def fnExactOriginRow : OpenClaim := { program := "ytlmohamgfindmaa", sum := "f14beed9d1e6fcce2a0f49670fb9359199c86c8fe50999ebc75fd364e17e68d3", func := "loop.example/g00059/laws.FnExactOrigin", spec := "fnExactOrigin", apart := false }
def FnExactOriginSaid : Prop := fnExactOriginRow.holds Try.pinned (OpenSpec.ofChange fnExactOriginSpec)

/-- ITS FALSE NEIGHBOUR: 'it returns false'. Refute it at one input. -/
def fnExactOriginWrong : ChangeSpec := { name := "fnExactOrigin", fn := fun _ => fun
  | [d1, d2, d3] => { results := [.lit (.bool false)], args := [d1, d2, d3] }
  | _ => none }
def FnExactOriginWrongFalsely : Prop := fnExactOriginRow.holds Try.pinned (OpenSpec.ofChange fnExactOriginWrong)

/-- 'laws.FnExactHatchesOk': WHATEVER THE INPUT: true; the input reads as it did. -/
def fnExactHatchesOkSpec : ChangeSpec := { name := "fnExactHatchesOk", fn := fun _ => fun
  | [d] => { results := [.lit (.bool true)], args := [d] }
  | _ => none }
def fnExactHatchesOkRow : OpenClaim := { program := "ytlmohamgfindmaa", sum := "f14beed9d1e6fcce2a0f49670fb9359199c86c8fe50999ebc75fd364e17e68d3", func := "loop.example/g00059/laws.FnExactHatchesOk", spec := "fnExactHatchesOk", unfollowed := true, recurses := true, apart := false }
def FnExactHatchesOkSaid : Prop := fnExactHatchesOkRow.holds Try.pinned (OpenSpec.ofChange fnExactHatchesOkSpec)

/-- ITS FALSE NEIGHBOUR: 'it returns false'. Refute it at one input. -/
def fnExactHatchesOkWrong : ChangeSpec := { name := "fnExactHatchesOk", fn := fun _ => fun
  | [d] => { results := [.lit (.bool false)], args := [d] }
  | _ => none }
def FnExactHatchesOkWrongFalsely : Prop := fnExactHatchesOkRow.holds Try.pinned (OpenSpec.ofChange fnExactHatchesOkWrong)

/-- 'laws.FnExactStowCode': WHATEVER THE INPUT: true; the input reads as it did. -/
def fnExactStowCodeSpec : ChangeSpec := { name := "fnExactStowCode", fn := fun _ => fun
  | [d1, d2] => { results := [.lit (.bool true)], args := [d1, d2] }
  | _ => none }
def fnExactStowCodeRow : OpenClaim := { program := "ytlmohamgfindmaa", sum := "f14beed9d1e6fcce2a0f49670fb9359199c86c8fe50999ebc75fd364e17e68d3", func := "loop.example/g00059/laws.FnExactStowCode", spec := "fnExactStowCode", unfollowed := true, recurses := true, apart := false }
def FnExactStowCodeSaid : Prop := fnExactStowCodeRow.holds Try.pinned (OpenSpec.ofChange fnExactStowCodeSpec)

/-- ITS FALSE NEIGHBOUR: 'it returns false'. Refute it at one input. -/
def fnExactStowCodeWrong : ChangeSpec := { name := "fnExactStowCode", fn := fun _ => fun
  | [d1, d2] => { results := [.lit (.bool false)], args := [d1, d2] }
  | _ => none }
def FnExactStowCodeWrongFalsely : Prop := fnExactStowCodeRow.holds Try.pinned (OpenSpec.ofChange fnExactStowCodeWrong)

/-- 'laws.FnExactTanksOk': WHATEVER THE INPUT: true; the input reads as it did. -/
def fnExactTanksOkSpec : ChangeSpec := { name := "fnExactTanksOk", fn := fun _ => fun
  | [d] => { results := [.lit (.bool true)], args := [d] }
  | _ => none }
def fnExactTanksOkRow : OpenClaim := { program := "ytlmohamgfindmaa", sum := "f14beed9d1e6fcce2a0f49670fb9359199c86c8fe50999ebc75fd364e17e68d3", func := "loop.example/g00059/laws.FnExactTanksOk", spec := "fnExactTanksOk", unfollowed := true, recurses := true, apart := false }
def FnExactTanksOkSaid : Prop := fnExactTanksOkRow.holds Try.pinned (OpenSpec.ofChange fnExactTanksOkSpec)

/-- ITS FALSE NEIGHBOUR: 'it returns false'. Refute it at one input. -/
def fnExactTanksOkWrong : ChangeSpec := { name := "fnExactTanksOk", fn := fun _ => fun
  | [d] => { results := [.lit (.bool false)], args := [d] }
  | _ => none }
def FnExactTanksOkWrongFalsely : Prop := fnExactTanksOkRow.holds Try.pinned (OpenSpec.ofChange fnExactTanksOkWrong)

/-- 'laws.FnExactShaped': WHATEVER THE INPUT: true; the input reads as it did. -/
def fnExactShapedSpec : ChangeSpec := { name := "fnExactShaped", fn := fun _ => fun
  | [d] => { results := [.lit (.bool true)], args := [d] }
  | _ => none }
def fnExactShapedRow : OpenClaim := { program := "ytlmohamgfindmaa", sum := "f14beed9d1e6fcce2a0f49670fb9359199c86c8fe50999ebc75fd364e17e68d3", func := "loop.example/g00059/laws.FnExactShaped", spec := "fnExactShaped", unfollowed := true, recurses := true, apart := false }
def FnExactShapedSaid : Prop := fnExactShapedRow.holds Try.pinned (OpenSpec.ofChange fnExactShapedSpec)

/-- ITS FALSE NEIGHBOUR: 'it returns false'. Refute it at one input. -/
def fnExactShapedWrong : ChangeSpec := { name := "fnExactShaped", fn := fun _ => fun
  | [d] => { results := [.lit (.bool false)], args := [d] }
  | _ => none }
def FnExactShapedWrongFalsely : Prop := fnExactShapedRow.holds Try.pinned (OpenSpec.ofChange fnExactShapedWrong)

/-- 'laws.FnExactFloorOk': WHATEVER THE INPUT: true; the input reads as it did. -/
def fnExactFloorOkSpec : ChangeSpec := { name := "fnExactFloorOk", fn := fun _ => fun
  | [d] => { results := [.lit (.bool true)], args := [d] }
  | _ => none }
def fnExactFloorOkRow : OpenClaim := { program := "ytlmohamgfindmaa", sum := "f14beed9d1e6fcce2a0f49670fb9359199c86c8fe50999ebc75fd364e17e68d3", func := "loop.example/g00059/laws.FnExactFloorOk", spec := "fnExactFloorOk", unfollowed := true, recurses := true, apart := false }
def FnExactFloorOkSaid : Prop := fnExactFloorOkRow.holds Try.pinned (OpenSpec.ofChange fnExactFloorOkSpec)

/-- ITS FALSE NEIGHBOUR: 'it returns false'. Refute it at one input. -/
def fnExactFloorOkWrong : ChangeSpec := { name := "fnExactFloorOk", fn := fun _ => fun
  | [d] => { results := [.lit (.bool false)], args := [d] }
  | _ => none }
def FnExactFloorOkWrongFalsely : Prop := fnExactFloorOkRow.holds Try.pinned (OpenSpec.ofChange fnExactFloorOkWrong)

/-- 'laws.FnExactCallsOk': WHATEVER THE INPUT: true; the input reads as it did. -/
def fnExactCallsOkSpec : ChangeSpec := { name := "fnExactCallsOk", fn := fun _ => fun
  | [d1, d2] => { results := [.lit (.bool true)], args := [d1, d2] }
  | _ => none }
def fnExactCallsOkRow : OpenClaim := { program := "ytlmohamgfindmaa", sum := "f14beed9d1e6fcce2a0f49670fb9359199c86c8fe50999ebc75fd364e17e68d3", func := "loop.example/g00059/laws.FnExactCallsOk", spec := "fnExactCallsOk", apart := false }
def FnExactCallsOkSaid : Prop := fnExactCallsOkRow.holds Try.pinned (OpenSpec.ofChange fnExactCallsOkSpec)

/-- ITS FALSE NEIGHBOUR: 'it returns false'. Refute it at one input. -/
def fnExactCallsOkWrong : ChangeSpec := { name := "fnExactCallsOk", fn := fun _ => fun
  | [d1, d2] => { results := [.lit (.bool false)], args := [d1, d2] }
  | _ => none }
def FnExactCallsOkWrongFalsely : Prop := fnExactCallsOkRow.holds Try.pinned (OpenSpec.ofChange fnExactCallsOkWrong)

/-- 'laws.FnExactBeats': WHATEVER THE INPUT: true; the input reads as it did. -/
def fnExactBeatsSpec : ChangeSpec := { name := "fnExactBeats", fn := fun _ => fun
  | [d1, d2] => { results := [.lit (.bool true)], args := [d1, d2] }
  | _ => none }
def fnExactBeatsRow : OpenClaim := { program := "ytlmohamgfindmaa", sum := "f14beed9d1e6fcce2a0f49670fb9359199c86c8fe50999ebc75fd364e17e68d3", func := "loop.example/g00059/laws.FnExactBeats", spec := "fnExactBeats", apart := false }
def FnExactBeatsSaid : Prop := fnExactBeatsRow.holds Try.pinned (OpenSpec.ofChange fnExactBeatsSpec)

/-- ITS FALSE NEIGHBOUR: 'it returns false'. Refute it at one input. -/
def fnExactBeatsWrong : ChangeSpec := { name := "fnExactBeats", fn := fun _ => fun
  | [d1, d2] => { results := [.lit (.bool false)], args := [d1, d2] }
  | _ => none }
def FnExactBeatsWrongFalsely : Prop := fnExactBeatsRow.holds Try.pinned (OpenSpec.ofChange fnExactBeatsWrong)

/-- 'laws.FnExactWorkIn': WHATEVER THE INPUT: true; the input reads as it did. -/
def fnExactWorkInSpec : ChangeSpec := { name := "fnExactWorkIn", fn := fun _ => fun
  | [d1, d2, d3] => { results := [.lit (.bool true)], args := [d1, d2, d3] }
  | _ => none }
def fnExactWorkInRow : OpenClaim := { program := "ytlmohamgfindmaa", sum := "f14beed9d1e6fcce2a0f49670fb9359199c86c8fe50999ebc75fd364e17e68d3", func := "loop.example/g00059/laws.FnExactWorkIn", spec := "fnExactWorkIn", apart := false }
def FnExactWorkInSaid : Prop := fnExactWorkInRow.holds Try.pinned (OpenSpec.ofChange fnExactWorkInSpec)

/-- ITS FALSE NEIGHBOUR: 'it returns false'. Refute it at one input. -/
def fnExactWorkInWrong : ChangeSpec := { name := "fnExactWorkIn", fn := fun _ => fun
  | [d1, d2, d3] => { results := [.lit (.bool false)], args := [d1, d2, d3] }
  | _ => none }
def FnExactWorkInWrongFalsely : Prop := fnExactWorkInRow.holds Try.pinned (OpenSpec.ofChange fnExactWorkInWrong)

/- THE SECOND FORM. 'bulk': how many values and letters a reading holds, each counted each time it is reached (what is shared counts as often as it is met; a slice's spare places count too). A statement '..UptoSaid' is the law's where the arguments, and the package variables that the reading takes, are together of bulk at most 1048576: NARROWER than '..Said'. Prove '..Said' where nothing that the law and all that it calls make is longer than what came in: it says more and counts as full. Else prove '..UptoSaid'. A law counts once. -/
mutual
def uptoBulk {H : Type} : DataW H → Nat
  | .lit (.string bytes) => bytes.length + 1
  | .lit _ => 1
  | .nil => 1
  | .ptr d => uptoBulk d + 1
  | .slice elems spare => uptoBulkAll elems + uptoBulkAll spare + 1
  | .agg parts => uptoBulkAll parts + 1
  | .iface _ d => uptoBulk d + 1
  | .map entries => uptoBulkEntries entries + 1
  | .held _ => 1
def uptoBulkAll {H : Type} : List (DataW H) → Nat
  | [] => 0
  | d :: r => uptoBulk d + uptoBulkAll r
def uptoBulkEntries {H : Type} : List (Lit × DataW H) → Nat
  | [] => 0
  | x :: r => uptoBulkEntry x + uptoBulkEntries r
def uptoBulkEntry {H : Type} : Lit × DataW H → Nat
  | (.string bytes, d) => bytes.length + uptoBulk d + 1
  | (_, d) => uptoBulk d + 1
 end
def uptoSmall : (H : Type) → List (DataW H) → Bool := fun _ ds => decide (uptoBulkAll ds ≤ 1048576)
def OpenSpec.upto (s : _root_.Go.ChangeSpec) : _root_.Go.OpenSpec := { _root_.Go.OpenSpec.ofChange s with cond := some uptoSmall }

/-- 'laws.FnExactCheapest', WHERE WHAT IT READS IS OF BULK AT MOST 1048576: true; the input reads as it did. -/
def fnExactCheapestUptoRow : OpenClaim := { program := "ytlmohamgfindmaa", sum := "f14beed9d1e6fcce2a0f49670fb9359199c86c8fe50999ebc75fd364e17e68d3", func := "loop.example/g00059/laws.FnExactCheapest", spec := "fnExactCheapest", unfollowed := true, recurses := true, apart := false, narrowed := true }
def FnExactCheapestUptoSaid : Prop := fnExactCheapestUptoRow.holds Try.pinned (OpenSpec.upto fnExactCheapestSpec)

/-- 'laws.FnExactCranesOk', WHERE WHAT IT READS IS OF BULK AT MOST 1048576: true; the input reads as it did. -/
def fnExactCranesOkUptoRow : OpenClaim := { program := "ytlmohamgfindmaa", sum := "f14beed9d1e6fcce2a0f49670fb9359199c86c8fe50999ebc75fd364e17e68d3", func := "loop.example/g00059/laws.FnExactCranesOk", spec := "fnExactCranesOk", apart := false, narrowed := true }
def FnExactCranesOkUptoSaid : Prop := fnExactCranesOkUptoRow.holds Try.pinned (OpenSpec.upto fnExactCranesOkSpec)

/-- 'laws.FnExactUllage', WHERE WHAT IT READS IS OF BULK AT MOST 1048576: true; the input reads as it did. -/
def fnExactUllageUptoRow : OpenClaim := { program := "ytlmohamgfindmaa", sum := "f14beed9d1e6fcce2a0f49670fb9359199c86c8fe50999ebc75fd364e17e68d3", func := "loop.example/g00059/laws.FnExactUllage", spec := "fnExactUllage", unfollowed := true, recurses := true, apart := false, narrowed := true }
def FnExactUllageUptoSaid : Prop := fnExactUllageUptoRow.holds Try.pinned (OpenSpec.upto fnExactUllageSpec)

/-- 'laws.FnExactBoxName', WHERE WHAT IT READS IS OF BULK AT MOST 1048576: true; the input reads as it did. -/
def fnExactBoxNameUptoRow : OpenClaim := { program := "ytlmohamgfindmaa", sum := "f14beed9d1e6fcce2a0f49670fb9359199c86c8fe50999ebc75fd364e17e68d3", func := "loop.example/g00059/laws.FnExactBoxName", spec := "fnExactBoxName", apart := false, narrowed := true }
def FnExactBoxNameUptoSaid : Prop := fnExactBoxNameUptoRow.holds Try.pinned (OpenSpec.upto fnExactBoxNameSpec)

/-- 'laws.FnExactOrigin', WHERE WHAT IT READS IS OF BULK AT MOST 1048576: true; the input reads as it did. -/
def fnExactOriginUptoRow : OpenClaim := { program := "ytlmohamgfindmaa", sum := "f14beed9d1e6fcce2a0f49670fb9359199c86c8fe50999ebc75fd364e17e68d3", func := "loop.example/g00059/laws.FnExactOrigin", spec := "fnExactOrigin", apart := false, narrowed := true }
def FnExactOriginUptoSaid : Prop := fnExactOriginUptoRow.holds Try.pinned (OpenSpec.upto fnExactOriginSpec)

/-- 'laws.FnExactHatchesOk', WHERE WHAT IT READS IS OF BULK AT MOST 1048576: true; the input reads as it did. -/
def fnExactHatchesOkUptoRow : OpenClaim := { program := "ytlmohamgfindmaa", sum := "f14beed9d1e6fcce2a0f49670fb9359199c86c8fe50999ebc75fd364e17e68d3", func := "loop.example/g00059/laws.FnExactHatchesOk", spec := "fnExactHatchesOk", unfollowed := true, recurses := true, apart := false, narrowed := true }
def FnExactHatchesOkUptoSaid : Prop := fnExactHatchesOkUptoRow.holds Try.pinned (OpenSpec.upto fnExactHatchesOkSpec)

/-- 'laws.FnExactStowCode', WHERE WHAT IT READS IS OF BULK AT MOST 1048576: true; the input reads as it did. -/
def fnExactStowCodeUptoRow : OpenClaim := { program := "ytlmohamgfindmaa", sum := "f14beed9d1e6fcce2a0f49670fb9359199c86c8fe50999ebc75fd364e17e68d3", func := "loop.example/g00059/laws.FnExactStowCode", spec := "fnExactStowCode", unfollowed := true, recurses := true, apart := false, narrowed := true }
def FnExactStowCodeUptoSaid : Prop := fnExactStowCodeUptoRow.holds Try.pinned (OpenSpec.upto fnExactStowCodeSpec)

/-- 'laws.FnExactTanksOk', WHERE WHAT IT READS IS OF BULK AT MOST 1048576: true; the input reads as it did. -/
def fnExactTanksOkUptoRow : OpenClaim := { program := "ytlmohamgfindmaa", sum := "f14beed9d1e6fcce2a0f49670fb9359199c86c8fe50999ebc75fd364e17e68d3", func := "loop.example/g00059/laws.FnExactTanksOk", spec := "fnExactTanksOk", unfollowed := true, recurses := true, apart := false, narrowed := true }
def FnExactTanksOkUptoSaid : Prop := fnExactTanksOkUptoRow.holds Try.pinned (OpenSpec.upto fnExactTanksOkSpec)

/-- 'laws.FnExactShaped', WHERE WHAT IT READS IS OF BULK AT MOST 1048576: true; the input reads as it did. -/
def fnExactShapedUptoRow : OpenClaim := { program := "ytlmohamgfindmaa", sum := "f14beed9d1e6fcce2a0f49670fb9359199c86c8fe50999ebc75fd364e17e68d3", func := "loop.example/g00059/laws.FnExactShaped", spec := "fnExactShaped", unfollowed := true, recurses := true, apart := false, narrowed := true }
def FnExactShapedUptoSaid : Prop := fnExactShapedUptoRow.holds Try.pinned (OpenSpec.upto fnExactShapedSpec)

/-- 'laws.FnExactFloorOk', WHERE WHAT IT READS IS OF BULK AT MOST 1048576: true; the input reads as it did. -/
def fnExactFloorOkUptoRow : OpenClaim := { program := "ytlmohamgfindmaa", sum := "f14beed9d1e6fcce2a0f49670fb9359199c86c8fe50999ebc75fd364e17e68d3", func := "loop.example/g00059/laws.FnExactFloorOk", spec := "fnExactFloorOk", unfollowed := true, recurses := true, apart := false, narrowed := true }
def FnExactFloorOkUptoSaid : Prop := fnExactFloorOkUptoRow.holds Try.pinned (OpenSpec.upto fnExactFloorOkSpec)

/-- 'laws.FnExactCallsOk', WHERE WHAT IT READS IS OF BULK AT MOST 1048576: true; the input reads as it did. -/
def fnExactCallsOkUptoRow : OpenClaim := { program := "ytlmohamgfindmaa", sum := "f14beed9d1e6fcce2a0f49670fb9359199c86c8fe50999ebc75fd364e17e68d3", func := "loop.example/g00059/laws.FnExactCallsOk", spec := "fnExactCallsOk", apart := false, narrowed := true }
def FnExactCallsOkUptoSaid : Prop := fnExactCallsOkUptoRow.holds Try.pinned (OpenSpec.upto fnExactCallsOkSpec)

/-- 'laws.FnExactBeats', WHERE WHAT IT READS IS OF BULK AT MOST 1048576: true; the input reads as it did. -/
def fnExactBeatsUptoRow : OpenClaim := { program := "ytlmohamgfindmaa", sum := "f14beed9d1e6fcce2a0f49670fb9359199c86c8fe50999ebc75fd364e17e68d3", func := "loop.example/g00059/laws.FnExactBeats", spec := "fnExactBeats", apart := false, narrowed := true }
def FnExactBeatsUptoSaid : Prop := fnExactBeatsUptoRow.holds Try.pinned (OpenSpec.upto fnExactBeatsSpec)

/-- 'laws.FnExactWorkIn', WHERE WHAT IT READS IS OF BULK AT MOST 1048576: true; the input reads as it did. -/
def fnExactWorkInUptoRow : OpenClaim := { program := "ytlmohamgfindmaa", sum := "f14beed9d1e6fcce2a0f49670fb9359199c86c8fe50999ebc75fd364e17e68d3", func := "loop.example/g00059/laws.FnExactWorkIn", spec := "fnExactWorkIn", apart := false, narrowed := true }
def FnExactWorkInUptoSaid : Prop := fnExactWorkInUptoRow.holds Try.pinned (OpenSpec.upto fnExactWorkInSpec)

end Rows
end Go.Proofs.Ytlmohamgfindmaa
