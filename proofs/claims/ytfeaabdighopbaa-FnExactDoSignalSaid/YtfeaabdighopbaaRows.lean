/-
  No cell of these rows narrows 'for every input' (looked for: loops, veiled, ifaces, maps, wideKeys, modest, calm, conditions, laid).
  DERIVED. THE GIVEN ROWS OF THIS SEAT. 8 by the template 'for every input the law returns true; each argument reads behind the call as it read before'; 0 by the template 'total and deterministic' (their statements: YtfeaabdighopbaaTotals.lean).
  GIVEN WITH THE SEED: the statements are not yours to turn. If you find one false, say at which input.
  Laid BY PROGRAM, IN A SANDBOX (cutbox-rows.mjs): the forced cells as the released guide's own fill.sh prints them over the translation 66189cc24670cd6b… (all of the seat's roots in one cut). By AI agents, Wed Nov 11 2026. No macro, syntax, notation, axiom, sorry.
-/
import Derived.Test.YtfeaabdighopbaaChecked
import GoSem.Claim
import GoSem.ClaimJoined
import GoSem.ClaimMapViews
import Derived.JoinedTies
import Derived.KernelRfl
namespace Go.Proofs.Ytfeaabdighopbaa
/- THE CELL 'sum', in the pinned program and in every row, IS THE sha256 OF THE DUMP (.gsa) THAT YtfeaabdighopbaaProg.lean LOADS. Nothing in Lean hashes anything: it is a label: what it is worth is what the hold of that sum in a sandbox is worth. -/
noncomputable def Try.pinned : Pinned := { name := "ytfeaabdighopbaa", sum := "66189cc24670cd6bfbbc310a72e143a5af21a0e41b326368786ad3ebeb4f632d", checked := Try.checked }
namespace Rows
def none {H : Type} : Left H := { results := [], args := [] }

/-- 'laws.FnExactBound17': WHATEVER THE INPUT: true; the input reads as it did. -/
def fnExactBound17Spec : ChangeSpec := { name := "fnExactBound17", fn := fun _ => fun
  | [d1, d2] => { results := [.lit (.bool true)], args := [d1, d2] }
  | _ => none }
def fnExactBound17Row : OpenClaim := { program := "ytfeaabdighopbaa", sum := "66189cc24670cd6bfbbc310a72e143a5af21a0e41b326368786ad3ebeb4f632d", func := "loop.example/g00059/laws.FnExactBound17", spec := "fnExactBound17", apart := false }
def FnExactBound17Said : Prop := fnExactBound17Row.holds Try.pinned (OpenSpec.ofChange fnExactBound17Spec)

/-- ITS FALSE NEIGHBOUR: 'it returns false'. Refute it at one input. -/
def fnExactBound17Wrong : ChangeSpec := { name := "fnExactBound17", fn := fun _ => fun
  | [d1, d2] => { results := [.lit (.bool false)], args := [d1, d2] }
  | _ => none }
def FnExactBound17WrongFalsely : Prop := fnExactBound17Row.holds Try.pinned (OpenSpec.ofChange fnExactBound17Wrong)

/-- 'laws.FnExactClear17': WHATEVER THE INPUT: true; the input reads as it did. -/
def fnExactClear17Spec : ChangeSpec := { name := "fnExactClear17", fn := fun _ => fun
  | [d1, d2] => { results := [.lit (.bool true)], args := [d1, d2] }
  | _ => none }
def fnExactClear17Row : OpenClaim := { program := "ytfeaabdighopbaa", sum := "66189cc24670cd6bfbbc310a72e143a5af21a0e41b326368786ad3ebeb4f632d", func := "loop.example/g00059/laws.FnExactClear17", spec := "fnExactClear17", unfollowed := true, recurses := true, apart := false }
def FnExactClear17Said : Prop := fnExactClear17Row.holds Try.pinned (OpenSpec.ofChange fnExactClear17Spec)

/-- ITS FALSE NEIGHBOUR: 'it returns false'. Refute it at one input. -/
def fnExactClear17Wrong : ChangeSpec := { name := "fnExactClear17", fn := fun _ => fun
  | [d1, d2] => { results := [.lit (.bool false)], args := [d1, d2] }
  | _ => none }
def FnExactClear17WrongFalsely : Prop := fnExactClear17Row.holds Try.pinned (OpenSpec.ofChange fnExactClear17Wrong)

/-- 'laws.FnExactDoSignal': WHATEVER THE INPUT: true; the input reads as it did. -/
def fnExactDoSignalSpec : ChangeSpec := { name := "fnExactDoSignal", fn := fun _ => fun
  | [d1, d2] => { results := [.lit (.bool true)], args := [d1, d2] }
  | _ => none }
def fnExactDoSignalRow : OpenClaim := { program := "ytfeaabdighopbaa", sum := "66189cc24670cd6bfbbc310a72e143a5af21a0e41b326368786ad3ebeb4f632d", func := "loop.example/g00059/laws.FnExactDoSignal", spec := "fnExactDoSignal", apart := false }
def FnExactDoSignalSaid : Prop := fnExactDoSignalRow.holds Try.pinned (OpenSpec.ofChange fnExactDoSignalSpec)

/-- ITS FALSE NEIGHBOUR: 'it returns false'. Refute it at one input. -/
def fnExactDoSignalWrong : ChangeSpec := { name := "fnExactDoSignal", fn := fun _ => fun
  | [d1, d2] => { results := [.lit (.bool false)], args := [d1, d2] }
  | _ => none }
def FnExactDoSignalWrongFalsely : Prop := fnExactDoSignalRow.holds Try.pinned (OpenSpec.ofChange fnExactDoSignalWrong)

/-- 'laws.FnExactBerth': WHATEVER THE INPUT: true; the input reads as it did. -/
def fnExactBerthSpec : ChangeSpec := { name := "fnExactBerth", fn := fun _ => fun
  | [d1, d2, d3] => { results := [.lit (.bool true)], args := [d1, d2, d3] }
  | _ => none }
def fnExactBerthRow : OpenClaim := { program := "ytfeaabdighopbaa", sum := "66189cc24670cd6bfbbc310a72e143a5af21a0e41b326368786ad3ebeb4f632d", func := "loop.example/g00059/laws.FnExactBerth", spec := "fnExactBerth", unfollowed := true, recurses := true, apart := false }
def FnExactBerthSaid : Prop := fnExactBerthRow.holds Try.pinned (OpenSpec.ofChange fnExactBerthSpec)

/-- ITS FALSE NEIGHBOUR: 'it returns false'. Refute it at one input. -/
def fnExactBerthWrong : ChangeSpec := { name := "fnExactBerth", fn := fun _ => fun
  | [d1, d2, d3] => { results := [.lit (.bool false)], args := [d1, d2, d3] }
  | _ => none }
def FnExactBerthWrongFalsely : Prop := fnExactBerthRow.holds Try.pinned (OpenSpec.ofChange fnExactBerthWrong)

/-- 'laws.FnExactRestCode': WHATEVER THE INPUT: true; the input reads as it did. -/
def fnExactRestCodeSpec : ChangeSpec := { name := "fnExactRestCode", fn := fun _ => fun
  | [d1, d2] => { results := [.lit (.bool true)], args := [d1, d2] }
  | _ => none }
def fnExactRestCodeRow : OpenClaim := { program := "ytfeaabdighopbaa", sum := "66189cc24670cd6bfbbc310a72e143a5af21a0e41b326368786ad3ebeb4f632d", func := "loop.example/g00059/laws.FnExactRestCode", spec := "fnExactRestCode", unfollowed := true, recurses := true, apart := false }
def FnExactRestCodeSaid : Prop := fnExactRestCodeRow.holds Try.pinned (OpenSpec.ofChange fnExactRestCodeSpec)

/-- ITS FALSE NEIGHBOUR: 'it returns false'. Refute it at one input. -/
def fnExactRestCodeWrong : ChangeSpec := { name := "fnExactRestCode", fn := fun _ => fun
  | [d1, d2] => { results := [.lit (.bool false)], args := [d1, d2] }
  | _ => none }
def FnExactRestCodeWrongFalsely : Prop := fnExactRestCodeRow.holds Try.pinned (OpenSpec.ofChange fnExactRestCodeWrong)

/-- 'laws.FnExactHops': WHATEVER THE INPUT: true; the input reads as it did. -/
def fnExactHopsSpec : ChangeSpec := { name := "fnExactHops", fn := fun _ => fun
  | [d1, d2] => { results := [.lit (.bool true)], args := [d1, d2] }
  | _ => none }
def fnExactHopsRow : OpenClaim := { program := "ytfeaabdighopbaa", sum := "66189cc24670cd6bfbbc310a72e143a5af21a0e41b326368786ad3ebeb4f632d", func := "loop.example/g00059/laws.FnExactHops", spec := "fnExactHops", unfollowed := true, recurses := true, apart := false }
def FnExactHopsSaid : Prop := fnExactHopsRow.holds Try.pinned (OpenSpec.ofChange fnExactHopsSpec)

/-- ITS FALSE NEIGHBOUR: 'it returns false'. Refute it at one input. -/
def fnExactHopsWrong : ChangeSpec := { name := "fnExactHops", fn := fun _ => fun
  | [d1, d2] => { results := [.lit (.bool false)], args := [d1, d2] }
  | _ => none }
def FnExactHopsWrongFalsely : Prop := fnExactHopsRow.holds Try.pinned (OpenSpec.ofChange fnExactHopsWrong)

/-- 'laws.FnExactHouseOk': WHATEVER THE INPUT: true; the input reads as it did. -/
def fnExactHouseOkSpec : ChangeSpec := { name := "fnExactHouseOk", fn := fun _ => fun
  | [d] => { results := [.lit (.bool true)], args := [d] }
  | _ => none }
def fnExactHouseOkRow : OpenClaim := { program := "ytfeaabdighopbaa", sum := "66189cc24670cd6bfbbc310a72e143a5af21a0e41b326368786ad3ebeb4f632d", func := "loop.example/g00059/laws.FnExactHouseOk", spec := "fnExactHouseOk", apart := false }
def FnExactHouseOkSaid : Prop := fnExactHouseOkRow.holds Try.pinned (OpenSpec.ofChange fnExactHouseOkSpec)

/-- ITS FALSE NEIGHBOUR: 'it returns false'. Refute it at one input. -/
def fnExactHouseOkWrong : ChangeSpec := { name := "fnExactHouseOk", fn := fun _ => fun
  | [d] => { results := [.lit (.bool false)], args := [d] }
  | _ => none }
def FnExactHouseOkWrongFalsely : Prop := fnExactHouseOkRow.holds Try.pinned (OpenSpec.ofChange fnExactHouseOkWrong)

/-- 'laws.FnExactBlocking': WHATEVER THE INPUT: true; the input reads as it did. -/
def fnExactBlockingSpec : ChangeSpec := { name := "fnExactBlocking", fn := fun _ => fun
  | [d1, d2] => { results := [.lit (.bool true)], args := [d1, d2] }
  | _ => none }
def fnExactBlockingRow : OpenClaim := { program := "ytfeaabdighopbaa", sum := "66189cc24670cd6bfbbc310a72e143a5af21a0e41b326368786ad3ebeb4f632d", func := "loop.example/g00059/laws.FnExactBlocking", spec := "fnExactBlocking", unfollowed := true, recurses := true, apart := false }
def FnExactBlockingSaid : Prop := fnExactBlockingRow.holds Try.pinned (OpenSpec.ofChange fnExactBlockingSpec)

/-- ITS FALSE NEIGHBOUR: 'it returns false'. Refute it at one input. -/
def fnExactBlockingWrong : ChangeSpec := { name := "fnExactBlocking", fn := fun _ => fun
  | [d1, d2] => { results := [.lit (.bool false)], args := [d1, d2] }
  | _ => none }
def FnExactBlockingWrongFalsely : Prop := fnExactBlockingRow.holds Try.pinned (OpenSpec.ofChange fnExactBlockingWrong)

/- THE SECOND FORM. 'bulk': how many values and letters a reading holds, each counted each time it is reached (what is shared counts as often as it is met; a slice's spare places count too). A statement '..UptoSaid' is the law's where the arguments, and the package variables that the reading takes, are together of bulk at most 1048576: NARROWER than '..Said'. Prove '..Said' where nothing that the law and all that it calls make is longer than what came in: it says more and counts as full. Else prove '..UptoSaid'. A law counts once. -/
mutual
def uptoBulk {H : Type} : DataW H → Nat
  | .lit (.string bytes) => bytes.length + 1
  | .lit _ => 1
  | .nil => 1
  | .ptr d => uptoBulk d + 1
  | .slice elems spare => uptoBulkAll elems + uptoBulkAll spare + 1
  | .agg parts => uptoBulkAll parts + 1
  | .iface _ d => uptoBulk d + 1
  | .map entries => uptoBulkEntries entries + 1
  | .held _ => 1
def uptoBulkAll {H : Type} : List (DataW H) → Nat
  | [] => 0
  | d :: r => uptoBulk d + uptoBulkAll r
def uptoBulkEntries {H : Type} : List (Lit × DataW H) → Nat
  | [] => 0
  | x :: r => uptoBulkEntry x + uptoBulkEntries r
def uptoBulkEntry {H : Type} : Lit × DataW H → Nat
  | (.string bytes, d) => bytes.length + uptoBulk d + 1
  | (_, d) => uptoBulk d + 1
 end
def uptoSmall : (H : Type) → List (DataW H) → Bool := fun _ ds => decide (uptoBulkAll ds ≤ 1048576)
def OpenSpec.upto (s : _root_.Go.ChangeSpec) : _root_.Go.OpenSpec := { _root_.Go.OpenSpec.ofChange s with cond := some uptoSmall }

/-- 'laws.FnExactBound17', WHERE WHAT IT READS IS OF BULK AT MOST 1048576: true; the input reads as it did. -/
def fnExactBound17UptoRow : OpenClaim := { program := "ytfeaabdighopbaa", sum := "66189cc24670cd6bfbbc310a72e143a5af21a0e41b326368786ad3ebeb4f632d", func := "loop.example/g00059/laws.FnExactBound17", spec := "fnExactBound17", apart := false, narrowed := true }
def FnExactBound17UptoSaid : Prop := fnExactBound17UptoRow.holds Try.pinned (OpenSpec.upto fnExactBound17Spec)

/-- 'laws.FnExactClear17', WHERE WHAT IT READS IS OF BULK AT MOST 1048576: true; the input reads as it did. -/
def fnExactClear17UptoRow : OpenClaim := { program := "ytfeaabdighopbaa", sum := "66189cc24670cd6bfbbc310a72e143a5af21a0e41b326368786ad3ebeb4f632d", func := "loop.example/g00059/laws.FnExactClear17", spec := "fnExactClear17", unfollowed := true, recurses := true, apart := false, narrowed := true }
def FnExactClear17UptoSaid : Prop := fnExactClear17UptoRow.holds Try.pinned (OpenSpec.upto fnExactClear17Spec)

/-- 'laws.FnExactDoSignal', WHERE WHAT IT READS IS OF BULK AT MOST 1048576: true; the input reads as it did. -/
def fnExactDoSignalUptoRow : OpenClaim := { program := "ytfeaabdighopbaa", sum := "66189cc24670cd6bfbbc310a72e143a5af21a0e41b326368786ad3ebeb4f632d", func := "loop.example/g00059/laws.FnExactDoSignal", spec := "fnExactDoSignal", apart := false, narrowed := true }
def FnExactDoSignalUptoSaid : Prop := fnExactDoSignalUptoRow.holds Try.pinned (OpenSpec.upto fnExactDoSignalSpec)

/-- 'laws.FnExactBerth', WHERE WHAT IT READS IS OF BULK AT MOST 1048576: true; the input reads as it did. -/
def fnExactBerthUptoRow : OpenClaim := { program := "ytfeaabdighopbaa", sum := "66189cc24670cd6bfbbc310a72e143a5af21a0e41b326368786ad3ebeb4f632d", func := "loop.example/g00059/laws.FnExactBerth", spec := "fnExactBerth", unfollowed := true, recurses := true, apart := false, narrowed := true }
def FnExactBerthUptoSaid : Prop := fnExactBerthUptoRow.holds Try.pinned (OpenSpec.upto fnExactBerthSpec)

/-- 'laws.FnExactRestCode', WHERE WHAT IT READS IS OF BULK AT MOST 1048576: true; the input reads as it did. -/
def fnExactRestCodeUptoRow : OpenClaim := { program := "ytfeaabdighopbaa", sum := "66189cc24670cd6bfbbc310a72e143a5af21a0e41b326368786ad3ebeb4f632d", func := "loop.example/g00059/laws.FnExactRestCode", spec := "fnExactRestCode", unfollowed := true, recurses := true, apart := false, narrowed := true }
def FnExactRestCodeUptoSaid : Prop := fnExactRestCodeUptoRow.holds Try.pinned (OpenSpec.upto fnExactRestCodeSpec)

/-- 'laws.FnExactHops', WHERE WHAT IT READS IS OF BULK AT MOST 1048576: true; the input reads as it did. -/
def fnExactHopsUptoRow : OpenClaim := { program := "ytfeaabdighopbaa", sum := "66189cc24670cd6bfbbc310a72e143a5af21a0e41b326368786ad3ebeb4f632d", func := "loop.example/g00059/laws.FnExactHops", spec := "fnExactHops", unfollowed := true, recurses := true, apart := false, narrowed := true }
def FnExactHopsUptoSaid : Prop := fnExactHopsUptoRow.holds Try.pinned (OpenSpec.upto fnExactHopsSpec)

/-- 'laws.FnExactHouseOk', WHERE WHAT IT READS IS OF BULK AT MOST 1048576: true; the input reads as it did. -/
def fnExactHouseOkUptoRow : OpenClaim := { program := "ytfeaabdighopbaa", sum := "66189cc24670cd6bfbbc310a72e143a5af21a0e41b326368786ad3ebeb4f632d", func := "loop.example/g00059/laws.FnExactHouseOk", spec := "fnExactHouseOk", apart := false, narrowed := true }
def FnExactHouseOkUptoSaid : Prop := fnExactHouseOkUptoRow.holds Try.pinned (OpenSpec.upto fnExactHouseOkSpec)

/-- 'laws.FnExactBlocking', WHERE WHAT IT READS IS OF BULK AT MOST 1048576: true; the input reads as it did. -/
def fnExactBlockingUptoRow : OpenClaim := { program := "ytfeaabdighopbaa", sum := "66189cc24670cd6bfbbc310a72e143a5af21a0e41b326368786ad3ebeb4f632d", func := "loop.example/g00059/laws.FnExactBlocking", spec := "fnExactBlocking", unfollowed := true, recurses := true, apart := false, narrowed := true }
def FnExactBlockingUptoSaid : Prop := fnExactBlockingUptoRow.holds Try.pinned (OpenSpec.upto fnExactBlockingSpec)

end Rows
end Go.Proofs.Ytfeaabdighopbaa
