/-
  No cell of these rows narrows 'for every input' (looked for: loops, veiled, ifaces, maps, wideKeys, modest, calm, conditions, laid).
  DERIVED. THE GIVEN ROWS OF THIS SEAT. 7 by the template 'for every input the law returns true; each argument reads behind the call as it read before'; 0 by the template 'total and deterministic' (their statements: YtfeaabdighopbabTotals.lean).
  GIVEN WITH THE SEED: the statements are not yours to turn. If you find one false, say at which input.
  Laid BY PROGRAM, IN A SANDBOX (cutbox-rows.mjs): the forced cells as the released guide's own fill.sh prints them over the translation 506db1afde376d52… (all of the seat's roots in one cut). By AI agents, Wed Nov 11 2026. No macro, syntax, notation, axiom, sorry.
-/
import Derived.Test.YtfeaabdighopbabChecked
import GoSem.Claim
import GoSem.ClaimJoined
import GoSem.ClaimMapViews
import Derived.JoinedTies
import Derived.KernelRfl
namespace Go.Proofs.Ytfeaabdighopbab
/- THE CELL 'sum', in the pinned program and in every row, IS THE sha256 OF THE DUMP (.gsa) THAT YtfeaabdighopbabProg.lean LOADS. Nothing in Lean hashes anything: it is a label: what it is worth is what the hold of that sum in a sandbox is worth. -/
noncomputable def Try.pinned : Pinned := { name := "ytfeaabdighopbab", sum := "506db1afde376d52610ec15ee93e78b7a8abe4853f690e1a485615038218bdf1", checked := Try.checked }
namespace Rows
def none {H : Type} : Left H := { results := [], args := [] }

/-- 'laws.FnExactAverage': WHATEVER THE INPUT: true; the input reads as it did. -/
def fnExactAverageSpec : ChangeSpec := { name := "fnExactAverage", fn := fun _ => fun
  | [d1, d2] => { results := [.lit (.bool true)], args := [d1, d2] }
  | _ => none }
def fnExactAverageRow : OpenClaim := { program := "ytfeaabdighopbab", sum := "506db1afde376d52610ec15ee93e78b7a8abe4853f690e1a485615038218bdf1", func := "loop.example/g00059/laws.FnExactAverage", spec := "fnExactAverage", unfollowed := true, recurses := true, apart := false }
def FnExactAverageSaid : Prop := fnExactAverageRow.holds Try.pinned (OpenSpec.ofChange fnExactAverageSpec)

/-- ITS FALSE NEIGHBOUR: 'it returns false'. Refute it at one input. -/
def fnExactAverageWrong : ChangeSpec := { name := "fnExactAverage", fn := fun _ => fun
  | [d1, d2] => { results := [.lit (.bool false)], args := [d1, d2] }
  | _ => none }
def FnExactAverageWrongFalsely : Prop := fnExactAverageRow.holds Try.pinned (OpenSpec.ofChange fnExactAverageWrong)

/-- 'laws.FnExactCheapest': WHATEVER THE INPUT: true; the input reads as it did. -/
def fnExactCheapestSpec : ChangeSpec := { name := "fnExactCheapest", fn := fun _ => fun
  | [d1, d2] => { results := [.lit (.bool true)], args := [d1, d2] }
  | _ => none }
def fnExactCheapestRow : OpenClaim := { program := "ytfeaabdighopbab", sum := "506db1afde376d52610ec15ee93e78b7a8abe4853f690e1a485615038218bdf1", func := "loop.example/g00059/laws.FnExactCheapest", spec := "fnExactCheapest", unfollowed := true, recurses := true, apart := false }
def FnExactCheapestSaid : Prop := fnExactCheapestRow.holds Try.pinned (OpenSpec.ofChange fnExactCheapestSpec)

/-- ITS FALSE NEIGHBOUR: 'it returns false'. Refute it at one input. -/
def fnExactCheapestWrong : ChangeSpec := { name := "fnExactCheapest", fn := fun _ => fun
  | [d1, d2] => { results := [.lit (.bool false)], args := [d1, d2] }
  | _ => none }
def FnExactCheapestWrongFalsely : Prop := fnExactCheapestRow.holds Try.pinned (OpenSpec.ofChange fnExactCheapestWrong)

/-- 'laws.FnExactStowCode': WHATEVER THE INPUT: true; the input reads as it did. -/
def fnExactStowCodeSpec : ChangeSpec := { name := "fnExactStowCode", fn := fun _ => fun
  | [d1, d2] => { results := [.lit (.bool true)], args := [d1, d2] }
  | _ => none }
def fnExactStowCodeRow : OpenClaim := { program := "ytfeaabdighopbab", sum := "506db1afde376d52610ec15ee93e78b7a8abe4853f690e1a485615038218bdf1", func := "loop.example/g00059/laws.FnExactStowCode", spec := "fnExactStowCode", unfollowed := true, recurses := true, apart := false }
def FnExactStowCodeSaid : Prop := fnExactStowCodeRow.holds Try.pinned (OpenSpec.ofChange fnExactStowCodeSpec)

/-- ITS FALSE NEIGHBOUR: 'it returns false'. Refute it at one input. -/
def fnExactStowCodeWrong : ChangeSpec := { name := "fnExactStowCode", fn := fun _ => fun
  | [d1, d2] => { results := [.lit (.bool false)], args := [d1, d2] }
  | _ => none }
def FnExactStowCodeWrongFalsely : Prop := fnExactStowCodeRow.holds Try.pinned (OpenSpec.ofChange fnExactStowCodeWrong)

/-- 'laws.FnExactYardOk': WHATEVER THE INPUT: true; the input reads as it did. -/
def fnExactYardOkSpec : ChangeSpec := { name := "fnExactYardOk", fn := fun _ => fun
  | [d] => { results := [.lit (.bool true)], args := [d] }
  | _ => none }
def fnExactYardOkRow : OpenClaim := { program := "ytfeaabdighopbab", sum := "506db1afde376d52610ec15ee93e78b7a8abe4853f690e1a485615038218bdf1", func := "loop.example/g00059/laws.FnExactYardOk", spec := "fnExactYardOk", apart := false }
def FnExactYardOkSaid : Prop := fnExactYardOkRow.holds Try.pinned (OpenSpec.ofChange fnExactYardOkSpec)

/-- ITS FALSE NEIGHBOUR: 'it returns false'. Refute it at one input. -/
def fnExactYardOkWrong : ChangeSpec := { name := "fnExactYardOk", fn := fun _ => fun
  | [d] => { results := [.lit (.bool false)], args := [d] }
  | _ => none }
def FnExactYardOkWrongFalsely : Prop := fnExactYardOkRow.holds Try.pinned (OpenSpec.ofChange fnExactYardOkWrong)

/-- 'laws.FnExactFindBox': WHATEVER THE INPUT: true; the input reads as it did. -/
def fnExactFindBoxSpec : ChangeSpec := { name := "fnExactFindBox", fn := fun _ => fun
  | [d1, d2] => { results := [.lit (.bool true)], args := [d1, d2] }
  | _ => none }
def fnExactFindBoxRow : OpenClaim := { program := "ytfeaabdighopbab", sum := "506db1afde376d52610ec15ee93e78b7a8abe4853f690e1a485615038218bdf1", func := "loop.example/g00059/laws.FnExactFindBox", spec := "fnExactFindBox", apart := false }
def FnExactFindBoxSaid : Prop := fnExactFindBoxRow.holds Try.pinned (OpenSpec.ofChange fnExactFindBoxSpec)

/-- ITS FALSE NEIGHBOUR: 'it returns false'. Refute it at one input. -/
def fnExactFindBoxWrong : ChangeSpec := { name := "fnExactFindBox", fn := fun _ => fun
  | [d1, d2] => { results := [.lit (.bool false)], args := [d1, d2] }
  | _ => none }
def FnExactFindBoxWrongFalsely : Prop := fnExactFindBoxRow.holds Try.pinned (OpenSpec.ofChange fnExactFindBoxWrong)

/-- 'laws.FnExactBookOk': WHATEVER THE INPUT: true; the input reads as it did. -/
def fnExactBookOkSpec : ChangeSpec := { name := "fnExactBookOk", fn := fun _ => fun
  | [d] => { results := [.lit (.bool true)], args := [d] }
  | _ => none }
def fnExactBookOkRow : OpenClaim := { program := "ytfeaabdighopbab", sum := "506db1afde376d52610ec15ee93e78b7a8abe4853f690e1a485615038218bdf1", func := "loop.example/g00059/laws.FnExactBookOk", spec := "fnExactBookOk", unfollowed := true, recurses := true, apart := false }
def FnExactBookOkSaid : Prop := fnExactBookOkRow.holds Try.pinned (OpenSpec.ofChange fnExactBookOkSpec)

/-- ITS FALSE NEIGHBOUR: 'it returns false'. Refute it at one input. -/
def fnExactBookOkWrong : ChangeSpec := { name := "fnExactBookOk", fn := fun _ => fun
  | [d] => { results := [.lit (.bool false)], args := [d] }
  | _ => none }
def FnExactBookOkWrongFalsely : Prop := fnExactBookOkRow.holds Try.pinned (OpenSpec.ofChange fnExactBookOkWrong)

/-- 'laws.FnExactQuickest': WHATEVER THE INPUT: true; the input reads as it did. -/
def fnExactQuickestSpec : ChangeSpec := { name := "fnExactQuickest", fn := fun _ => fun
  | [d1, d2, d3, d4] => { results := [.lit (.bool true)], args := [d1, d2, d3, d4] }
  | _ => none }
def fnExactQuickestRow : OpenClaim := { program := "ytfeaabdighopbab", sum := "506db1afde376d52610ec15ee93e78b7a8abe4853f690e1a485615038218bdf1", func := "loop.example/g00059/laws.FnExactQuickest", spec := "fnExactQuickest", unfollowed := true, recurses := true, apart := false }
def FnExactQuickestSaid : Prop := fnExactQuickestRow.holds Try.pinned (OpenSpec.ofChange fnExactQuickestSpec)

/-- ITS FALSE NEIGHBOUR: 'it returns false'. Refute it at one input. -/
def fnExactQuickestWrong : ChangeSpec := { name := "fnExactQuickest", fn := fun _ => fun
  | [d1, d2, d3, d4] => { results := [.lit (.bool false)], args := [d1, d2, d3, d4] }
  | _ => none }
def FnExactQuickestWrongFalsely : Prop := fnExactQuickestRow.holds Try.pinned (OpenSpec.ofChange fnExactQuickestWrong)

/- THE SECOND FORM. 'bulk': how many values and letters a reading holds, each counted each time it is reached (what is shared counts as often as it is met; a slice's spare places count too). A statement '..UptoSaid' is the law's where the arguments, and the package variables that the reading takes, are together of bulk at most 1048576: NARROWER than '..Said'. Prove '..Said' where nothing that the law and all that it calls make is longer than what came in: it says more and counts as full. Else prove '..UptoSaid'. A law counts once. -/
mutual
def uptoBulk {H : Type} : DataW H → Nat
  | .lit (.string bytes) => bytes.length + 1
  | .lit _ => 1
  | .nil => 1
  | .ptr d => uptoBulk d + 1
  | .slice elems spare => uptoBulkAll elems + uptoBulkAll spare + 1
  | .agg parts => uptoBulkAll parts + 1
  | .iface _ d => uptoBulk d + 1
  | .map entries => uptoBulkEntries entries + 1
  | .held _ => 1
def uptoBulkAll {H : Type} : List (DataW H) → Nat
  | [] => 0
  | d :: r => uptoBulk d + uptoBulkAll r
def uptoBulkEntries {H : Type} : List (Lit × DataW H) → Nat
  | [] => 0
  | x :: r => uptoBulkEntry x + uptoBulkEntries r
def uptoBulkEntry {H : Type} : Lit × DataW H → Nat
  | (.string bytes, d) => bytes.length + uptoBulk d + 1
  | (_, d) => uptoBulk d + 1
 end
def uptoSmall : (H : Type) → List (DataW H) → Bool := fun _ ds => decide (uptoBulkAll ds ≤ 1048576)
def OpenSpec.upto (s : _root_.Go.ChangeSpec) : _root_.Go.OpenSpec := { _root_.Go.OpenSpec.ofChange s with cond := some uptoSmall }

/-- 'laws.FnExactAverage', WHERE WHAT IT READS IS OF BULK AT MOST 1048576: true; the input reads as it did. -/
def fnExactAverageUptoRow : OpenClaim := { program := "ytfeaabdighopbab", sum := "506db1afde376d52610ec15ee93e78b7a8abe4853f690e1a485615038218bdf1", func := "loop.example/g00059/laws.FnExactAverage", spec := "fnExactAverage", unfollowed := true, recurses := true, apart := false, narrowed := true }
def FnExactAverageUptoSaid : Prop := fnExactAverageUptoRow.holds Try.pinned (OpenSpec.upto fnExactAverageSpec)

/-- 'laws.FnExactCheapest', WHERE WHAT IT READS IS OF BULK AT MOST 1048576: true; the input reads as it did. -/
def fnExactCheapestUptoRow : OpenClaim := { program := "ytfeaabdighopbab", sum := "506db1afde376d52610ec15ee93e78b7a8abe4853f690e1a485615038218bdf1", func := "loop.example/g00059/laws.FnExactCheapest", spec := "fnExactCheapest", unfollowed := true, recurses := true, apart := false, narrowed := true }
def FnExactCheapestUptoSaid : Prop := fnExactCheapestUptoRow.holds Try.pinned (OpenSpec.upto fnExactCheapestSpec)

/-- 'laws.FnExactStowCode', WHERE WHAT IT READS IS OF BULK AT MOST 1048576: true; the input reads as it did. -/
def fnExactStowCodeUptoRow : OpenClaim := { program := "ytfeaabdighopbab", sum := "506db1afde376d52610ec15ee93e78b7a8abe4853f690e1a485615038218bdf1", func := "loop.example/g00059/laws.FnExactStowCode", spec := "fnExactStowCode", unfollowed := true, recurses := true, apart := false, narrowed := true }
def FnExactStowCodeUptoSaid : Prop := fnExactStowCodeUptoRow.holds Try.pinned (OpenSpec.upto fnExactStowCodeSpec)

/-- 'laws.FnExactYardOk', WHERE WHAT IT READS IS OF BULK AT MOST 1048576: true; the input reads as it did. -/
def fnExactYardOkUptoRow : OpenClaim := { program := "ytfeaabdighopbab", sum := "506db1afde376d52610ec15ee93e78b7a8abe4853f690e1a485615038218bdf1", func := "loop.example/g00059/laws.FnExactYardOk", spec := "fnExactYardOk", apart := false, narrowed := true }
def FnExactYardOkUptoSaid : Prop := fnExactYardOkUptoRow.holds Try.pinned (OpenSpec.upto fnExactYardOkSpec)

/-- 'laws.FnExactFindBox', WHERE WHAT IT READS IS OF BULK AT MOST 1048576: true; the input reads as it did. -/
def fnExactFindBoxUptoRow : OpenClaim := { program := "ytfeaabdighopbab", sum := "506db1afde376d52610ec15ee93e78b7a8abe4853f690e1a485615038218bdf1", func := "loop.example/g00059/laws.FnExactFindBox", spec := "fnExactFindBox", apart := false, narrowed := true }
def FnExactFindBoxUptoSaid : Prop := fnExactFindBoxUptoRow.holds Try.pinned (OpenSpec.upto fnExactFindBoxSpec)

/-- 'laws.FnExactBookOk', WHERE WHAT IT READS IS OF BULK AT MOST 1048576: true; the input reads as it did. -/
def fnExactBookOkUptoRow : OpenClaim := { program := "ytfeaabdighopbab", sum := "506db1afde376d52610ec15ee93e78b7a8abe4853f690e1a485615038218bdf1", func := "loop.example/g00059/laws.FnExactBookOk", spec := "fnExactBookOk", unfollowed := true, recurses := true, apart := false, narrowed := true }
def FnExactBookOkUptoSaid : Prop := fnExactBookOkUptoRow.holds Try.pinned (OpenSpec.upto fnExactBookOkSpec)

/-- 'laws.FnExactQuickest', WHERE WHAT IT READS IS OF BULK AT MOST 1048576: true; the input reads as it did. -/
def fnExactQuickestUptoRow : OpenClaim := { program := "ytfeaabdighopbab", sum := "506db1afde376d52610ec15ee93e78b7a8abe4853f690e1a485615038218bdf1", func := "loop.example/g00059/laws.FnExactQuickest", spec := "fnExactQuickest", unfollowed := true, recurses := true, apart := false, narrowed := true }
def FnExactQuickestUptoSaid : Prop := fnExactQuickestUptoRow.holds Try.pinned (OpenSpec.upto fnExactQuickestSpec)

end Rows
end Go.Proofs.Ytfeaabdighopbab
