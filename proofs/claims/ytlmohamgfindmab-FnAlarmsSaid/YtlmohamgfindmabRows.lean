/-
  No cell of these rows narrows 'for every input' (looked for: loops, veiled, ifaces, maps, wideKeys, modest, calm, conditions, laid).
  DERIVED. THE GIVEN ROWS OF THIS SEAT. 13 by the template 'for every input the law returns true; each argument reads behind the call as it read before'; 0 by the template 'total and deterministic' (their statements: YtlmohamgfindmabTotals.lean).
  GIVEN WITH THE SEED: the statements are not yours to turn. If you find one false, say at which input.
  Laid BY PROGRAM, IN A SANDBOX (cutbox-rows.mjs): the forced cells as the released guide's own fill.sh prints them over the translation 55522ea476eb234c… (all of the seat's roots in one cut). By AI agents, Wed Nov 11 2026. No macro, syntax, notation, axiom, sorry.
-/
import Derived.Test.YtlmohamgfindmabChecked
import GoSem.Claim
import GoSem.ClaimJoined
import GoSem.ClaimMapViews
import Derived.JoinedTies
import Derived.KernelRfl
namespace Go.Proofs.Ytlmohamgfindmab
/- THE CELL 'sum', in the pinned program and in every row, IS THE sha256 OF THE DUMP (.gsa) THAT YtlmohamgfindmabProg.lean LOADS. Nothing in Lean hashes anything: it is a label: what it is worth is what the hold of that sum in a sandbox is worth. -/
noncomputable def Try.pinned : Pinned := { name := "ytlmohamgfindmab", sum := "55522ea476eb234c4ba76eed5b212081e7e9c3a821798b6412aee3971a74c3ea", checked := Try.checked }
namespace Rows
def none {H : Type} : Left H := { results := [], args := [] }

/-- 'laws.FnExactOneWay': WHATEVER THE INPUT: true; the input reads as it did. -/
def fnExactOneWaySpec : ChangeSpec := { name := "fnExactOneWay", fn := fun _ => fun
  | [d1, d2] => { results := [.lit (.bool true)], args := [d1, d2] }
  | _ => none }
def fnExactOneWayRow : OpenClaim := { program := "ytlmohamgfindmab", sum := "55522ea476eb234c4ba76eed5b212081e7e9c3a821798b6412aee3971a74c3ea", func := "loop.example/g00059/laws.FnExactOneWay", spec := "fnExactOneWay", apart := false }
def FnExactOneWaySaid : Prop := fnExactOneWayRow.holds Try.pinned (OpenSpec.ofChange fnExactOneWaySpec)

/-- ITS FALSE NEIGHBOUR: 'it returns false'. Refute it at one input. -/
def fnExactOneWayWrong : ChangeSpec := { name := "fnExactOneWay", fn := fun _ => fun
  | [d1, d2] => { results := [.lit (.bool false)], args := [d1, d2] }
  | _ => none }
def FnExactOneWayWrongFalsely : Prop := fnExactOneWayRow.holds Try.pinned (OpenSpec.ofChange fnExactOneWayWrong)

/-- 'laws.FnExactBoxOk': WHATEVER THE INPUT: true; the input reads as it did. -/
def fnExactBoxOkSpec : ChangeSpec := { name := "fnExactBoxOk", fn := fun _ => fun
  | [d] => { results := [.lit (.bool true)], args := [d] }
  | _ => none }
def fnExactBoxOkRow : OpenClaim := { program := "ytlmohamgfindmab", sum := "55522ea476eb234c4ba76eed5b212081e7e9c3a821798b6412aee3971a74c3ea", func := "loop.example/g00059/laws.FnExactBoxOk", spec := "fnExactBoxOk", apart := false }
def FnExactBoxOkSaid : Prop := fnExactBoxOkRow.holds Try.pinned (OpenSpec.ofChange fnExactBoxOkSpec)

/-- ITS FALSE NEIGHBOUR: 'it returns false'. Refute it at one input. -/
def fnExactBoxOkWrong : ChangeSpec := { name := "fnExactBoxOk", fn := fun _ => fun
  | [d] => { results := [.lit (.bool false)], args := [d] }
  | _ => none }
def FnExactBoxOkWrongFalsely : Prop := fnExactBoxOkRow.holds Try.pinned (OpenSpec.ofChange fnExactBoxOkWrong)

/-- 'laws.FnExactStarts': WHATEVER THE INPUT: true; the input reads as it did. -/
def fnExactStartsSpec : ChangeSpec := { name := "fnExactStarts", fn := fun _ => fun
  | [d1, d2, d3] => { results := [.lit (.bool true)], args := [d1, d2, d3] }
  | _ => none }
def fnExactStartsRow : OpenClaim := { program := "ytlmohamgfindmab", sum := "55522ea476eb234c4ba76eed5b212081e7e9c3a821798b6412aee3971a74c3ea", func := "loop.example/g00059/laws.FnExactStarts", spec := "fnExactStarts", apart := false }
def FnExactStartsSaid : Prop := fnExactStartsRow.holds Try.pinned (OpenSpec.ofChange fnExactStartsSpec)

/-- ITS FALSE NEIGHBOUR: 'it returns false'. Refute it at one input. -/
def fnExactStartsWrong : ChangeSpec := { name := "fnExactStarts", fn := fun _ => fun
  | [d1, d2, d3] => { results := [.lit (.bool false)], args := [d1, d2, d3] }
  | _ => none }
def FnExactStartsWrongFalsely : Prop := fnExactStartsRow.holds Try.pinned (OpenSpec.ofChange fnExactStartsWrong)

/-- 'laws.FnExactBound17': WHATEVER THE INPUT: true; the input reads as it did. -/
def fnExactBound17Spec : ChangeSpec := { name := "fnExactBound17", fn := fun _ => fun
  | [d1, d2] => { results := [.lit (.bool true)], args := [d1, d2] }
  | _ => none }
def fnExactBound17Row : OpenClaim := { program := "ytlmohamgfindmab", sum := "55522ea476eb234c4ba76eed5b212081e7e9c3a821798b6412aee3971a74c3ea", func := "loop.example/g00059/laws.FnExactBound17", spec := "fnExactBound17", apart := false }
def FnExactBound17Said : Prop := fnExactBound17Row.holds Try.pinned (OpenSpec.ofChange fnExactBound17Spec)

/-- ITS FALSE NEIGHBOUR: 'it returns false'. Refute it at one input. -/
def fnExactBound17Wrong : ChangeSpec := { name := "fnExactBound17", fn := fun _ => fun
  | [d1, d2] => { results := [.lit (.bool false)], args := [d1, d2] }
  | _ => none }
def FnExactBound17WrongFalsely : Prop := fnExactBound17Row.holds Try.pinned (OpenSpec.ofChange fnExactBound17Wrong)

/-- 'laws.FnExactAlarms': WHATEVER THE INPUT: true; the input reads as it did. -/
def fnExactAlarmsSpec : ChangeSpec := { name := "fnExactAlarms", fn := fun _ => fun
  | [d1, d2] => { results := [.lit (.bool true)], args := [d1, d2] }
  | _ => none }
def fnExactAlarmsRow : OpenClaim := { program := "ytlmohamgfindmab", sum := "55522ea476eb234c4ba76eed5b212081e7e9c3a821798b6412aee3971a74c3ea", func := "loop.example/g00059/laws.FnExactAlarms", spec := "fnExactAlarms", unfollowed := true, recurses := true, apart := false }
def FnExactAlarmsSaid : Prop := fnExactAlarmsRow.holds Try.pinned (OpenSpec.ofChange fnExactAlarmsSpec)

/-- ITS FALSE NEIGHBOUR: 'it returns false'. Refute it at one input. -/
def fnExactAlarmsWrong : ChangeSpec := { name := "fnExactAlarms", fn := fun _ => fun
  | [d1, d2] => { results := [.lit (.bool false)], args := [d1, d2] }
  | _ => none }
def FnExactAlarmsWrongFalsely : Prop := fnExactAlarmsRow.holds Try.pinned (OpenSpec.ofChange fnExactAlarmsWrong)

/-- 'laws.FnAlarms': WHATEVER THE INPUT: true; the input reads as it did. -/
def fnAlarmsSpec : ChangeSpec := { name := "fnAlarms", fn := fun _ => fun
  | [d] => { results := [.lit (.bool true)], args := [d] }
  | _ => none }
def fnAlarmsRow : OpenClaim := { program := "ytlmohamgfindmab", sum := "55522ea476eb234c4ba76eed5b212081e7e9c3a821798b6412aee3971a74c3ea", func := "loop.example/g00059/laws.FnAlarms", spec := "fnAlarms", unfollowed := true, recurses := true, apart := false }
def FnAlarmsSaid : Prop := fnAlarmsRow.holds Try.pinned (OpenSpec.ofChange fnAlarmsSpec)

/-- ITS FALSE NEIGHBOUR: 'it returns false'. Refute it at one input. -/
def fnAlarmsWrong : ChangeSpec := { name := "fnAlarms", fn := fun _ => fun
  | [d] => { results := [.lit (.bool false)], args := [d] }
  | _ => none }
def FnAlarmsWrongFalsely : Prop := fnAlarmsRow.holds Try.pinned (OpenSpec.ofChange fnAlarmsWrong)

/-- 'laws.FnExactClear17': WHATEVER THE INPUT: true; the input reads as it did. -/
def fnExactClear17Spec : ChangeSpec := { name := "fnExactClear17", fn := fun _ => fun
  | [d1, d2] => { results := [.lit (.bool true)], args := [d1, d2] }
  | _ => none }
def fnExactClear17Row : OpenClaim := { program := "ytlmohamgfindmab", sum := "55522ea476eb234c4ba76eed5b212081e7e9c3a821798b6412aee3971a74c3ea", func := "loop.example/g00059/laws.FnExactClear17", spec := "fnExactClear17", unfollowed := true, recurses := true, apart := false }
def FnExactClear17Said : Prop := fnExactClear17Row.holds Try.pinned (OpenSpec.ofChange fnExactClear17Spec)

/-- ITS FALSE NEIGHBOUR: 'it returns false'. Refute it at one input. -/
def fnExactClear17Wrong : ChangeSpec := { name := "fnExactClear17", fn := fun _ => fun
  | [d1, d2] => { results := [.lit (.bool false)], args := [d1, d2] }
  | _ => none }
def FnExactClear17WrongFalsely : Prop := fnExactClear17Row.holds Try.pinned (OpenSpec.ofChange fnExactClear17Wrong)

/-- 'laws.FnExactYardOk': WHATEVER THE INPUT: true; the input reads as it did. -/
def fnExactYardOkSpec : ChangeSpec := { name := "fnExactYardOk", fn := fun _ => fun
  | [d] => { results := [.lit (.bool true)], args := [d] }
  | _ => none }
def fnExactYardOkRow : OpenClaim := { program := "ytlmohamgfindmab", sum := "55522ea476eb234c4ba76eed5b212081e7e9c3a821798b6412aee3971a74c3ea", func := "loop.example/g00059/laws.FnExactYardOk", spec := "fnExactYardOk", apart := false }
def FnExactYardOkSaid : Prop := fnExactYardOkRow.holds Try.pinned (OpenSpec.ofChange fnExactYardOkSpec)

/-- ITS FALSE NEIGHBOUR: 'it returns false'. Refute it at one input. -/
def fnExactYardOkWrong : ChangeSpec := { name := "fnExactYardOk", fn := fun _ => fun
  | [d] => { results := [.lit (.bool false)], args := [d] }
  | _ => none }
def FnExactYardOkWrongFalsely : Prop := fnExactYardOkRow.holds Try.pinned (OpenSpec.ofChange fnExactYardOkWrong)

/-- 'laws.FnExactCartsOk': WHATEVER THE INPUT: true; the input reads as it did. -/
def fnExactCartsOkSpec : ChangeSpec := { name := "fnExactCartsOk", fn := fun _ => fun
  | [d1, d2] => { results := [.lit (.bool true)], args := [d1, d2] }
  | _ => none }
def fnExactCartsOkRow : OpenClaim := { program := "ytlmohamgfindmab", sum := "55522ea476eb234c4ba76eed5b212081e7e9c3a821798b6412aee3971a74c3ea", func := "loop.example/g00059/laws.FnExactCartsOk", spec := "fnExactCartsOk", unfollowed := true, recurses := true, apart := false }
def FnExactCartsOkSaid : Prop := fnExactCartsOkRow.holds Try.pinned (OpenSpec.ofChange fnExactCartsOkSpec)

/-- ITS FALSE NEIGHBOUR: 'it returns false'. Refute it at one input. -/
def fnExactCartsOkWrong : ChangeSpec := { name := "fnExactCartsOk", fn := fun _ => fun
  | [d1, d2] => { results := [.lit (.bool false)], args := [d1, d2] }
  | _ => none }
def FnExactCartsOkWrongFalsely : Prop := fnExactCartsOkRow.holds Try.pinned (OpenSpec.ofChange fnExactCartsOkWrong)

/-- 'laws.FnExactDoSignal': WHATEVER THE INPUT: true; the input reads as it did. -/
def fnExactDoSignalSpec : ChangeSpec := { name := "fnExactDoSignal", fn := fun _ => fun
  | [d1, d2] => { results := [.lit (.bool true)], args := [d1, d2] }
  | _ => none }
def fnExactDoSignalRow : OpenClaim := { program := "ytlmohamgfindmab", sum := "55522ea476eb234c4ba76eed5b212081e7e9c3a821798b6412aee3971a74c3ea", func := "loop.example/g00059/laws.FnExactDoSignal", spec := "fnExactDoSignal", apart := false }
def FnExactDoSignalSaid : Prop := fnExactDoSignalRow.holds Try.pinned (OpenSpec.ofChange fnExactDoSignalSpec)

/-- ITS FALSE NEIGHBOUR: 'it returns false'. Refute it at one input. -/
def fnExactDoSignalWrong : ChangeSpec := { name := "fnExactDoSignal", fn := fun _ => fun
  | [d1, d2] => { results := [.lit (.bool false)], args := [d1, d2] }
  | _ => none }
def FnExactDoSignalWrongFalsely : Prop := fnExactDoSignalRow.holds Try.pinned (OpenSpec.ofChange fnExactDoSignalWrong)

/-- 'laws.FnExactFindBox': WHATEVER THE INPUT: true; the input reads as it did. -/
def fnExactFindBoxSpec : ChangeSpec := { name := "fnExactFindBox", fn := fun _ => fun
  | [d1, d2] => { results := [.lit (.bool true)], args := [d1, d2] }
  | _ => none }
def fnExactFindBoxRow : OpenClaim := { program := "ytlmohamgfindmab", sum := "55522ea476eb234c4ba76eed5b212081e7e9c3a821798b6412aee3971a74c3ea", func := "loop.example/g00059/laws.FnExactFindBox", spec := "fnExactFindBox", apart := false }
def FnExactFindBoxSaid : Prop := fnExactFindBoxRow.holds Try.pinned (OpenSpec.ofChange fnExactFindBoxSpec)

/-- ITS FALSE NEIGHBOUR: 'it returns false'. Refute it at one input. -/
def fnExactFindBoxWrong : ChangeSpec := { name := "fnExactFindBox", fn := fun _ => fun
  | [d1, d2] => { results := [.lit (.bool false)], args := [d1, d2] }
  | _ => none }
def FnExactFindBoxWrongFalsely : Prop := fnExactFindBoxRow.holds Try.pinned (OpenSpec.ofChange fnExactFindBoxWrong)

/-- 'laws.FnExactBerth': WHATEVER THE INPUT: true; the input reads as it did. -/
def fnExactBerthSpec : ChangeSpec := { name := "fnExactBerth", fn := fun _ => fun
  | [d1, d2, d3] => { results := [.lit (.bool true)], args := [d1, d2, d3] }
  | _ => none }
def fnExactBerthRow : OpenClaim := { program := "ytlmohamgfindmab", sum := "55522ea476eb234c4ba76eed5b212081e7e9c3a821798b6412aee3971a74c3ea", func := "loop.example/g00059/laws.FnExactBerth", spec := "fnExactBerth", unfollowed := true, recurses := true, apart := false }
def FnExactBerthSaid : Prop := fnExactBerthRow.holds Try.pinned (OpenSpec.ofChange fnExactBerthSpec)

/-- ITS FALSE NEIGHBOUR: 'it returns false'. Refute it at one input. -/
def fnExactBerthWrong : ChangeSpec := { name := "fnExactBerth", fn := fun _ => fun
  | [d1, d2, d3] => { results := [.lit (.bool false)], args := [d1, d2, d3] }
  | _ => none }
def FnExactBerthWrongFalsely : Prop := fnExactBerthRow.holds Try.pinned (OpenSpec.ofChange fnExactBerthWrong)

/-- 'laws.FnExactRestCode': WHATEVER THE INPUT: true; the input reads as it did. -/
def fnExactRestCodeSpec : ChangeSpec := { name := "fnExactRestCode", fn := fun _ => fun
  | [d1, d2] => { results := [.lit (.bool true)], args := [d1, d2] }
  | _ => none }
def fnExactRestCodeRow : OpenClaim := { program := "ytlmohamgfindmab", sum := "55522ea476eb234c4ba76eed5b212081e7e9c3a821798b6412aee3971a74c3ea", func := "loop.example/g00059/laws.FnExactRestCode", spec := "fnExactRestCode", unfollowed := true, recurses := true, apart := false }
def FnExactRestCodeSaid : Prop := fnExactRestCodeRow.holds Try.pinned (OpenSpec.ofChange fnExactRestCodeSpec)

/-- ITS FALSE NEIGHBOUR: 'it returns false'. Refute it at one input. -/
def fnExactRestCodeWrong : ChangeSpec := { name := "fnExactRestCode", fn := fun _ => fun
  | [d1, d2] => { results := [.lit (.bool false)], args := [d1, d2] }
  | _ => none }
def FnExactRestCodeWrongFalsely : Prop := fnExactRestCodeRow.holds Try.pinned (OpenSpec.ofChange fnExactRestCodeWrong)

/- THE SECOND FORM. 'bulk': how many values and letters a reading holds, each counted each time it is reached (what is shared counts as often as it is met; a slice's spare places count too). A statement '..UptoSaid' is the law's where the arguments, and the package variables that the reading takes, are together of bulk at most 1048576: NARROWER than '..Said'. Prove '..Said' where nothing that the law and all that it calls make is longer than what came in: it says more and counts as full. Else prove '..UptoSaid'. A law counts once. -/
mutual
def uptoBulk {H : Type} : DataW H → Nat
  | .lit (.string bytes) => bytes.length + 1
  | .lit _ => 1
  | .nil => 1
  | .ptr d => uptoBulk d + 1
  | .slice elems spare => uptoBulkAll elems + uptoBulkAll spare + 1
  | .agg parts => uptoBulkAll parts + 1
  | .iface _ d => uptoBulk d + 1
  | .map entries => uptoBulkEntries entries + 1
  | .held _ => 1
def uptoBulkAll {H : Type} : List (DataW H) → Nat
  | [] => 0
  | d :: r => uptoBulk d + uptoBulkAll r
def uptoBulkEntries {H : Type} : List (Lit × DataW H) → Nat
  | [] => 0
  | x :: r => uptoBulkEntry x + uptoBulkEntries r
def uptoBulkEntry {H : Type} : Lit × DataW H → Nat
  | (.string bytes, d) => bytes.length + uptoBulk d + 1
  | (_, d) => uptoBulk d + 1
 end
def uptoSmall : (H : Type) → List (DataW H) → Bool := fun _ ds => decide (uptoBulkAll ds ≤ 1048576)
def OpenSpec.upto (s : _root_.Go.ChangeSpec) : _root_.Go.OpenSpec := { _root_.Go.OpenSpec.ofChange s with cond := some uptoSmall }

/-- 'laws.FnExactOneWay', WHERE WHAT IT READS IS OF BULK AT MOST 1048576: true; the input reads as it did. -/
def fnExactOneWayUptoRow : OpenClaim := { program := "ytlmohamgfindmab", sum := "55522ea476eb234c4ba76eed5b212081e7e9c3a821798b6412aee3971a74c3ea", func := "loop.example/g00059/laws.FnExactOneWay", spec := "fnExactOneWay", apart := false, narrowed := true }
def FnExactOneWayUptoSaid : Prop := fnExactOneWayUptoRow.holds Try.pinned (OpenSpec.upto fnExactOneWaySpec)

/-- 'laws.FnExactBoxOk', WHERE WHAT IT READS IS OF BULK AT MOST 1048576: true; the input reads as it did. -/
def fnExactBoxOkUptoRow : OpenClaim := { program := "ytlmohamgfindmab", sum := "55522ea476eb234c4ba76eed5b212081e7e9c3a821798b6412aee3971a74c3ea", func := "loop.example/g00059/laws.FnExactBoxOk", spec := "fnExactBoxOk", apart := false, narrowed := true }
def FnExactBoxOkUptoSaid : Prop := fnExactBoxOkUptoRow.holds Try.pinned (OpenSpec.upto fnExactBoxOkSpec)

/-- 'laws.FnExactStarts', WHERE WHAT IT READS IS OF BULK AT MOST 1048576: true; the input reads as it did. -/
def fnExactStartsUptoRow : OpenClaim := { program := "ytlmohamgfindmab", sum := "55522ea476eb234c4ba76eed5b212081e7e9c3a821798b6412aee3971a74c3ea", func := "loop.example/g00059/laws.FnExactStarts", spec := "fnExactStarts", apart := false, narrowed := true }
def FnExactStartsUptoSaid : Prop := fnExactStartsUptoRow.holds Try.pinned (OpenSpec.upto fnExactStartsSpec)

/-- 'laws.FnExactBound17', WHERE WHAT IT READS IS OF BULK AT MOST 1048576: true; the input reads as it did. -/
def fnExactBound17UptoRow : OpenClaim := { program := "ytlmohamgfindmab", sum := "55522ea476eb234c4ba76eed5b212081e7e9c3a821798b6412aee3971a74c3ea", func := "loop.example/g00059/laws.FnExactBound17", spec := "fnExactBound17", apart := false, narrowed := true }
def FnExactBound17UptoSaid : Prop := fnExactBound17UptoRow.holds Try.pinned (OpenSpec.upto fnExactBound17Spec)

/-- 'laws.FnExactAlarms', WHERE WHAT IT READS IS OF BULK AT MOST 1048576: true; the input reads as it did. -/
def fnExactAlarmsUptoRow : OpenClaim := { program := "ytlmohamgfindmab", sum := "55522ea476eb234c4ba76eed5b212081e7e9c3a821798b6412aee3971a74c3ea", func := "loop.example/g00059/laws.FnExactAlarms", spec := "fnExactAlarms", unfollowed := true, recurses := true, apart := false, narrowed := true }
def FnExactAlarmsUptoSaid : Prop := fnExactAlarmsUptoRow.holds Try.pinned (OpenSpec.upto fnExactAlarmsSpec)

/-- 'laws.FnAlarms', WHERE WHAT IT READS IS OF BULK AT MOST 1048576: true; the input reads as it did. -/
def fnAlarmsUptoRow : OpenClaim := { program := "ytlmohamgfindmab", sum := "55522ea476eb234c4ba76eed5b212081e7e9c3a821798b6412aee3971a74c3ea", func := "loop.example/g00059/laws.FnAlarms", spec := "fnAlarms", unfollowed := true, recurses := true, apart := false, narrowed := true }
def FnAlarmsUptoSaid : Prop := fnAlarmsUptoRow.holds Try.pinned (OpenSpec.upto fnAlarmsSpec)

/-- 'laws.FnExactClear17', WHERE WHAT IT READS IS OF BULK AT MOST 1048576: true; the input reads as it did. -/
def fnExactClear17UptoRow : OpenClaim := { program := "ytlmohamgfindmab", sum := "55522ea476eb234c4ba76eed5b212081e7e9c3a821798b6412aee3971a74c3ea", func := "loop.example/g00059/laws.FnExactClear17", spec := "fnExactClear17", unfollowed := true, recurses := true, apart := false, narrowed := true }
def FnExactClear17UptoSaid : Prop := fnExactClear17UptoRow.holds Try.pinned (OpenSpec.upto fnExactClear17Spec)

/-- 'laws.FnExactYardOk', WHERE WHAT IT READS IS OF BULK AT MOST 1048576: true; the input reads as it did. -/
def fnExactYardOkUptoRow : OpenClaim := { program := "ytlmohamgfindmab", sum := "55522ea476eb234c4ba76eed5b212081e7e9c3a821798b6412aee3971a74c3ea", func := "loop.example/g00059/laws.FnExactYardOk", spec := "fnExactYardOk", apart := false, narrowed := true }
def FnExactYardOkUptoSaid : Prop := fnExactYardOkUptoRow.holds Try.pinned (OpenSpec.upto fnExactYardOkSpec)

/-- 'laws.FnExactCartsOk', WHERE WHAT IT READS IS OF BULK AT MOST 1048576: true; the input reads as it did. -/
def fnExactCartsOkUptoRow : OpenClaim := { program := "ytlmohamgfindmab", sum := "55522ea476eb234c4ba76eed5b212081e7e9c3a821798b6412aee3971a74c3ea", func := "loop.example/g00059/laws.FnExactCartsOk", spec := "fnExactCartsOk", unfollowed := true, recurses := true, apart := false, narrowed := true }
def FnExactCartsOkUptoSaid : Prop := fnExactCartsOkUptoRow.holds Try.pinned (OpenSpec.upto fnExactCartsOkSpec)

/-- 'laws.FnExactDoSignal', WHERE WHAT IT READS IS OF BULK AT MOST 1048576: true; the input reads as it did. -/
def fnExactDoSignalUptoRow : OpenClaim := { program := "ytlmohamgfindmab", sum := "55522ea476eb234c4ba76eed5b212081e7e9c3a821798b6412aee3971a74c3ea", func := "loop.example/g00059/laws.FnExactDoSignal", spec := "fnExactDoSignal", apart := false, narrowed := true }
def FnExactDoSignalUptoSaid : Prop := fnExactDoSignalUptoRow.holds Try.pinned (OpenSpec.upto fnExactDoSignalSpec)

/-- 'laws.FnExactFindBox', WHERE WHAT IT READS IS OF BULK AT MOST 1048576: true; the input reads as it did. -/
def fnExactFindBoxUptoRow : OpenClaim := { program := "ytlmohamgfindmab", sum := "55522ea476eb234c4ba76eed5b212081e7e9c3a821798b6412aee3971a74c3ea", func := "loop.example/g00059/laws.FnExactFindBox", spec := "fnExactFindBox", apart := false, narrowed := true }
def FnExactFindBoxUptoSaid : Prop := fnExactFindBoxUptoRow.holds Try.pinned (OpenSpec.upto fnExactFindBoxSpec)

/-- 'laws.FnExactBerth', WHERE WHAT IT READS IS OF BULK AT MOST 1048576: true; the input reads as it did. -/
def fnExactBerthUptoRow : OpenClaim := { program := "ytlmohamgfindmab", sum := "55522ea476eb234c4ba76eed5b212081e7e9c3a821798b6412aee3971a74c3ea", func := "loop.example/g00059/laws.FnExactBerth", spec := "fnExactBerth", unfollowed := true, recurses := true, apart := false, narrowed := true }
def FnExactBerthUptoSaid : Prop := fnExactBerthUptoRow.holds Try.pinned (OpenSpec.upto fnExactBerthSpec)

/-- 'laws.FnExactRestCode', WHERE WHAT IT READS IS OF BULK AT MOST 1048576: true; the input reads as it did. -/
def fnExactRestCodeUptoRow : OpenClaim := { program := "ytlmohamgfindmab", sum := "55522ea476eb234c4ba76eed5b212081e7e9c3a821798b6412aee3971a74c3ea", func := "loop.example/g00059/laws.FnExactRestCode", spec := "fnExactRestCode", unfollowed := true, recurses := true, apart := false, narrowed := true }
def FnExactRestCodeUptoSaid : Prop := fnExactRestCodeUptoRow.holds Try.pinned (OpenSpec.upto fnExactRestCodeSpec)

end Rows
end Go.Proofs.Ytlmohamgfindmab
