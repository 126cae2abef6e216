/-
  No cell of these rows narrows 'for every input' (looked for: loops, veiled, ifaces, maps, wideKeys, modest, calm, conditions, laid).
  DERIVED. THE GIVEN ROWS OF THIS SEAT. 13 by the template 'for every input the law returns true; each argument reads behind the call as it read before'; 0 by the template 'total and deterministic' (their statements: YtlmohamgfindmacTotals.lean).
  GIVEN WITH THE SEED: the statements are not yours to turn. If you find one false, say at which input.
  Laid BY PROGRAM, IN A SANDBOX (cutbox-rows.mjs): the forced cells as the released guide's own fill.sh prints them over the translation 630b3a59afbef410… (all of the seat's roots in one cut). By AI agents, Wed Nov 11 2026. No macro, syntax, notation, axiom, sorry.
-/
import Derived.Test.YtlmohamgfindmacChecked
import GoSem.Claim
import GoSem.ClaimJoined
import GoSem.ClaimMapViews
import Derived.JoinedTies
import Derived.KernelRfl
namespace Go.Proofs.Ytlmohamgfindmac
/- THE CELL 'sum', in the pinned program and in every row, IS THE sha256 OF THE DUMP (.gsa) THAT YtlmohamgfindmacProg.lean LOADS. Nothing in Lean hashes anything: it is a label: what it is worth is what the hold of that sum in a sandbox is worth. -/
noncomputable def Try.pinned : Pinned := { name := "ytlmohamgfindmac", sum := "630b3a59afbef41065f6a71090cceb3354c7f681c6c6803b5371543a90db2967", checked := Try.checked }
namespace Rows
def none {H : Type} : Left H := { results := [], args := [] }

/-- 'laws.FnExactHops': WHATEVER THE INPUT: true; the input reads as it did. -/
def fnExactHopsSpec : ChangeSpec := { name := "fnExactHops", fn := fun _ => fun
  | [d1, d2] => { results := [.lit (.bool true)], args := [d1, d2] }
  | _ => none }
def fnExactHopsRow : OpenClaim := { program := "ytlmohamgfindmac", sum := "630b3a59afbef41065f6a71090cceb3354c7f681c6c6803b5371543a90db2967", func := "loop.example/g00059/laws.FnExactHops", spec := "fnExactHops", unfollowed := true, recurses := true, apart := false }
def FnExactHopsSaid : Prop := fnExactHopsRow.holds Try.pinned (OpenSpec.ofChange fnExactHopsSpec)

/-- ITS FALSE NEIGHBOUR: 'it returns false'. Refute it at one input. -/
def fnExactHopsWrong : ChangeSpec := { name := "fnExactHops", fn := fun _ => fun
  | [d1, d2] => { results := [.lit (.bool false)], args := [d1, d2] }
  | _ => none }
def FnExactHopsWrongFalsely : Prop := fnExactHopsRow.holds Try.pinned (OpenSpec.ofChange fnExactHopsWrong)

/-- 'laws.FnExactStackOk': WHATEVER THE INPUT: true; the input reads as it did. -/
def fnExactStackOkSpec : ChangeSpec := { name := "fnExactStackOk", fn := fun _ => fun
  | [d1, d2] => { results := [.lit (.bool true)], args := [d1, d2] }
  | _ => none }
def fnExactStackOkRow : OpenClaim := { program := "ytlmohamgfindmac", sum := "630b3a59afbef41065f6a71090cceb3354c7f681c6c6803b5371543a90db2967", func := "loop.example/g00059/laws.FnExactStackOk", spec := "fnExactStackOk", apart := false }
def FnExactStackOkSaid : Prop := fnExactStackOkRow.holds Try.pinned (OpenSpec.ofChange fnExactStackOkSpec)

/-- ITS FALSE NEIGHBOUR: 'it returns false'. Refute it at one input. -/
def fnExactStackOkWrong : ChangeSpec := { name := "fnExactStackOk", fn := fun _ => fun
  | [d1, d2] => { results := [.lit (.bool false)], args := [d1, d2] }
  | _ => none }
def FnExactStackOkWrongFalsely : Prop := fnExactStackOkRow.holds Try.pinned (OpenSpec.ofChange fnExactStackOkWrong)

/-- 'laws.FnExactChartOk': WHATEVER THE INPUT: true; the input reads as it did. -/
def fnExactChartOkSpec : ChangeSpec := { name := "fnExactChartOk", fn := fun _ => fun
  | [d] => { results := [.lit (.bool true)], args := [d] }
  | _ => none }
def fnExactChartOkRow : OpenClaim := { program := "ytlmohamgfindmac", sum := "630b3a59afbef41065f6a71090cceb3354c7f681c6c6803b5371543a90db2967", func := "loop.example/g00059/laws.FnExactChartOk", spec := "fnExactChartOk", unfollowed := true, recurses := true, apart := false }
def FnExactChartOkSaid : Prop := fnExactChartOkRow.holds Try.pinned (OpenSpec.ofChange fnExactChartOkSpec)

/-- ITS FALSE NEIGHBOUR: 'it returns false'. Refute it at one input. -/
def fnExactChartOkWrong : ChangeSpec := { name := "fnExactChartOk", fn := fun _ => fun
  | [d] => { results := [.lit (.bool false)], args := [d] }
  | _ => none }
def FnExactChartOkWrongFalsely : Prop := fnExactChartOkRow.holds Try.pinned (OpenSpec.ofChange fnExactChartOkWrong)

/-- 'laws.FnExactLashes': WHATEVER THE INPUT: true; the input reads as it did. -/
def fnExactLashesSpec : ChangeSpec := { name := "fnExactLashes", fn := fun _ => fun
  | [d1, d2] => { results := [.lit (.bool true)], args := [d1, d2] }
  | _ => none }
def fnExactLashesRow : OpenClaim := { program := "ytlmohamgfindmac", sum := "630b3a59afbef41065f6a71090cceb3354c7f681c6c6803b5371543a90db2967", func := "loop.example/g00059/laws.FnExactLashes", spec := "fnExactLashes", unfollowed := true, recurses := true, apart := false }
def FnExactLashesSaid : Prop := fnExactLashesRow.holds Try.pinned (OpenSpec.ofChange fnExactLashesSpec)

/-- ITS FALSE NEIGHBOUR: 'it returns false'. Refute it at one input. -/
def fnExactLashesWrong : ChangeSpec := { name := "fnExactLashes", fn := fun _ => fun
  | [d1, d2] => { results := [.lit (.bool false)], args := [d1, d2] }
  | _ => none }
def FnExactLashesWrongFalsely : Prop := fnExactLashesRow.holds Try.pinned (OpenSpec.ofChange fnExactLashesWrong)

/-- 'laws.FnExactKeepsApart': WHATEVER THE INPUT: true; the input reads as it did. -/
def fnExactKeepsApartSpec : ChangeSpec := { name := "fnExactKeepsApart", fn := fun _ => fun
  | [d1, d2, d3, d4] => { results := [.lit (.bool true)], args := [d1, d2, d3, d4] }
  | _ => none }
def fnExactKeepsApartRow : OpenClaim := { program := "ytlmohamgfindmac", sum := "630b3a59afbef41065f6a71090cceb3354c7f681c6c6803b5371543a90db2967", func := "loop.example/g00059/laws.FnExactKeepsApart", spec := "fnExactKeepsApart", apart := false }
def FnExactKeepsApartSaid : Prop := fnExactKeepsApartRow.holds Try.pinned (OpenSpec.ofChange fnExactKeepsApartSpec)

/-- ITS FALSE NEIGHBOUR: 'it returns false'. Refute it at one input. -/
def fnExactKeepsApartWrong : ChangeSpec := { name := "fnExactKeepsApart", fn := fun _ => fun
  | [d1, d2, d3, d4] => { results := [.lit (.bool false)], args := [d1, d2, d3, d4] }
  | _ => none }
def FnExactKeepsApartWrongFalsely : Prop := fnExactKeepsApartRow.holds Try.pinned (OpenSpec.ofChange fnExactKeepsApartWrong)

/-- 'laws.FnExactDepthAt': WHATEVER THE INPUT: true; the input reads as it did. -/
def fnExactDepthAtSpec : ChangeSpec := { name := "fnExactDepthAt", fn := fun _ => fun
  | [d1, d2, d3] => { results := [.lit (.bool true)], args := [d1, d2, d3] }
  | _ => none }
def fnExactDepthAtRow : OpenClaim := { program := "ytlmohamgfindmac", sum := "630b3a59afbef41065f6a71090cceb3354c7f681c6c6803b5371543a90db2967", func := "loop.example/g00059/laws.FnExactDepthAt", spec := "fnExactDepthAt", unfollowed := true, recurses := true, apart := false }
def FnExactDepthAtSaid : Prop := fnExactDepthAtRow.holds Try.pinned (OpenSpec.ofChange fnExactDepthAtSpec)

/-- ITS FALSE NEIGHBOUR: 'it returns false'. Refute it at one input. -/
def fnExactDepthAtWrong : ChangeSpec := { name := "fnExactDepthAt", fn := fun _ => fun
  | [d1, d2, d3] => { results := [.lit (.bool false)], args := [d1, d2, d3] }
  | _ => none }
def FnExactDepthAtWrongFalsely : Prop := fnExactDepthAtRow.holds Try.pinned (OpenSpec.ofChange fnExactDepthAtWrong)

/-- 'laws.FnExactBlocking': WHATEVER THE INPUT: true; the input reads as it did. -/
def fnExactBlockingSpec : ChangeSpec := { name := "fnExactBlocking", fn := fun _ => fun
  | [d1, d2] => { results := [.lit (.bool true)], args := [d1, d2] }
  | _ => none }
def fnExactBlockingRow : OpenClaim := { program := "ytlmohamgfindmac", sum := "630b3a59afbef41065f6a71090cceb3354c7f681c6c6803b5371543a90db2967", func := "loop.example/g00059/laws.FnExactBlocking", spec := "fnExactBlocking", unfollowed := true, recurses := true, apart := false }
def FnExactBlockingSaid : Prop := fnExactBlockingRow.holds Try.pinned (OpenSpec.ofChange fnExactBlockingSpec)

/-- ITS FALSE NEIGHBOUR: 'it returns false'. Refute it at one input. -/
def fnExactBlockingWrong : ChangeSpec := { name := "fnExactBlocking", fn := fun _ => fun
  | [d1, d2] => { results := [.lit (.bool false)], args := [d1, d2] }
  | _ => none }
def FnExactBlockingWrongFalsely : Prop := fnExactBlockingRow.holds Try.pinned (OpenSpec.ofChange fnExactBlockingWrong)

/-- 'laws.FnExactHouseOk': WHATEVER THE INPUT: true; the input reads as it did. -/
def fnExactHouseOkSpec : ChangeSpec := { name := "fnExactHouseOk", fn := fun _ => fun
  | [d] => { results := [.lit (.bool true)], args := [d] }
  | _ => none }
def fnExactHouseOkRow : OpenClaim := { program := "ytlmohamgfindmac", sum := "630b3a59afbef41065f6a71090cceb3354c7f681c6c6803b5371543a90db2967", func := "loop.example/g00059/laws.FnExactHouseOk", spec := "fnExactHouseOk", apart := false }
def FnExactHouseOkSaid : Prop := fnExactHouseOkRow.holds Try.pinned (OpenSpec.ofChange fnExactHouseOkSpec)

/-- ITS FALSE NEIGHBOUR: 'it returns false'. Refute it at one input. -/
def fnExactHouseOkWrong : ChangeSpec := { name := "fnExactHouseOk", fn := fun _ => fun
  | [d] => { results := [.lit (.bool false)], args := [d] }
  | _ => none }
def FnExactHouseOkWrongFalsely : Prop := fnExactHouseOkRow.holds Try.pinned (OpenSpec.ofChange fnExactHouseOkWrong)

/-- 'laws.FnExactWayCost': WHATEVER THE INPUT: true; the input reads as it did. -/
def fnExactWayCostSpec : ChangeSpec := { name := "fnExactWayCost", fn := fun _ => fun
  | [d1, d2] => { results := [.lit (.bool true)], args := [d1, d2] }
  | _ => none }
def fnExactWayCostRow : OpenClaim := { program := "ytlmohamgfindmac", sum := "630b3a59afbef41065f6a71090cceb3354c7f681c6c6803b5371543a90db2967", func := "loop.example/g00059/laws.FnExactWayCost", spec := "fnExactWayCost", unfollowed := true, recurses := true, apart := false }
def FnExactWayCostSaid : Prop := fnExactWayCostRow.holds Try.pinned (OpenSpec.ofChange fnExactWayCostSpec)

/-- ITS FALSE NEIGHBOUR: 'it returns false'. Refute it at one input. -/
def fnExactWayCostWrong : ChangeSpec := { name := "fnExactWayCost", fn := fun _ => fun
  | [d1, d2] => { results := [.lit (.bool false)], args := [d1, d2] }
  | _ => none }
def FnExactWayCostWrongFalsely : Prop := fnExactWayCostRow.holds Try.pinned (OpenSpec.ofChange fnExactWayCostWrong)

/-- 'laws.FnExactProves': WHATEVER THE INPUT: true; the input reads as it did. -/
def fnExactProvesSpec : ChangeSpec := { name := "fnExactProves", fn := fun _ => fun
  | [d1, d2, d3] => { results := [.lit (.bool true)], args := [d1, d2, d3] }
  | _ => none }
def fnExactProvesRow : OpenClaim := { program := "ytlmohamgfindmac", sum := "630b3a59afbef41065f6a71090cceb3354c7f681c6c6803b5371543a90db2967", func := "loop.example/g00059/laws.FnExactProves", spec := "fnExactProves", unfollowed := true, recurses := true, apart := false }
def FnExactProvesSaid : Prop := fnExactProvesRow.holds Try.pinned (OpenSpec.ofChange fnExactProvesSpec)

/-- ITS FALSE NEIGHBOUR: 'it returns false'. Refute it at one input. -/
def fnExactProvesWrong : ChangeSpec := { name := "fnExactProves", fn := fun _ => fun
  | [d1, d2, d3] => { results := [.lit (.bool false)], args := [d1, d2, d3] }
  | _ => none }
def FnExactProvesWrongFalsely : Prop := fnExactProvesRow.holds Try.pinned (OpenSpec.ofChange fnExactProvesWrong)

/-- 'laws.FnExactBookOk': WHATEVER THE INPUT: true; the input reads as it did. -/
def fnExactBookOkSpec : ChangeSpec := { name := "fnExactBookOk", fn := fun _ => fun
  | [d] => { results := [.lit (.bool true)], args := [d] }
  | _ => none }
def fnExactBookOkRow : OpenClaim := { program := "ytlmohamgfindmac", sum := "630b3a59afbef41065f6a71090cceb3354c7f681c6c6803b5371543a90db2967", func := "loop.example/g00059/laws.FnExactBookOk", spec := "fnExactBookOk", unfollowed := true, recurses := true, apart := false }
def FnExactBookOkSaid : Prop := fnExactBookOkRow.holds Try.pinned (OpenSpec.ofChange fnExactBookOkSpec)

/-- ITS FALSE NEIGHBOUR: 'it returns false'. Refute it at one input. -/
def fnExactBookOkWrong : ChangeSpec := { name := "fnExactBookOk", fn := fun _ => fun
  | [d] => { results := [.lit (.bool false)], args := [d] }
  | _ => none }
def FnExactBookOkWrongFalsely : Prop := fnExactBookOkRow.holds Try.pinned (OpenSpec.ofChange fnExactBookOkWrong)

/-- 'laws.FnExactQuickest': WHATEVER THE INPUT: true; the input reads as it did. -/
def fnExactQuickestSpec : ChangeSpec := { name := "fnExactQuickest", fn := fun _ => fun
  | [d1, d2, d3, d4] => { results := [.lit (.bool true)], args := [d1, d2, d3, d4] }
  | _ => none }
def fnExactQuickestRow : OpenClaim := { program := "ytlmohamgfindmac", sum := "630b3a59afbef41065f6a71090cceb3354c7f681c6c6803b5371543a90db2967", func := "loop.example/g00059/laws.FnExactQuickest", spec := "fnExactQuickest", unfollowed := true, recurses := true, apart := false }
def FnExactQuickestSaid : Prop := fnExactQuickestRow.holds Try.pinned (OpenSpec.ofChange fnExactQuickestSpec)

/-- ITS FALSE NEIGHBOUR: 'it returns false'. Refute it at one input. -/
def fnExactQuickestWrong : ChangeSpec := { name := "fnExactQuickest", fn := fun _ => fun
  | [d1, d2, d3, d4] => { results := [.lit (.bool false)], args := [d1, d2, d3, d4] }
  | _ => none }
def FnExactQuickestWrongFalsely : Prop := fnExactQuickestRow.holds Try.pinned (OpenSpec.ofChange fnExactQuickestWrong)

/-- 'laws.FnExactWayShut': WHATEVER THE INPUT: true; the input reads as it did. -/
def fnExactWayShutSpec : ChangeSpec := { name := "fnExactWayShut", fn := fun _ => fun
  | [d1, d2] => { results := [.lit (.bool true)], args := [d1, d2] }
  | _ => none }
def fnExactWayShutRow : OpenClaim := { program := "ytlmohamgfindmac", sum := "630b3a59afbef41065f6a71090cceb3354c7f681c6c6803b5371543a90db2967", func := "loop.example/g00059/laws.FnExactWayShut", spec := "fnExactWayShut", unfollowed := true, recurses := true, apart := false }
def FnExactWayShutSaid : Prop := fnExactWayShutRow.holds Try.pinned (OpenSpec.ofChange fnExactWayShutSpec)

/-- ITS FALSE NEIGHBOUR: 'it returns false'. Refute it at one input. -/
def fnExactWayShutWrong : ChangeSpec := { name := "fnExactWayShut", fn := fun _ => fun
  | [d1, d2] => { results := [.lit (.bool false)], args := [d1, d2] }
  | _ => none }
def FnExactWayShutWrongFalsely : Prop := fnExactWayShutRow.holds Try.pinned (OpenSpec.ofChange fnExactWayShutWrong)

/- THE SECOND FORM. 'bulk': how many values and letters a reading holds, each counted each time it is reached (what is shared counts as often as it is met; a slice's spare places count too). A statement '..UptoSaid' is the law's where the arguments, and the package variables that the reading takes, are together of bulk at most 1048576: NARROWER than '..Said'. Prove '..Said' where nothing that the law and all that it calls make is longer than what came in: it says more and counts as full. Else prove '..UptoSaid'. A law counts once. -/
mutual
def uptoBulk {H : Type} : DataW H → Nat
  | .lit (.string bytes) => bytes.length + 1
  | .lit _ => 1
  | .nil => 1
  | .ptr d => uptoBulk d + 1
  | .slice elems spare => uptoBulkAll elems + uptoBulkAll spare + 1
  | .agg parts => uptoBulkAll parts + 1
  | .iface _ d => uptoBulk d + 1
  | .map entries => uptoBulkEntries entries + 1
  | .held _ => 1
def uptoBulkAll {H : Type} : List (DataW H) → Nat
  | [] => 0
  | d :: r => uptoBulk d + uptoBulkAll r
def uptoBulkEntries {H : Type} : List (Lit × DataW H) → Nat
  | [] => 0
  | x :: r => uptoBulkEntry x + uptoBulkEntries r
def uptoBulkEntry {H : Type} : Lit × DataW H → Nat
  | (.string bytes, d) => bytes.length + uptoBulk d + 1
  | (_, d) => uptoBulk d + 1
 end
def uptoSmall : (H : Type) → List (DataW H) → Bool := fun _ ds => decide (uptoBulkAll ds ≤ 1048576)
def OpenSpec.upto (s : _root_.Go.ChangeSpec) : _root_.Go.OpenSpec := { _root_.Go.OpenSpec.ofChange s with cond := some uptoSmall }

/-- 'laws.FnExactHops', WHERE WHAT IT READS IS OF BULK AT MOST 1048576: true; the input reads as it did. -/
def fnExactHopsUptoRow : OpenClaim := { program := "ytlmohamgfindmac", sum := "630b3a59afbef41065f6a71090cceb3354c7f681c6c6803b5371543a90db2967", func := "loop.example/g00059/laws.FnExactHops", spec := "fnExactHops", unfollowed := true, recurses := true, apart := false, narrowed := true }
def FnExactHopsUptoSaid : Prop := fnExactHopsUptoRow.holds Try.pinned (OpenSpec.upto fnExactHopsSpec)

/-- 'laws.FnExactStackOk', WHERE WHAT IT READS IS OF BULK AT MOST 1048576: true; the input reads as it did. -/
def fnExactStackOkUptoRow : OpenClaim := { program := "ytlmohamgfindmac", sum := "630b3a59afbef41065f6a71090cceb3354c7f681c6c6803b5371543a90db2967", func := "loop.example/g00059/laws.FnExactStackOk", spec := "fnExactStackOk", apart := false, narrowed := true }
def FnExactStackOkUptoSaid : Prop := fnExactStackOkUptoRow.holds Try.pinned (OpenSpec.upto fnExactStackOkSpec)

/-- 'laws.FnExactChartOk', WHERE WHAT IT READS IS OF BULK AT MOST 1048576: true; the input reads as it did. -/
def fnExactChartOkUptoRow : OpenClaim := { program := "ytlmohamgfindmac", sum := "630b3a59afbef41065f6a71090cceb3354c7f681c6c6803b5371543a90db2967", func := "loop.example/g00059/laws.FnExactChartOk", spec := "fnExactChartOk", unfollowed := true, recurses := true, apart := false, narrowed := true }
def FnExactChartOkUptoSaid : Prop := fnExactChartOkUptoRow.holds Try.pinned (OpenSpec.upto fnExactChartOkSpec)

/-- 'laws.FnExactLashes', WHERE WHAT IT READS IS OF BULK AT MOST 1048576: true; the input reads as it did. -/
def fnExactLashesUptoRow : OpenClaim := { program := "ytlmohamgfindmac", sum := "630b3a59afbef41065f6a71090cceb3354c7f681c6c6803b5371543a90db2967", func := "loop.example/g00059/laws.FnExactLashes", spec := "fnExactLashes", unfollowed := true, recurses := true, apart := false, narrowed := true }
def FnExactLashesUptoSaid : Prop := fnExactLashesUptoRow.holds Try.pinned (OpenSpec.upto fnExactLashesSpec)

/-- 'laws.FnExactKeepsApart', WHERE WHAT IT READS IS OF BULK AT MOST 1048576: true; the input reads as it did. -/
def fnExactKeepsApartUptoRow : OpenClaim := { program := "ytlmohamgfindmac", sum := "630b3a59afbef41065f6a71090cceb3354c7f681c6c6803b5371543a90db2967", func := "loop.example/g00059/laws.FnExactKeepsApart", spec := "fnExactKeepsApart", apart := false, narrowed := true }
def FnExactKeepsApartUptoSaid : Prop := fnExactKeepsApartUptoRow.holds Try.pinned (OpenSpec.upto fnExactKeepsApartSpec)

/-- 'laws.FnExactDepthAt', WHERE WHAT IT READS IS OF BULK AT MOST 1048576: true; the input reads as it did. -/
def fnExactDepthAtUptoRow : OpenClaim := { program := "ytlmohamgfindmac", sum := "630b3a59afbef41065f6a71090cceb3354c7f681c6c6803b5371543a90db2967", func := "loop.example/g00059/laws.FnExactDepthAt", spec := "fnExactDepthAt", unfollowed := true, recurses := true, apart := false, narrowed := true }
def FnExactDepthAtUptoSaid : Prop := fnExactDepthAtUptoRow.holds Try.pinned (OpenSpec.upto fnExactDepthAtSpec)

/-- 'laws.FnExactBlocking', WHERE WHAT IT READS IS OF BULK AT MOST 1048576: true; the input reads as it did. -/
def fnExactBlockingUptoRow : OpenClaim := { program := "ytlmohamgfindmac", sum := "630b3a59afbef41065f6a71090cceb3354c7f681c6c6803b5371543a90db2967", func := "loop.example/g00059/laws.FnExactBlocking", spec := "fnExactBlocking", unfollowed := true, recurses := true, apart := false, narrowed := true }
def FnExactBlockingUptoSaid : Prop := fnExactBlockingUptoRow.holds Try.pinned (OpenSpec.upto fnExactBlockingSpec)

/-- 'laws.FnExactHouseOk', WHERE WHAT IT READS IS OF BULK AT MOST 1048576: true; the input reads as it did. -/
def fnExactHouseOkUptoRow : OpenClaim := { program := "ytlmohamgfindmac", sum := "630b3a59afbef41065f6a71090cceb3354c7f681c6c6803b5371543a90db2967", func := "loop.example/g00059/laws.FnExactHouseOk", spec := "fnExactHouseOk", apart := false, narrowed := true }
def FnExactHouseOkUptoSaid : Prop := fnExactHouseOkUptoRow.holds Try.pinned (OpenSpec.upto fnExactHouseOkSpec)

/-- 'laws.FnExactWayCost', WHERE WHAT IT READS IS OF BULK AT MOST 1048576: true; the input reads as it did. -/
def fnExactWayCostUptoRow : OpenClaim := { program := "ytlmohamgfindmac", sum := "630b3a59afbef41065f6a71090cceb3354c7f681c6c6803b5371543a90db2967", func := "loop.example/g00059/laws.FnExactWayCost", spec := "fnExactWayCost", unfollowed := true, recurses := true, apart := false, narrowed := true }
def FnExactWayCostUptoSaid : Prop := fnExactWayCostUptoRow.holds Try.pinned (OpenSpec.upto fnExactWayCostSpec)

/-- 'laws.FnExactProves', WHERE WHAT IT READS IS OF BULK AT MOST 1048576: true; the input reads as it did. -/
def fnExactProvesUptoRow : OpenClaim := { program := "ytlmohamgfindmac", sum := "630b3a59afbef41065f6a71090cceb3354c7f681c6c6803b5371543a90db2967", func := "loop.example/g00059/laws.FnExactProves", spec := "fnExactProves", unfollowed := true, recurses := true, apart := false, narrowed := true }
def FnExactProvesUptoSaid : Prop := fnExactProvesUptoRow.holds Try.pinned (OpenSpec.upto fnExactProvesSpec)

/-- 'laws.FnExactBookOk', WHERE WHAT IT READS IS OF BULK AT MOST 1048576: true; the input reads as it did. -/
def fnExactBookOkUptoRow : OpenClaim := { program := "ytlmohamgfindmac", sum := "630b3a59afbef41065f6a71090cceb3354c7f681c6c6803b5371543a90db2967", func := "loop.example/g00059/laws.FnExactBookOk", spec := "fnExactBookOk", unfollowed := true, recurses := true, apart := false, narrowed := true }
def FnExactBookOkUptoSaid : Prop := fnExactBookOkUptoRow.holds Try.pinned (OpenSpec.upto fnExactBookOkSpec)

/-- 'laws.FnExactQuickest', WHERE WHAT IT READS IS OF BULK AT MOST 1048576: true; the input reads as it did. -/
def fnExactQuickestUptoRow : OpenClaim := { program := "ytlmohamgfindmac", sum := "630b3a59afbef41065f6a71090cceb3354c7f681c6c6803b5371543a90db2967", func := "loop.example/g00059/laws.FnExactQuickest", spec := "fnExactQuickest", unfollowed := true, recurses := true, apart := false, narrowed := true }
def FnExactQuickestUptoSaid : Prop := fnExactQuickestUptoRow.holds Try.pinned (OpenSpec.upto fnExactQuickestSpec)

/-- 'laws.FnExactWayShut', WHERE WHAT IT READS IS OF BULK AT MOST 1048576: true; the input reads as it did. -/
def fnExactWayShutUptoRow : OpenClaim := { program := "ytlmohamgfindmac", sum := "630b3a59afbef41065f6a71090cceb3354c7f681c6c6803b5371543a90db2967", func := "loop.example/g00059/laws.FnExactWayShut", spec := "fnExactWayShut", unfollowed := true, recurses := true, apart := false, narrowed := true }
def FnExactWayShutUptoSaid : Prop := fnExactWayShutUptoRow.holds Try.pinned (OpenSpec.upto fnExactWayShutSpec)

end Rows
end Go.Proofs.Ytlmohamgfindmac
