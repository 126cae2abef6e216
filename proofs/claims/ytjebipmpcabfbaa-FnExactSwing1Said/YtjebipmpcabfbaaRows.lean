/-
  No cell of these rows narrows 'for every input' (looked for: loops, veiled, ifaces, maps, wideKeys, modest, calm, conditions, laid).
  DERIVED. THE GIVEN ROWS OF THIS SEAT. 12 by the template 'for every input the law returns true; each argument reads behind the call as it read before'; 0 by the template 'total and deterministic' (their statements: YtjebipmpcabfbaaTotals.lean).
  GIVEN WITH THE SEED: the statements are not yours to turn. If you find one false, say at which input.
  Laid BY PROGRAM, IN A SANDBOX (cutbox-rows.mjs): the forced cells as the released guide's own fill.sh prints them over the translation 82416b8c060c729a… (all of the seat's roots in one cut). By AI agents, Wed Nov 11 2026. No macro, syntax, notation, axiom, sorry.
-/
import Derived.Test.YtjebipmpcabfbaaChecked
import GoSem.Claim
import GoSem.ClaimJoined
import GoSem.ClaimMapViews
import Derived.JoinedTies
import Derived.KernelRfl
namespace Go.Proofs.Ytjebipmpcabfbaa
/- THE CELL 'sum', in the pinned program and in every row, IS THE sha256 OF THE DUMP (.gsa) THAT YtjebipmpcabfbaaProg.lean LOADS. Nothing in Lean hashes anything: it is a label: what it is worth is what the hold of that sum in a sandbox is worth. -/
noncomputable def Try.pinned : Pinned := { name := "ytjebipmpcabfbaa", sum := "82416b8c060c729aa71d86f8b1503b5d76a30fab562252bc42bcb3aa77344e89", checked := Try.checked }
namespace Rows
def none {H : Type} : Left H := { results := [], args := [] }

/-- 'laws.FnExactSwayOk': WHATEVER THE INPUT: true; the input reads as it did. -/
def fnExactSwayOkSpec : ChangeSpec := { name := "fnExactSwayOk", fn := fun _ => fun
  | [d] => { results := [.lit (.bool true)], args := [d] }
  | _ => none }
def fnExactSwayOkRow : OpenClaim := { program := "ytjebipmpcabfbaa", sum := "82416b8c060c729aa71d86f8b1503b5d76a30fab562252bc42bcb3aa77344e89", func := "loop.example/g00059/laws.FnExactSwayOk", spec := "fnExactSwayOk", apart := false }
def FnExactSwayOkSaid : Prop := fnExactSwayOkRow.holds Try.pinned (OpenSpec.ofChange fnExactSwayOkSpec)

/-- ITS FALSE NEIGHBOUR: 'it returns false'. Refute it at one input. -/
def fnExactSwayOkWrong : ChangeSpec := { name := "fnExactSwayOk", fn := fun _ => fun
  | [d] => { results := [.lit (.bool false)], args := [d] }
  | _ => none }
def FnExactSwayOkWrongFalsely : Prop := fnExactSwayOkRow.holds Try.pinned (OpenSpec.ofChange fnExactSwayOkWrong)

/-- 'laws.FnExactCharterOk': WHATEVER THE INPUT: true; the input reads as it did. -/
def fnExactCharterOkSpec : ChangeSpec := { name := "fnExactCharterOk", fn := fun _ => fun
  | [d] => { results := [.lit (.bool true)], args := [d] }
  | _ => none }
def fnExactCharterOkRow : OpenClaim := { program := "ytjebipmpcabfbaa", sum := "82416b8c060c729aa71d86f8b1503b5d76a30fab562252bc42bcb3aa77344e89", func := "loop.example/g00059/laws.FnExactCharterOk", spec := "fnExactCharterOk", apart := false }
def FnExactCharterOkSaid : Prop := fnExactCharterOkRow.holds Try.pinned (OpenSpec.ofChange fnExactCharterOkSpec)

/-- ITS FALSE NEIGHBOUR: 'it returns false'. Refute it at one input. -/
def fnExactCharterOkWrong : ChangeSpec := { name := "fnExactCharterOk", fn := fun _ => fun
  | [d] => { results := [.lit (.bool false)], args := [d] }
  | _ => none }
def FnExactCharterOkWrongFalsely : Prop := fnExactCharterOkRow.holds Try.pinned (OpenSpec.ofChange fnExactCharterOkWrong)

/-- 'laws.FnExactDuty6': WHATEVER THE INPUT: true; the input reads as it did. -/
def fnExactDuty6Spec : ChangeSpec := { name := "fnExactDuty6", fn := fun _ => fun
  | [d1, d2, d3] => { results := [.lit (.bool true)], args := [d1, d2, d3] }
  | _ => none }
def fnExactDuty6Row : OpenClaim := { program := "ytjebipmpcabfbaa", sum := "82416b8c060c729aa71d86f8b1503b5d76a30fab562252bc42bcb3aa77344e89", func := "loop.example/g00059/laws.FnExactDuty6", spec := "fnExactDuty6", apart := false }
def FnExactDuty6Said : Prop := fnExactDuty6Row.holds Try.pinned (OpenSpec.ofChange fnExactDuty6Spec)

/-- ITS FALSE NEIGHBOUR: 'it returns false'. Refute it at one input. -/
def fnExactDuty6Wrong : ChangeSpec := { name := "fnExactDuty6", fn := fun _ => fun
  | [d1, d2, d3] => { results := [.lit (.bool false)], args := [d1, d2, d3] }
  | _ => none }
def FnExactDuty6WrongFalsely : Prop := fnExactDuty6Row.holds Try.pinned (OpenSpec.ofChange fnExactDuty6Wrong)

/-- 'laws.FnExactHoistOk': WHATEVER THE INPUT: true; the input reads as it did. -/
def fnExactHoistOkSpec : ChangeSpec := { name := "fnExactHoistOk", fn := fun _ => fun
  | [d] => { results := [.lit (.bool true)], args := [d] }
  | _ => none }
def fnExactHoistOkRow : OpenClaim := { program := "ytjebipmpcabfbaa", sum := "82416b8c060c729aa71d86f8b1503b5d76a30fab562252bc42bcb3aa77344e89", func := "loop.example/g00059/laws.FnExactHoistOk", spec := "fnExactHoistOk", apart := false }
def FnExactHoistOkSaid : Prop := fnExactHoistOkRow.holds Try.pinned (OpenSpec.ofChange fnExactHoistOkSpec)

/-- ITS FALSE NEIGHBOUR: 'it returns false'. Refute it at one input. -/
def fnExactHoistOkWrong : ChangeSpec := { name := "fnExactHoistOk", fn := fun _ => fun
  | [d] => { results := [.lit (.bool false)], args := [d] }
  | _ => none }
def FnExactHoistOkWrongFalsely : Prop := fnExactHoistOkRow.holds Try.pinned (OpenSpec.ofChange fnExactHoistOkWrong)

/-- 'laws.FnExactDraftSurvey': WHATEVER THE INPUT: true; the input reads as it did. -/
def fnExactDraftSurveySpec : ChangeSpec := { name := "fnExactDraftSurvey", fn := fun _ => fun
  | [d1, d2, d3, d4] => { results := [.lit (.bool true)], args := [d1, d2, d3, d4] }
  | _ => none }
def fnExactDraftSurveyRow : OpenClaim := { program := "ytjebipmpcabfbaa", sum := "82416b8c060c729aa71d86f8b1503b5d76a30fab562252bc42bcb3aa77344e89", func := "loop.example/g00059/laws.FnExactDraftSurvey", spec := "fnExactDraftSurvey", unfollowed := true, recurses := true, apart := false }
def FnExactDraftSurveySaid : Prop := fnExactDraftSurveyRow.holds Try.pinned (OpenSpec.ofChange fnExactDraftSurveySpec)

/-- ITS FALSE NEIGHBOUR: 'it returns false'. Refute it at one input. -/
def fnExactDraftSurveyWrong : ChangeSpec := { name := "fnExactDraftSurvey", fn := fun _ => fun
  | [d1, d2, d3, d4] => { results := [.lit (.bool false)], args := [d1, d2, d3, d4] }
  | _ => none }
def FnExactDraftSurveyWrongFalsely : Prop := fnExactDraftSurveyRow.holds Try.pinned (OpenSpec.ofChange fnExactDraftSurveyWrong)

/-- 'laws.FnExactOwed': WHATEVER THE INPUT: true; the input reads as it did. -/
def fnExactOwedSpec : ChangeSpec := { name := "fnExactOwed", fn := fun _ => fun
  | [d1, d2] => { results := [.lit (.bool true)], args := [d1, d2] }
  | _ => none }
def fnExactOwedRow : OpenClaim := { program := "ytjebipmpcabfbaa", sum := "82416b8c060c729aa71d86f8b1503b5d76a30fab562252bc42bcb3aa77344e89", func := "loop.example/g00059/laws.FnExactOwed", spec := "fnExactOwed", apart := false }
def FnExactOwedSaid : Prop := fnExactOwedRow.holds Try.pinned (OpenSpec.ofChange fnExactOwedSpec)

/-- ITS FALSE NEIGHBOUR: 'it returns false'. Refute it at one input. -/
def fnExactOwedWrong : ChangeSpec := { name := "fnExactOwed", fn := fun _ => fun
  | [d1, d2] => { results := [.lit (.bool false)], args := [d1, d2] }
  | _ => none }
def FnExactOwedWrongFalsely : Prop := fnExactOwedRow.holds Try.pinned (OpenSpec.ofChange fnExactOwedWrong)

/-- 'laws.FnExactAverage': WHATEVER THE INPUT: true; the input reads as it did. -/
def fnExactAverageSpec : ChangeSpec := { name := "fnExactAverage", fn := fun _ => fun
  | [d1, d2] => { results := [.lit (.bool true)], args := [d1, d2] }
  | _ => none }
def fnExactAverageRow : OpenClaim := { program := "ytjebipmpcabfbaa", sum := "82416b8c060c729aa71d86f8b1503b5d76a30fab562252bc42bcb3aa77344e89", func := "loop.example/g00059/laws.FnExactAverage", spec := "fnExactAverage", unfollowed := true, recurses := true, apart := false }
def FnExactAverageSaid : Prop := fnExactAverageRow.holds Try.pinned (OpenSpec.ofChange fnExactAverageSpec)

/-- ITS FALSE NEIGHBOUR: 'it returns false'. Refute it at one input. -/
def fnExactAverageWrong : ChangeSpec := { name := "fnExactAverage", fn := fun _ => fun
  | [d1, d2] => { results := [.lit (.bool false)], args := [d1, d2] }
  | _ => none }
def FnExactAverageWrongFalsely : Prop := fnExactAverageRow.holds Try.pinned (OpenSpec.ofChange fnExactAverageWrong)

/-- 'laws.FnExactApart': WHATEVER THE INPUT: true; the input reads as it did. -/
def fnExactApartSpec : ChangeSpec := { name := "fnExactApart", fn := fun _ => fun
  | [d1, d2] => { results := [.lit (.bool true)], args := [d1, d2] }
  | _ => none }
def fnExactApartRow : OpenClaim := { program := "ytjebipmpcabfbaa", sum := "82416b8c060c729aa71d86f8b1503b5d76a30fab562252bc42bcb3aa77344e89", func := "loop.example/g00059/laws.FnExactApart", spec := "fnExactApart", apart := false }
def FnExactApartSaid : Prop := fnExactApartRow.holds Try.pinned (OpenSpec.ofChange fnExactApartSpec)

/-- ITS FALSE NEIGHBOUR: 'it returns false'. Refute it at one input. -/
def fnExactApartWrong : ChangeSpec := { name := "fnExactApart", fn := fun _ => fun
  | [d1, d2] => { results := [.lit (.bool false)], args := [d1, d2] }
  | _ => none }
def FnExactApartWrongFalsely : Prop := fnExactApartRow.holds Try.pinned (OpenSpec.ofChange fnExactApartWrong)

/-- 'laws.FnExactSwing1': WHATEVER THE INPUT: true; the input reads as it did. -/
def fnExactSwing1Spec : ChangeSpec := { name := "fnExactSwing1", fn := fun _ => fun
  | [d1, d2] => { results := [.lit (.bool true)], args := [d1, d2] }
  | _ => none }
def fnExactSwing1Row : OpenClaim := { program := "ytjebipmpcabfbaa", sum := "82416b8c060c729aa71d86f8b1503b5d76a30fab562252bc42bcb3aa77344e89", func := "loop.example/g00059/laws.FnExactSwing1", spec := "fnExactSwing1", apart := false }
def FnExactSwing1Said : Prop := fnExactSwing1Row.holds Try.pinned (OpenSpec.ofChange fnExactSwing1Spec)

/-- ITS FALSE NEIGHBOUR: 'it returns false'. Refute it at one input. -/
def fnExactSwing1Wrong : ChangeSpec := { name := "fnExactSwing1", fn := fun _ => fun
  | [d1, d2] => { results := [.lit (.bool false)], args := [d1, d2] }
  | _ => none }
def FnExactSwing1WrongFalsely : Prop := fnExactSwing1Row.holds Try.pinned (OpenSpec.ofChange fnExactSwing1Wrong)

/-- 'laws.FnExactCheckDigit': WHATEVER THE INPUT: true; the input reads as it did. -/
def fnExactCheckDigitSpec : ChangeSpec := { name := "fnExactCheckDigit", fn := fun _ => fun
  | [d] => { results := [.lit (.bool true)], args := [d] }
  | _ => none }
def fnExactCheckDigitRow : OpenClaim := { program := "ytjebipmpcabfbaa", sum := "82416b8c060c729aa71d86f8b1503b5d76a30fab562252bc42bcb3aa77344e89", func := "loop.example/g00059/laws.FnExactCheckDigit", spec := "fnExactCheckDigit", apart := false }
def FnExactCheckDigitSaid : Prop := fnExactCheckDigitRow.holds Try.pinned (OpenSpec.ofChange fnExactCheckDigitSpec)

/-- ITS FALSE NEIGHBOUR: 'it returns false'. Refute it at one input. -/
def fnExactCheckDigitWrong : ChangeSpec := { name := "fnExactCheckDigit", fn := fun _ => fun
  | [d] => { results := [.lit (.bool false)], args := [d] }
  | _ => none }
def FnExactCheckDigitWrongFalsely : Prop := fnExactCheckDigitRow.holds Try.pinned (OpenSpec.ofChange fnExactCheckDigitWrong)

/-- 'laws.FnExactBurn': WHATEVER THE INPUT: true; the input reads as it did. -/
def fnExactBurnSpec : ChangeSpec := { name := "fnExactBurn", fn := fun _ => fun
  | [d1, d2, d3] => { results := [.lit (.bool true)], args := [d1, d2, d3] }
  | _ => none }
def fnExactBurnRow : OpenClaim := { program := "ytjebipmpcabfbaa", sum := "82416b8c060c729aa71d86f8b1503b5d76a30fab562252bc42bcb3aa77344e89", func := "loop.example/g00059/laws.FnExactBurn", spec := "fnExactBurn", unfollowed := true, recurses := true, apart := false }
def FnExactBurnSaid : Prop := fnExactBurnRow.holds Try.pinned (OpenSpec.ofChange fnExactBurnSpec)

/-- ITS FALSE NEIGHBOUR: 'it returns false'. Refute it at one input. -/
def fnExactBurnWrong : ChangeSpec := { name := "fnExactBurn", fn := fun _ => fun
  | [d1, d2, d3] => { results := [.lit (.bool false)], args := [d1, d2, d3] }
  | _ => none }
def FnExactBurnWrongFalsely : Prop := fnExactBurnRow.holds Try.pinned (OpenSpec.ofChange fnExactBurnWrong)

/-- 'laws.FnExactSpellsOk': WHATEVER THE INPUT: true; the input reads as it did. -/
def fnExactSpellsOkSpec : ChangeSpec := { name := "fnExactSpellsOk", fn := fun _ => fun
  | [d] => { results := [.lit (.bool true)], args := [d] }
  | _ => none }
def fnExactSpellsOkRow : OpenClaim := { program := "ytjebipmpcabfbaa", sum := "82416b8c060c729aa71d86f8b1503b5d76a30fab562252bc42bcb3aa77344e89", func := "loop.example/g00059/laws.FnExactSpellsOk", spec := "fnExactSpellsOk", apart := false }
def FnExactSpellsOkSaid : Prop := fnExactSpellsOkRow.holds Try.pinned (OpenSpec.ofChange fnExactSpellsOkSpec)

/-- ITS FALSE NEIGHBOUR: 'it returns false'. Refute it at one input. -/
def fnExactSpellsOkWrong : ChangeSpec := { name := "fnExactSpellsOk", fn := fun _ => fun
  | [d] => { results := [.lit (.bool false)], args := [d] }
  | _ => none }
def FnExactSpellsOkWrongFalsely : Prop := fnExactSpellsOkRow.holds Try.pinned (OpenSpec.ofChange fnExactSpellsOkWrong)

/- THE SECOND FORM. 'bulk': how many values and letters a reading holds, each counted each time it is reached (what is shared counts as often as it is met; a slice's spare places count too). A statement '..UptoSaid' is the law's where the arguments, and the package variables that the reading takes, are together of bulk at most 1048576: NARROWER than '..Said'. Prove '..Said' where nothing that the law and all that it calls make is longer than what came in: it says more and counts as full. Else prove '..UptoSaid'. A law counts once. -/
mutual
def uptoBulk {H : Type} : DataW H → Nat
  | .lit (.string bytes) => bytes.length + 1
  | .lit _ => 1
  | .nil => 1
  | .ptr d => uptoBulk d + 1
  | .slice elems spare => uptoBulkAll elems + uptoBulkAll spare + 1
  | .agg parts => uptoBulkAll parts + 1
  | .iface _ d => uptoBulk d + 1
  | .map entries => uptoBulkEntries entries + 1
  | .held _ => 1
def uptoBulkAll {H : Type} : List (DataW H) → Nat
  | [] => 0
  | d :: r => uptoBulk d + uptoBulkAll r
def uptoBulkEntries {H : Type} : List (Lit × DataW H) → Nat
  | [] => 0
  | x :: r => uptoBulkEntry x + uptoBulkEntries r
def uptoBulkEntry {H : Type} : Lit × DataW H → Nat
  | (.string bytes, d) => bytes.length + uptoBulk d + 1
  | (_, d) => uptoBulk d + 1
 end
def uptoSmall : (H : Type) → List (DataW H) → Bool := fun _ ds => decide (uptoBulkAll ds ≤ 1048576)
def OpenSpec.upto (s : _root_.Go.ChangeSpec) : _root_.Go.OpenSpec := { _root_.Go.OpenSpec.ofChange s with cond := some uptoSmall }

/-- 'laws.FnExactSwayOk', WHERE WHAT IT READS IS OF BULK AT MOST 1048576: true; the input reads as it did. -/
def fnExactSwayOkUptoRow : OpenClaim := { program := "ytjebipmpcabfbaa", sum := "82416b8c060c729aa71d86f8b1503b5d76a30fab562252bc42bcb3aa77344e89", func := "loop.example/g00059/laws.FnExactSwayOk", spec := "fnExactSwayOk", apart := false, narrowed := true }
def FnExactSwayOkUptoSaid : Prop := fnExactSwayOkUptoRow.holds Try.pinned (OpenSpec.upto fnExactSwayOkSpec)

/-- 'laws.FnExactCharterOk', WHERE WHAT IT READS IS OF BULK AT MOST 1048576: true; the input reads as it did. -/
def fnExactCharterOkUptoRow : OpenClaim := { program := "ytjebipmpcabfbaa", sum := "82416b8c060c729aa71d86f8b1503b5d76a30fab562252bc42bcb3aa77344e89", func := "loop.example/g00059/laws.FnExactCharterOk", spec := "fnExactCharterOk", apart := false, narrowed := true }
def FnExactCharterOkUptoSaid : Prop := fnExactCharterOkUptoRow.holds Try.pinned (OpenSpec.upto fnExactCharterOkSpec)

/-- 'laws.FnExactDuty6', WHERE WHAT IT READS IS OF BULK AT MOST 1048576: true; the input reads as it did. -/
def fnExactDuty6UptoRow : OpenClaim := { program := "ytjebipmpcabfbaa", sum := "82416b8c060c729aa71d86f8b1503b5d76a30fab562252bc42bcb3aa77344e89", func := "loop.example/g00059/laws.FnExactDuty6", spec := "fnExactDuty6", apart := false, narrowed := true }
def FnExactDuty6UptoSaid : Prop := fnExactDuty6UptoRow.holds Try.pinned (OpenSpec.upto fnExactDuty6Spec)

/-- 'laws.FnExactHoistOk', WHERE WHAT IT READS IS OF BULK AT MOST 1048576: true; the input reads as it did. -/
def fnExactHoistOkUptoRow : OpenClaim := { program := "ytjebipmpcabfbaa", sum := "82416b8c060c729aa71d86f8b1503b5d76a30fab562252bc42bcb3aa77344e89", func := "loop.example/g00059/laws.FnExactHoistOk", spec := "fnExactHoistOk", apart := false, narrowed := true }
def FnExactHoistOkUptoSaid : Prop := fnExactHoistOkUptoRow.holds Try.pinned (OpenSpec.upto fnExactHoistOkSpec)

/-- 'laws.FnExactDraftSurvey', WHERE WHAT IT READS IS OF BULK AT MOST 1048576: true; the input reads as it did. -/
def fnExactDraftSurveyUptoRow : OpenClaim := { program := "ytjebipmpcabfbaa", sum := "82416b8c060c729aa71d86f8b1503b5d76a30fab562252bc42bcb3aa77344e89", func := "loop.example/g00059/laws.FnExactDraftSurvey", spec := "fnExactDraftSurvey", unfollowed := true, recurses := true, apart := false, narrowed := true }
def FnExactDraftSurveyUptoSaid : Prop := fnExactDraftSurveyUptoRow.holds Try.pinned (OpenSpec.upto fnExactDraftSurveySpec)

/-- 'laws.FnExactOwed', WHERE WHAT IT READS IS OF BULK AT MOST 1048576: true; the input reads as it did. -/
def fnExactOwedUptoRow : OpenClaim := { program := "ytjebipmpcabfbaa", sum := "82416b8c060c729aa71d86f8b1503b5d76a30fab562252bc42bcb3aa77344e89", func := "loop.example/g00059/laws.FnExactOwed", spec := "fnExactOwed", apart := false, narrowed := true }
def FnExactOwedUptoSaid : Prop := fnExactOwedUptoRow.holds Try.pinned (OpenSpec.upto fnExactOwedSpec)

/-- 'laws.FnExactAverage', WHERE WHAT IT READS IS OF BULK AT MOST 1048576: true; the input reads as it did. -/
def fnExactAverageUptoRow : OpenClaim := { program := "ytjebipmpcabfbaa", sum := "82416b8c060c729aa71d86f8b1503b5d76a30fab562252bc42bcb3aa77344e89", func := "loop.example/g00059/laws.FnExactAverage", spec := "fnExactAverage", unfollowed := true, recurses := true, apart := false, narrowed := true }
def FnExactAverageUptoSaid : Prop := fnExactAverageUptoRow.holds Try.pinned (OpenSpec.upto fnExactAverageSpec)

/-- 'laws.FnExactApart', WHERE WHAT IT READS IS OF BULK AT MOST 1048576: true; the input reads as it did. -/
def fnExactApartUptoRow : OpenClaim := { program := "ytjebipmpcabfbaa", sum := "82416b8c060c729aa71d86f8b1503b5d76a30fab562252bc42bcb3aa77344e89", func := "loop.example/g00059/laws.FnExactApart", spec := "fnExactApart", apart := false, narrowed := true }
def FnExactApartUptoSaid : Prop := fnExactApartUptoRow.holds Try.pinned (OpenSpec.upto fnExactApartSpec)

/-- 'laws.FnExactSwing1', WHERE WHAT IT READS IS OF BULK AT MOST 1048576: true; the input reads as it did. -/
def fnExactSwing1UptoRow : OpenClaim := { program := "ytjebipmpcabfbaa", sum := "82416b8c060c729aa71d86f8b1503b5d76a30fab562252bc42bcb3aa77344e89", func := "loop.example/g00059/laws.FnExactSwing1", spec := "fnExactSwing1", apart := false, narrowed := true }
def FnExactSwing1UptoSaid : Prop := fnExactSwing1UptoRow.holds Try.pinned (OpenSpec.upto fnExactSwing1Spec)

/-- 'laws.FnExactCheckDigit', WHERE WHAT IT READS IS OF BULK AT MOST 1048576: true; the input reads as it did. -/
def fnExactCheckDigitUptoRow : OpenClaim := { program := "ytjebipmpcabfbaa", sum := "82416b8c060c729aa71d86f8b1503b5d76a30fab562252bc42bcb3aa77344e89", func := "loop.example/g00059/laws.FnExactCheckDigit", spec := "fnExactCheckDigit", apart := false, narrowed := true }
def FnExactCheckDigitUptoSaid : Prop := fnExactCheckDigitUptoRow.holds Try.pinned (OpenSpec.upto fnExactCheckDigitSpec)

/-- 'laws.FnExactBurn', WHERE WHAT IT READS IS OF BULK AT MOST 1048576: true; the input reads as it did. -/
def fnExactBurnUptoRow : OpenClaim := { program := "ytjebipmpcabfbaa", sum := "82416b8c060c729aa71d86f8b1503b5d76a30fab562252bc42bcb3aa77344e89", func := "loop.example/g00059/laws.FnExactBurn", spec := "fnExactBurn", unfollowed := true, recurses := true, apart := false, narrowed := true }
def FnExactBurnUptoSaid : Prop := fnExactBurnUptoRow.holds Try.pinned (OpenSpec.upto fnExactBurnSpec)

/-- 'laws.FnExactSpellsOk', WHERE WHAT IT READS IS OF BULK AT MOST 1048576: true; the input reads as it did. -/
def fnExactSpellsOkUptoRow : OpenClaim := { program := "ytjebipmpcabfbaa", sum := "82416b8c060c729aa71d86f8b1503b5d76a30fab562252bc42bcb3aa77344e89", func := "loop.example/g00059/laws.FnExactSpellsOk", spec := "fnExactSpellsOk", apart := false, narrowed := true }
def FnExactSpellsOkUptoSaid : Prop := fnExactSpellsOkUptoRow.holds Try.pinned (OpenSpec.upto fnExactSpellsOkSpec)

end Rows
end Go.Proofs.Ytjebipmpcabfbaa
