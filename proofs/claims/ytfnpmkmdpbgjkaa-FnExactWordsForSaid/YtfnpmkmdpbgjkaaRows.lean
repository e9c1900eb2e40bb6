/-
  No cell of these rows narrows 'for every input' (looked for: loops, veiled, ifaces, maps, wideKeys, modest, calm, conditions, laid).
  DERIVED. THE GIVEN ROWS OF THIS SEAT. 12 by the template 'for every input the law returns true; each argument reads behind the call as it read before'; 0 by the template 'total and deterministic' (their statements: YtfnpmkmdpbgjkaaTotals.lean).
  GIVEN WITH THE SEED: the statements are not yours to turn. If you find one false, say at which input.
  Laid BY PROGRAM, IN A SANDBOX (cutbox-rows.mjs): the forced cells as the released guide's own fill.sh prints them over the translation a959f65991d618d1… (all of the seat's roots in one cut). By AI agents, Wed Nov 11 2026. No macro, syntax, notation, axiom, sorry.
-/
import Derived.Test.YtfnpmkmdpbgjkaaChecked
import GoSem.Claim
import GoSem.ClaimJoined
import GoSem.ClaimMapViews
import Derived.JoinedTies
import Derived.KernelRfl
namespace Go.Proofs.Ytfnpmkmdpbgjkaa
/- THE CELL 'sum', in the pinned program and in every row, IS THE sha256 OF THE DUMP (.gsa) THAT YtfnpmkmdpbgjkaaProg.lean LOADS. Nothing in Lean hashes anything: it is a label: what it is worth is what the hold of that sum in a sandbox is worth. -/
noncomputable def Try.pinned : Pinned := { name := "ytfnpmkmdpbgjkaa", sum := "a959f65991d618d17cbd0c26cc1a4b0d1eefa5e005a961765294beca3ba4bb83", checked := Try.checked }
namespace Rows
def none {H : Type} : Left H := { results := [], args := [] }

/-- 'laws.FnExactLettersOf': WHATEVER THE INPUT: true; the input reads as it did. -/
def fnExactLettersOfSpec : ChangeSpec := { name := "fnExactLettersOf", fn := fun _ => fun
  | [d] => { results := [.lit (.bool true)], args := [d] }
  | _ => none }
def fnExactLettersOfRow : OpenClaim := { program := "ytfnpmkmdpbgjkaa", sum := "a959f65991d618d17cbd0c26cc1a4b0d1eefa5e005a961765294beca3ba4bb83", func := "loop.example/g03003/laws.FnExactLettersOf", spec := "fnExactLettersOf", apart := false }
def FnExactLettersOfSaid : Prop := fnExactLettersOfRow.holds Try.pinned (OpenSpec.ofChange fnExactLettersOfSpec)

/-- ITS FALSE NEIGHBOUR: 'it returns false'. Refute it at one input. -/
def fnExactLettersOfWrong : ChangeSpec := { name := "fnExactLettersOf", fn := fun _ => fun
  | [d] => { results := [.lit (.bool false)], args := [d] }
  | _ => none }
def FnExactLettersOfWrongFalsely : Prop := fnExactLettersOfRow.holds Try.pinned (OpenSpec.ofChange fnExactLettersOfWrong)

/-- 'laws.FnExactHasSense': WHATEVER THE INPUT: true; the input reads as it did. -/
def fnExactHasSenseSpec : ChangeSpec := { name := "fnExactHasSense", fn := fun _ => fun
  | [d1, d2, d3] => { results := [.lit (.bool true)], args := [d1, d2, d3] }
  | _ => none }
def fnExactHasSenseRow : OpenClaim := { program := "ytfnpmkmdpbgjkaa", sum := "a959f65991d618d17cbd0c26cc1a4b0d1eefa5e005a961765294beca3ba4bb83", func := "loop.example/g03003/laws.FnExactHasSense", spec := "fnExactHasSense", apart := false }
def FnExactHasSenseSaid : Prop := fnExactHasSenseRow.holds Try.pinned (OpenSpec.ofChange fnExactHasSenseSpec)

/-- ITS FALSE NEIGHBOUR: 'it returns false'. Refute it at one input. -/
def fnExactHasSenseWrong : ChangeSpec := { name := "fnExactHasSense", fn := fun _ => fun
  | [d1, d2, d3] => { results := [.lit (.bool false)], args := [d1, d2, d3] }
  | _ => none }
def FnExactHasSenseWrongFalsely : Prop := fnExactHasSenseRow.holds Try.pinned (OpenSpec.ofChange fnExactHasSenseWrong)

/-- 'laws.FnExactSealAnswer': WHATEVER THE INPUT: true; the input reads as it did. -/
def fnExactSealAnswerSpec : ChangeSpec := { name := "fnExactSealAnswer", fn := fun _ => fun
  | [d1, d2, d3] => { results := [.lit (.bool true)], args := [d1, d2, d3] }
  | _ => none }
def fnExactSealAnswerRow : OpenClaim := { program := "ytfnpmkmdpbgjkaa", sum := "a959f65991d618d17cbd0c26cc1a4b0d1eefa5e005a961765294beca3ba4bb83", func := "loop.example/g03003/laws.FnExactSealAnswer", spec := "fnExactSealAnswer", apart := false }
def FnExactSealAnswerSaid : Prop := fnExactSealAnswerRow.holds Try.pinned (OpenSpec.ofChange fnExactSealAnswerSpec)

/-- ITS FALSE NEIGHBOUR: 'it returns false'. Refute it at one input. -/
def fnExactSealAnswerWrong : ChangeSpec := { name := "fnExactSealAnswer", fn := fun _ => fun
  | [d1, d2, d3] => { results := [.lit (.bool false)], args := [d1, d2, d3] }
  | _ => none }
def FnExactSealAnswerWrongFalsely : Prop := fnExactSealAnswerRow.holds Try.pinned (OpenSpec.ofChange fnExactSealAnswerWrong)

/-- 'laws.FnExactChecksAnswer': WHATEVER THE INPUT: true; the input reads as it did. -/
def fnExactChecksAnswerSpec : ChangeSpec := { name := "fnExactChecksAnswer", fn := fun _ => fun
  | [d1, d2, d3, d4] => { results := [.lit (.bool true)], args := [d1, d2, d3, d4] }
  | _ => none }
def fnExactChecksAnswerRow : OpenClaim := { program := "ytfnpmkmdpbgjkaa", sum := "a959f65991d618d17cbd0c26cc1a4b0d1eefa5e005a961765294beca3ba4bb83", func := "loop.example/g03003/laws.FnExactChecksAnswer", spec := "fnExactChecksAnswer", apart := false }
def FnExactChecksAnswerSaid : Prop := fnExactChecksAnswerRow.holds Try.pinned (OpenSpec.ofChange fnExactChecksAnswerSpec)

/-- ITS FALSE NEIGHBOUR: 'it returns false'. Refute it at one input. -/
def fnExactChecksAnswerWrong : ChangeSpec := { name := "fnExactChecksAnswer", fn := fun _ => fun
  | [d1, d2, d3, d4] => { results := [.lit (.bool false)], args := [d1, d2, d3, d4] }
  | _ => none }
def FnExactChecksAnswerWrongFalsely : Prop := fnExactChecksAnswerRow.holds Try.pinned (OpenSpec.ofChange fnExactChecksAnswerWrong)

/-- 'laws.FnExactAreRelated': WHATEVER THE INPUT: true; the input reads as it did. -/
def fnExactAreRelatedSpec : ChangeSpec := { name := "fnExactAreRelated", fn := fun _ => fun
  | [d1, d2, d3] => { results := [.lit (.bool true)], args := [d1, d2, d3] }
  | _ => none }
def fnExactAreRelatedRow : OpenClaim := { program := "ytfnpmkmdpbgjkaa", sum := "a959f65991d618d17cbd0c26cc1a4b0d1eefa5e005a961765294beca3ba4bb83", func := "loop.example/g03003/laws.FnExactAreRelated", spec := "fnExactAreRelated", unfollowed := true, recurses := true, apart := false }
def FnExactAreRelatedSaid : Prop := fnExactAreRelatedRow.holds Try.pinned (OpenSpec.ofChange fnExactAreRelatedSpec)

/-- ITS FALSE NEIGHBOUR: 'it returns false'. Refute it at one input. -/
def fnExactAreRelatedWrong : ChangeSpec := { name := "fnExactAreRelated", fn := fun _ => fun
  | [d1, d2, d3] => { results := [.lit (.bool false)], args := [d1, d2, d3] }
  | _ => none }
def FnExactAreRelatedWrongFalsely : Prop := fnExactAreRelatedRow.holds Try.pinned (OpenSpec.ofChange fnExactAreRelatedWrong)

/-- 'laws.FnExactSensesOf': WHATEVER THE INPUT: true; the input reads as it did. -/
def fnExactSensesOfSpec : ChangeSpec := { name := "fnExactSensesOf", fn := fun _ => fun
  | [d1, d2] => { results := [.lit (.bool true)], args := [d1, d2] }
  | _ => none }
def fnExactSensesOfRow : OpenClaim := { program := "ytfnpmkmdpbgjkaa", sum := "a959f65991d618d17cbd0c26cc1a4b0d1eefa5e005a961765294beca3ba4bb83", func := "loop.example/g03003/laws.FnExactSensesOf", spec := "fnExactSensesOf", apart := false }
def FnExactSensesOfSaid : Prop := fnExactSensesOfRow.holds Try.pinned (OpenSpec.ofChange fnExactSensesOfSpec)

/-- ITS FALSE NEIGHBOUR: 'it returns false'. Refute it at one input. -/
def fnExactSensesOfWrong : ChangeSpec := { name := "fnExactSensesOf", fn := fun _ => fun
  | [d1, d2] => { results := [.lit (.bool false)], args := [d1, d2] }
  | _ => none }
def FnExactSensesOfWrongFalsely : Prop := fnExactSensesOfRow.holds Try.pinned (OpenSpec.ofChange fnExactSensesOfWrong)

/-- 'laws.FnExactIsDictionary': WHATEVER THE INPUT: true; the input reads as it did. -/
def fnExactIsDictionarySpec : ChangeSpec := { name := "fnExactIsDictionary", fn := fun _ => fun
  | [d] => { results := [.lit (.bool true)], args := [d] }
  | _ => none }
def fnExactIsDictionaryRow : OpenClaim := { program := "ytfnpmkmdpbgjkaa", sum := "a959f65991d618d17cbd0c26cc1a4b0d1eefa5e005a961765294beca3ba4bb83", func := "loop.example/g03003/laws.FnExactIsDictionary", spec := "fnExactIsDictionary", apart := false }
def FnExactIsDictionarySaid : Prop := fnExactIsDictionaryRow.holds Try.pinned (OpenSpec.ofChange fnExactIsDictionarySpec)

/-- ITS FALSE NEIGHBOUR: 'it returns false'. Refute it at one input. -/
def fnExactIsDictionaryWrong : ChangeSpec := { name := "fnExactIsDictionary", fn := fun _ => fun
  | [d] => { results := [.lit (.bool false)], args := [d] }
  | _ => none }
def FnExactIsDictionaryWrongFalsely : Prop := fnExactIsDictionaryRow.holds Try.pinned (OpenSpec.ofChange fnExactIsDictionaryWrong)

/-- 'laws.FnExactIsClue': WHATEVER THE INPUT: true; the input reads as it did. -/
def fnExactIsClueSpec : ChangeSpec := { name := "fnExactIsClue", fn := fun _ => fun
  | [d] => { results := [.lit (.bool true)], args := [d] }
  | _ => none }
def fnExactIsClueRow : OpenClaim := { program := "ytfnpmkmdpbgjkaa", sum := "a959f65991d618d17cbd0c26cc1a4b0d1eefa5e005a961765294beca3ba4bb83", func := "loop.example/g03003/laws.FnExactIsClue", spec := "fnExactIsClue", apart := false }
def FnExactIsClueSaid : Prop := fnExactIsClueRow.holds Try.pinned (OpenSpec.ofChange fnExactIsClueSpec)

/-- ITS FALSE NEIGHBOUR: 'it returns false'. Refute it at one input. -/
def fnExactIsClueWrong : ChangeSpec := { name := "fnExactIsClue", fn := fun _ => fun
  | [d] => { results := [.lit (.bool false)], args := [d] }
  | _ => none }
def FnExactIsClueWrongFalsely : Prop := fnExactIsClueRow.holds Try.pinned (OpenSpec.ofChange fnExactIsClueWrong)

/-- 'laws.FnExactWordsFor': WHATEVER THE INPUT: true; the input reads as it did. -/
def fnExactWordsForSpec : ChangeSpec := { name := "fnExactWordsFor", fn := fun _ => fun
  | [d1, d2, d3] => { results := [.lit (.bool true)], args := [d1, d2, d3] }
  | _ => none }
def fnExactWordsForRow : OpenClaim := { program := "ytfnpmkmdpbgjkaa", sum := "a959f65991d618d17cbd0c26cc1a4b0d1eefa5e005a961765294beca3ba4bb83", func := "loop.example/g03003/laws.FnExactWordsFor", spec := "fnExactWordsFor", unfollowed := true, recurses := true, apart := false }
def FnExactWordsForSaid : Prop := fnExactWordsForRow.holds Try.pinned (OpenSpec.ofChange fnExactWordsForSpec)

/-- ITS FALSE NEIGHBOUR: 'it returns false'. Refute it at one input. -/
def fnExactWordsForWrong : ChangeSpec := { name := "fnExactWordsFor", fn := fun _ => fun
  | [d1, d2, d3] => { results := [.lit (.bool false)], args := [d1, d2, d3] }
  | _ => none }
def FnExactWordsForWrongFalsely : Prop := fnExactWordsForRow.holds Try.pinned (OpenSpec.ofChange fnExactWordsForWrong)

/-- 'laws.FnExactDepthOf': WHATEVER THE INPUT: true; the input reads as it did. -/
def fnExactDepthOfSpec : ChangeSpec := { name := "fnExactDepthOf", fn := fun _ => fun
  | [d] => { results := [.lit (.bool true)], args := [d] }
  | _ => none }
def fnExactDepthOfRow : OpenClaim := { program := "ytfnpmkmdpbgjkaa", sum := "a959f65991d618d17cbd0c26cc1a4b0d1eefa5e005a961765294beca3ba4bb83", func := "loop.example/g03003/laws.FnExactDepthOf", spec := "fnExactDepthOf", recurses := true, apart := false }
def FnExactDepthOfSaid : Prop := fnExactDepthOfRow.holds Try.pinned (OpenSpec.ofChange fnExactDepthOfSpec)

/-- ITS FALSE NEIGHBOUR: 'it returns false'. Refute it at one input. -/
def fnExactDepthOfWrong : ChangeSpec := { name := "fnExactDepthOf", fn := fun _ => fun
  | [d] => { results := [.lit (.bool false)], args := [d] }
  | _ => none }
def FnExactDepthOfWrongFalsely : Prop := fnExactDepthOfRow.holds Try.pinned (OpenSpec.ofChange fnExactDepthOfWrong)

/-- 'laws.FnExactPlayText': WHATEVER THE INPUT: true; the input reads as it did. -/
def fnExactPlayTextSpec : ChangeSpec := { name := "fnExactPlayText", fn := fun _ => fun
  | [d] => { results := [.lit (.bool true)], args := [d] }
  | _ => none }
def fnExactPlayTextRow : OpenClaim := { program := "ytfnpmkmdpbgjkaa", sum := "a959f65991d618d17cbd0c26cc1a4b0d1eefa5e005a961765294beca3ba4bb83", func := "loop.example/g03003/laws.FnExactPlayText", spec := "fnExactPlayText", recurses := true, apart := false }
def FnExactPlayTextSaid : Prop := fnExactPlayTextRow.holds Try.pinned (OpenSpec.ofChange fnExactPlayTextSpec)

/-- ITS FALSE NEIGHBOUR: 'it returns false'. Refute it at one input. -/
def fnExactPlayTextWrong : ChangeSpec := { name := "fnExactPlayText", fn := fun _ => fun
  | [d] => { results := [.lit (.bool false)], args := [d] }
  | _ => none }
def FnExactPlayTextWrongFalsely : Prop := fnExactPlayTextRow.holds Try.pinned (OpenSpec.ofChange fnExactPlayTextWrong)

/-- 'laws.FnExactStepsUsed': WHATEVER THE INPUT: true; the input reads as it did. -/
def fnExactStepsUsedSpec : ChangeSpec := { name := "fnExactStepsUsed", fn := fun _ => fun
  | [d] => { results := [.lit (.bool true)], args := [d] }
  | _ => none }
def fnExactStepsUsedRow : OpenClaim := { program := "ytfnpmkmdpbgjkaa", sum := "a959f65991d618d17cbd0c26cc1a4b0d1eefa5e005a961765294beca3ba4bb83", func := "loop.example/g03003/laws.FnExactStepsUsed", spec := "fnExactStepsUsed", apart := false }
def FnExactStepsUsedSaid : Prop := fnExactStepsUsedRow.holds Try.pinned (OpenSpec.ofChange fnExactStepsUsedSpec)

/-- ITS FALSE NEIGHBOUR: 'it returns false'. Refute it at one input. -/
def fnExactStepsUsedWrong : ChangeSpec := { name := "fnExactStepsUsed", fn := fun _ => fun
  | [d] => { results := [.lit (.bool false)], args := [d] }
  | _ => none }
def FnExactStepsUsedWrongFalsely : Prop := fnExactStepsUsedRow.holds Try.pinned (OpenSpec.ofChange fnExactStepsUsedWrong)

/- THE SECOND FORM. 'bulk': how many values and letters a reading holds, each counted each time it is reached (what is shared counts as often as it is met; a slice's spare places count too). A statement '..UptoSaid' is the law's where the arguments, and the package variables that the reading takes, are together of bulk at most 1048576: NARROWER than '..Said'. Prove '..Said' where nothing that the law and all that it calls make is longer than what came in: it says more and counts as full. Else prove '..UptoSaid'. A law counts once. -/
mutual
def uptoBulk {H : Type} : DataW H → Nat
  | .lit (.string bytes) => bytes.length + 1
  | .lit _ => 1
  | .nil => 1
  | .ptr d => uptoBulk d + 1
  | .slice elems spare => uptoBulkAll elems + uptoBulkAll spare + 1
  | .agg parts => uptoBulkAll parts + 1
  | .iface _ d => uptoBulk d + 1
  | .map entries => uptoBulkEntries entries + 1
  | .held _ => 1
def uptoBulkAll {H : Type} : List (DataW H) → Nat
  | [] => 0
  | d :: r => uptoBulk d + uptoBulkAll r
def uptoBulkEntries {H : Type} : List (Lit × DataW H) → Nat
  | [] => 0
  | x :: r => uptoBulkEntry x + uptoBulkEntries r
def uptoBulkEntry {H : Type} : Lit × DataW H → Nat
  | (.string bytes, d) => bytes.length + uptoBulk d + 1
  | (_, d) => uptoBulk d + 1
 end
def uptoSmall : (H : Type) → List (DataW H) → Bool := fun _ ds => decide (uptoBulkAll ds ≤ 1048576)
def OpenSpec.upto (s : _root_.Go.ChangeSpec) : _root_.Go.OpenSpec := { _root_.Go.OpenSpec.ofChange s with cond := some uptoSmall }

/-- 'laws.FnExactLettersOf', WHERE WHAT IT READS IS OF BULK AT MOST 1048576: true; the input reads as it did. -/
def fnExactLettersOfUptoRow : OpenClaim := { program := "ytfnpmkmdpbgjkaa", sum := "a959f65991d618d17cbd0c26cc1a4b0d1eefa5e005a961765294beca3ba4bb83", func := "loop.example/g03003/laws.FnExactLettersOf", spec := "fnExactLettersOf", apart := false, narrowed := true }
def FnExactLettersOfUptoSaid : Prop := fnExactLettersOfUptoRow.holds Try.pinned (OpenSpec.upto fnExactLettersOfSpec)

/-- 'laws.FnExactHasSense', WHERE WHAT IT READS IS OF BULK AT MOST 1048576: true; the input reads as it did. -/
def fnExactHasSenseUptoRow : OpenClaim := { program := "ytfnpmkmdpbgjkaa", sum := "a959f65991d618d17cbd0c26cc1a4b0d1eefa5e005a961765294beca3ba4bb83", func := "loop.example/g03003/laws.FnExactHasSense", spec := "fnExactHasSense", apart := false, narrowed := true }
def FnExactHasSenseUptoSaid : Prop := fnExactHasSenseUptoRow.holds Try.pinned (OpenSpec.upto fnExactHasSenseSpec)

/-- 'laws.FnExactSealAnswer', WHERE WHAT IT READS IS OF BULK AT MOST 1048576: true; the input reads as it did. -/
def fnExactSealAnswerUptoRow : OpenClaim := { program := "ytfnpmkmdpbgjkaa", sum := "a959f65991d618d17cbd0c26cc1a4b0d1eefa5e005a961765294beca3ba4bb83", func := "loop.example/g03003/laws.FnExactSealAnswer", spec := "fnExactSealAnswer", apart := false, narrowed := true }
def FnExactSealAnswerUptoSaid : Prop := fnExactSealAnswerUptoRow.holds Try.pinned (OpenSpec.upto fnExactSealAnswerSpec)

/-- 'laws.FnExactChecksAnswer', WHERE WHAT IT READS IS OF BULK AT MOST 1048576: true; the input reads as it did. -/
def fnExactChecksAnswerUptoRow : OpenClaim := { program := "ytfnpmkmdpbgjkaa", sum := "a959f65991d618d17cbd0c26cc1a4b0d1eefa5e005a961765294beca3ba4bb83", func := "loop.example/g03003/laws.FnExactChecksAnswer", spec := "fnExactChecksAnswer", apart := false, narrowed := true }
def FnExactChecksAnswerUptoSaid : Prop := fnExactChecksAnswerUptoRow.holds Try.pinned (OpenSpec.upto fnExactChecksAnswerSpec)

/-- 'laws.FnExactAreRelated', WHERE WHAT IT READS IS OF BULK AT MOST 1048576: true; the input reads as it did. -/
def fnExactAreRelatedUptoRow : OpenClaim := { program := "ytfnpmkmdpbgjkaa", sum := "a959f65991d618d17cbd0c26cc1a4b0d1eefa5e005a961765294beca3ba4bb83", func := "loop.example/g03003/laws.FnExactAreRelated", spec := "fnExactAreRelated", unfollowed := true, recurses := true, apart := false, narrowed := true }
def FnExactAreRelatedUptoSaid : Prop := fnExactAreRelatedUptoRow.holds Try.pinned (OpenSpec.upto fnExactAreRelatedSpec)

/-- 'laws.FnExactSensesOf', WHERE WHAT IT READS IS OF BULK AT MOST 1048576: true; the input reads as it did. -/
def fnExactSensesOfUptoRow : OpenClaim := { program := "ytfnpmkmdpbgjkaa", sum := "a959f65991d618d17cbd0c26cc1a4b0d1eefa5e005a961765294beca3ba4bb83", func := "loop.example/g03003/laws.FnExactSensesOf", spec := "fnExactSensesOf", apart := false, narrowed := true }
def FnExactSensesOfUptoSaid : Prop := fnExactSensesOfUptoRow.holds Try.pinned (OpenSpec.upto fnExactSensesOfSpec)

/-- 'laws.FnExactIsDictionary', WHERE WHAT IT READS IS OF BULK AT MOST 1048576: true; the input reads as it did. -/
def fnExactIsDictionaryUptoRow : OpenClaim := { program := "ytfnpmkmdpbgjkaa", sum := "a959f65991d618d17cbd0c26cc1a4b0d1eefa5e005a961765294beca3ba4bb83", func := "loop.example/g03003/laws.FnExactIsDictionary", spec := "fnExactIsDictionary", apart := false, narrowed := true }
def FnExactIsDictionaryUptoSaid : Prop := fnExactIsDictionaryUptoRow.holds Try.pinned (OpenSpec.upto fnExactIsDictionarySpec)

/-- 'laws.FnExactIsClue', WHERE WHAT IT READS IS OF BULK AT MOST 1048576: true; the input reads as it did. -/
def fnExactIsClueUptoRow : OpenClaim := { program := "ytfnpmkmdpbgjkaa", sum := "a959f65991d618d17cbd0c26cc1a4b0d1eefa5e005a961765294beca3ba4bb83", func := "loop.example/g03003/laws.FnExactIsClue", spec := "fnExactIsClue", apart := false, narrowed := true }
def FnExactIsClueUptoSaid : Prop := fnExactIsClueUptoRow.holds Try.pinned (OpenSpec.upto fnExactIsClueSpec)

/-- 'laws.FnExactWordsFor', WHERE WHAT IT READS IS OF BULK AT MOST 1048576: true; the input reads as it did. -/
def fnExactWordsForUptoRow : OpenClaim := { program := "ytfnpmkmdpbgjkaa", sum := "a959f65991d618d17cbd0c26cc1a4b0d1eefa5e005a961765294beca3ba4bb83", func := "loop.example/g03003/laws.FnExactWordsFor", spec := "fnExactWordsFor", unfollowed := true, recurses := true, apart := false, narrowed := true }
def FnExactWordsForUptoSaid : Prop := fnExactWordsForUptoRow.holds Try.pinned (OpenSpec.upto fnExactWordsForSpec)

/-- 'laws.FnExactDepthOf', WHERE WHAT IT READS IS OF BULK AT MOST 1048576: true; the input reads as it did. -/
def fnExactDepthOfUptoRow : OpenClaim := { program := "ytfnpmkmdpbgjkaa", sum := "a959f65991d618d17cbd0c26cc1a4b0d1eefa5e005a961765294beca3ba4bb83", func := "loop.example/g03003/laws.FnExactDepthOf", spec := "fnExactDepthOf", recurses := true, apart := false, narrowed := true }
def FnExactDepthOfUptoSaid : Prop := fnExactDepthOfUptoRow.holds Try.pinned (OpenSpec.upto fnExactDepthOfSpec)

/-- 'laws.FnExactPlayText', WHERE WHAT IT READS IS OF BULK AT MOST 1048576: true; the input reads as it did. -/
def fnExactPlayTextUptoRow : OpenClaim := { program := "ytfnpmkmdpbgjkaa", sum := "a959f65991d618d17cbd0c26cc1a4b0d1eefa5e005a961765294beca3ba4bb83", func := "loop.example/g03003/laws.FnExactPlayText", spec := "fnExactPlayText", recurses := true, apart := false, narrowed := true }
def FnExactPlayTextUptoSaid : Prop := fnExactPlayTextUptoRow.holds Try.pinned (OpenSpec.upto fnExactPlayTextSpec)

/-- 'laws.FnExactStepsUsed', WHERE WHAT IT READS IS OF BULK AT MOST 1048576: true; the input reads as it did. -/
def fnExactStepsUsedUptoRow : OpenClaim := { program := "ytfnpmkmdpbgjkaa", sum := "a959f65991d618d17cbd0c26cc1a4b0d1eefa5e005a961765294beca3ba4bb83", func := "loop.example/g03003/laws.FnExactStepsUsed", spec := "fnExactStepsUsed", apart := false, narrowed := true }
def FnExactStepsUsedUptoSaid : Prop := fnExactStepsUsedUptoRow.holds Try.pinned (OpenSpec.upto fnExactStepsUsedSpec)

end Rows
end Go.Proofs.Ytfnpmkmdpbgjkaa
