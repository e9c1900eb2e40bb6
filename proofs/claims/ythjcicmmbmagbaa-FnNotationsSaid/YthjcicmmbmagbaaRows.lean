/-
  No cell of these rows narrows 'for every input' (looked for: loops, veiled, ifaces, maps, wideKeys, modest, calm, conditions, laid).
  DERIVED. THE GIVEN ROWS OF THIS SEAT. 7 by the template 'for every input the law returns true; each argument reads behind the call as it read before'; 0 by the template 'total and deterministic' (their statements: YthjcicmmbmagbaaTotals.lean).
  GIVEN WITH THE SEED: the statements are not yours to turn. If you find one false, say at which input.
  Laid BY PROGRAM, IN A SANDBOX (cutbox-rows.mjs): the forced cells as the released guide's own fill.sh prints them over the translation 9993ad40d90f269c… (all of the seat's roots in one cut). By AI agents, Wed Nov 11 2026. No macro, syntax, notation, axiom, sorry.
-/
import Derived.Test.YthjcicmmbmagbaaChecked
import GoSem.Claim
import GoSem.ClaimJoined
import GoSem.ClaimMapViews
import Derived.JoinedTies
import Derived.KernelRfl
namespace Go.Proofs.Ythjcicmmbmagbaa
/- THE CELL 'sum', in the pinned program and in every row, IS THE sha256 OF THE DUMP (.gsa) THAT YthjcicmmbmagbaaProg.lean LOADS. Nothing in Lean hashes anything: it is a label: what it is worth is what the hold of that sum in a sandbox is worth. -/
noncomputable def Try.pinned : Pinned := { name := "ythjcicmmbmagbaa", sum := "9993ad40d90f269c8970ae515522f432307ff48d3c2d743b2956881147771ad7", checked := Try.checked }
namespace Rows
def none {H : Type} : Left H := { results := [], args := [] }

/-- 'laws.FnExactAddMeaning': WHATEVER THE INPUT: true; the input reads as it did. -/
def fnExactAddMeaningSpec : ChangeSpec := { name := "fnExactAddMeaning", fn := fun _ => fun
  | [d1, d2] => { results := [.lit (.bool true)], args := [d1, d2] }
  | _ => none }
def fnExactAddMeaningRow : OpenClaim := { program := "ythjcicmmbmagbaa", sum := "9993ad40d90f269c8970ae515522f432307ff48d3c2d743b2956881147771ad7", func := "loop.example/g03003/laws.FnExactAddMeaning", spec := "fnExactAddMeaning", inPlace := ["slices.overlaps[loop.example/g03003/impl.Meaning]"], apart := false }
def FnExactAddMeaningSaid : Prop := fnExactAddMeaningRow.holds Try.pinned (OpenSpec.ofChange fnExactAddMeaningSpec)

/-- ITS FALSE NEIGHBOUR: 'it returns false'. Refute it at one input. -/
def fnExactAddMeaningWrong : ChangeSpec := { name := "fnExactAddMeaning", fn := fun _ => fun
  | [d1, d2] => { results := [.lit (.bool false)], args := [d1, d2] }
  | _ => none }
def FnExactAddMeaningWrongFalsely : Prop := fnExactAddMeaningRow.holds Try.pinned (OpenSpec.ofChange fnExactAddMeaningWrong)

/-- 'laws.FnSenses': WHATEVER THE INPUT: true; the input reads as it did. -/
def fnSensesSpec : ChangeSpec := { name := "fnSenses", fn := fun _ => fun
  | [d] => { results := [.lit (.bool true)], args := [d] }
  | _ => none }
def fnSensesRow : OpenClaim := { program := "ythjcicmmbmagbaa", sum := "9993ad40d90f269c8970ae515522f432307ff48d3c2d743b2956881147771ad7", func := "loop.example/g03003/laws.FnSenses", spec := "fnSenses", inPlace := ["slices.overlaps[loop.example/g03003/impl.Meaning]"], unfollowed := true, recurses := true, apart := false }
def FnSensesSaid : Prop := fnSensesRow.holds Try.pinned (OpenSpec.ofChange fnSensesSpec)

/-- ITS FALSE NEIGHBOUR: 'it returns false'. Refute it at one input. -/
def fnSensesWrong : ChangeSpec := { name := "fnSenses", fn := fun _ => fun
  | [d] => { results := [.lit (.bool false)], args := [d] }
  | _ => none }
def FnSensesWrongFalsely : Prop := fnSensesRow.holds Try.pinned (OpenSpec.ofChange fnSensesWrong)

/-- 'laws.FnExactParsePlay': WHATEVER THE INPUT: true; the input reads as it did. -/
def fnExactParsePlaySpec : ChangeSpec := { name := "fnExactParsePlay", fn := fun _ => fun
  | [d] => { results := [.lit (.bool true)], args := [d] }
  | _ => none }
def fnExactParsePlayRow : OpenClaim := { program := "ythjcicmmbmagbaa", sum := "9993ad40d90f269c8970ae515522f432307ff48d3c2d743b2956881147771ad7", func := "loop.example/g03003/laws.FnExactParsePlay", spec := "fnExactParsePlay", inPlace := ["internal/bytealg.IndexByteString", "internal/bytealg.IndexString"], recurses := true, named := ["internal/bytealg.MaxLen"], apart := false }
def FnExactParsePlaySaid : Prop := fnExactParsePlayRow.holds Try.pinned (OpenSpec.ofChange fnExactParsePlaySpec)

/-- ITS FALSE NEIGHBOUR: 'it returns false'. Refute it at one input. -/
def fnExactParsePlayWrong : ChangeSpec := { name := "fnExactParsePlay", fn := fun _ => fun
  | [d] => { results := [.lit (.bool false)], args := [d] }
  | _ => none }
def FnExactParsePlayWrongFalsely : Prop := fnExactParsePlayRow.holds Try.pinned (OpenSpec.ofChange fnExactParsePlayWrong)

/-- 'laws.FnExactIsPuzzle': WHATEVER THE INPUT: true; the input reads as it did. -/
def fnExactIsPuzzleSpec : ChangeSpec := { name := "fnExactIsPuzzle", fn := fun _ => fun
  | [d] => { results := [.lit (.bool true)], args := [d] }
  | _ => none }
def fnExactIsPuzzleRow : OpenClaim := { program := "ythjcicmmbmagbaa", sum := "9993ad40d90f269c8970ae515522f432307ff48d3c2d743b2956881147771ad7", func := "loop.example/g03003/laws.FnExactIsPuzzle", spec := "fnExactIsPuzzle", unfollowed := true, recurses := true, apart := false }
def FnExactIsPuzzleSaid : Prop := fnExactIsPuzzleRow.holds Try.pinned (OpenSpec.ofChange fnExactIsPuzzleSpec)

/-- ITS FALSE NEIGHBOUR: 'it returns false'. Refute it at one input. -/
def fnExactIsPuzzleWrong : ChangeSpec := { name := "fnExactIsPuzzle", fn := fun _ => fun
  | [d] => { results := [.lit (.bool false)], args := [d] }
  | _ => none }
def FnExactIsPuzzleWrongFalsely : Prop := fnExactIsPuzzleRow.holds Try.pinned (OpenSpec.ofChange fnExactIsPuzzleWrong)

/-- 'laws.FnExactHardOf': WHATEVER THE INPUT: true; the input reads as it did. -/
def fnExactHardOfSpec : ChangeSpec := { name := "fnExactHardOf", fn := fun _ => fun
  | [d] => { results := [.lit (.bool true)], args := [d] }
  | _ => none }
def fnExactHardOfRow : OpenClaim := { program := "ythjcicmmbmagbaa", sum := "9993ad40d90f269c8970ae515522f432307ff48d3c2d743b2956881147771ad7", func := "loop.example/g03003/laws.FnExactHardOf", spec := "fnExactHardOf", unfollowed := true, recurses := true, apart := false }
def FnExactHardOfSaid : Prop := fnExactHardOfRow.holds Try.pinned (OpenSpec.ofChange fnExactHardOfSpec)

/-- ITS FALSE NEIGHBOUR: 'it returns false'. Refute it at one input. -/
def fnExactHardOfWrong : ChangeSpec := { name := "fnExactHardOf", fn := fun _ => fun
  | [d] => { results := [.lit (.bool false)], args := [d] }
  | _ => none }
def FnExactHardOfWrongFalsely : Prop := fnExactHardOfRow.holds Try.pinned (OpenSpec.ofChange fnExactHardOfWrong)

/-- 'laws.FnExactIsSolved': WHATEVER THE INPUT: true; the input reads as it did. -/
def fnExactIsSolvedSpec : ChangeSpec := { name := "fnExactIsSolved", fn := fun _ => fun
  | [d1, d2] => { results := [.lit (.bool true)], args := [d1, d2] }
  | _ => none }
def fnExactIsSolvedRow : OpenClaim := { program := "ythjcicmmbmagbaa", sum := "9993ad40d90f269c8970ae515522f432307ff48d3c2d743b2956881147771ad7", func := "loop.example/g03003/laws.FnExactIsSolved", spec := "fnExactIsSolved", unfollowed := true, recurses := true, apart := false }
def FnExactIsSolvedSaid : Prop := fnExactIsSolvedRow.holds Try.pinned (OpenSpec.ofChange fnExactIsSolvedSpec)

/-- ITS FALSE NEIGHBOUR: 'it returns false'. Refute it at one input. -/
def fnExactIsSolvedWrong : ChangeSpec := { name := "fnExactIsSolved", fn := fun _ => fun
  | [d1, d2] => { results := [.lit (.bool false)], args := [d1, d2] }
  | _ => none }
def FnExactIsSolvedWrongFalsely : Prop := fnExactIsSolvedRow.holds Try.pinned (OpenSpec.ofChange fnExactIsSolvedWrong)

/-- 'laws.FnNotations': WHATEVER THE INPUT: true; the input reads as it did. -/
def fnNotationsSpec : ChangeSpec := { name := "fnNotations", fn := fun _ => fun
  | [d] => { results := [.lit (.bool true)], args := [d] }
  | _ => none }
def fnNotationsRow : OpenClaim := { program := "ythjcicmmbmagbaa", sum := "9993ad40d90f269c8970ae515522f432307ff48d3c2d743b2956881147771ad7", func := "loop.example/g03003/laws.FnNotations", spec := "fnNotations", inPlace := ["internal/bytealg.IndexByteString", "internal/bytealg.IndexString"], recurses := true, named := ["internal/bytealg.MaxLen"], apart := false }
def FnNotationsSaid : Prop := fnNotationsRow.holds Try.pinned (OpenSpec.ofChange fnNotationsSpec)

/-- ITS FALSE NEIGHBOUR: 'it returns false'. Refute it at one input. -/
def fnNotationsWrong : ChangeSpec := { name := "fnNotations", fn := fun _ => fun
  | [d] => { results := [.lit (.bool false)], args := [d] }
  | _ => none }
def FnNotationsWrongFalsely : Prop := fnNotationsRow.holds Try.pinned (OpenSpec.ofChange fnNotationsWrong)

/- THE SECOND FORM. 'bulk': how many values and letters a reading holds, each counted each time it is reached (what is shared counts as often as it is met; a slice's spare places count too). A statement '..UptoSaid' is the law's where the arguments, and the package variables that the reading takes, are together of bulk at most 1048576: NARROWER than '..Said'. Prove '..Said' where nothing that the law and all that it calls make is longer than what came in: it says more and counts as full. Else prove '..UptoSaid'. A law counts once. -/
mutual
def uptoBulk {H : Type} : DataW H → Nat
  | .lit (.string bytes) => bytes.length + 1
  | .lit _ => 1
  | .nil => 1
  | .ptr d => uptoBulk d + 1
  | .slice elems spare => uptoBulkAll elems + uptoBulkAll spare + 1
  | .agg parts => uptoBulkAll parts + 1
  | .iface _ d => uptoBulk d + 1
  | .map entries => uptoBulkEntries entries + 1
  | .held _ => 1
def uptoBulkAll {H : Type} : List (DataW H) → Nat
  | [] => 0
  | d :: r => uptoBulk d + uptoBulkAll r
def uptoBulkEntries {H : Type} : List (Lit × DataW H) → Nat
  | [] => 0
  | x :: r => uptoBulkEntry x + uptoBulkEntries r
def uptoBulkEntry {H : Type} : Lit × DataW H → Nat
  | (.string bytes, d) => bytes.length + uptoBulk d + 1
  | (_, d) => uptoBulk d + 1
 end
def uptoSmall : (H : Type) → List (DataW H) → Bool := fun _ ds => decide (uptoBulkAll ds ≤ 1048576)
def OpenSpec.upto (s : _root_.Go.ChangeSpec) : _root_.Go.OpenSpec := { _root_.Go.OpenSpec.ofChange s with cond := some uptoSmall }

/-- 'laws.FnExactAddMeaning', WHERE WHAT IT READS IS OF BULK AT MOST 1048576: true; the input reads as it did. -/
def fnExactAddMeaningUptoRow : OpenClaim := { program := "ythjcicmmbmagbaa", sum := "9993ad40d90f269c8970ae515522f432307ff48d3c2d743b2956881147771ad7", func := "loop.example/g03003/laws.FnExactAddMeaning", spec := "fnExactAddMeaning", inPlace := ["slices.overlaps[loop.example/g03003/impl.Meaning]"], apart := false, narrowed := true }
def FnExactAddMeaningUptoSaid : Prop := fnExactAddMeaningUptoRow.holds Try.pinned (OpenSpec.upto fnExactAddMeaningSpec)

/-- 'laws.FnSenses', WHERE WHAT IT READS IS OF BULK AT MOST 1048576: true; the input reads as it did. -/
def fnSensesUptoRow : OpenClaim := { program := "ythjcicmmbmagbaa", sum := "9993ad40d90f269c8970ae515522f432307ff48d3c2d743b2956881147771ad7", func := "loop.example/g03003/laws.FnSenses", spec := "fnSenses", inPlace := ["slices.overlaps[loop.example/g03003/impl.Meaning]"], unfollowed := true, recurses := true, apart := false, narrowed := true }
def FnSensesUptoSaid : Prop := fnSensesUptoRow.holds Try.pinned (OpenSpec.upto fnSensesSpec)

/-- 'laws.FnExactParsePlay', WHERE WHAT IT READS IS OF BULK AT MOST 1048576: true; the input reads as it did. -/
def fnExactParsePlayUptoRow : OpenClaim := { program := "ythjcicmmbmagbaa", sum := "9993ad40d90f269c8970ae515522f432307ff48d3c2d743b2956881147771ad7", func := "loop.example/g03003/laws.FnExactParsePlay", spec := "fnExactParsePlay", inPlace := ["internal/bytealg.IndexByteString", "internal/bytealg.IndexString"], recurses := true, named := ["internal/bytealg.MaxLen"], apart := false, narrowed := true }
def FnExactParsePlayUptoSaid : Prop := fnExactParsePlayUptoRow.holds Try.pinned (OpenSpec.upto fnExactParsePlaySpec)

/-- 'laws.FnExactIsPuzzle', WHERE WHAT IT READS IS OF BULK AT MOST 1048576: true; the input reads as it did. -/
def fnExactIsPuzzleUptoRow : OpenClaim := { program := "ythjcicmmbmagbaa", sum := "9993ad40d90f269c8970ae515522f432307ff48d3c2d743b2956881147771ad7", func := "loop.example/g03003/laws.FnExactIsPuzzle", spec := "fnExactIsPuzzle", unfollowed := true, recurses := true, apart := false, narrowed := true }
def FnExactIsPuzzleUptoSaid : Prop := fnExactIsPuzzleUptoRow.holds Try.pinned (OpenSpec.upto fnExactIsPuzzleSpec)

/-- 'laws.FnExactHardOf', WHERE WHAT IT READS IS OF BULK AT MOST 1048576: true; the input reads as it did. -/
def fnExactHardOfUptoRow : OpenClaim := { program := "ythjcicmmbmagbaa", sum := "9993ad40d90f269c8970ae515522f432307ff48d3c2d743b2956881147771ad7", func := "loop.example/g03003/laws.FnExactHardOf", spec := "fnExactHardOf", unfollowed := true, recurses := true, apart := false, narrowed := true }
def FnExactHardOfUptoSaid : Prop := fnExactHardOfUptoRow.holds Try.pinned (OpenSpec.upto fnExactHardOfSpec)

/-- 'laws.FnExactIsSolved', WHERE WHAT IT READS IS OF BULK AT MOST 1048576: true; the input reads as it did. -/
def fnExactIsSolvedUptoRow : OpenClaim := { program := "ythjcicmmbmagbaa", sum := "9993ad40d90f269c8970ae515522f432307ff48d3c2d743b2956881147771ad7", func := "loop.example/g03003/laws.FnExactIsSolved", spec := "fnExactIsSolved", unfollowed := true, recurses := true, apart := false, narrowed := true }
def FnExactIsSolvedUptoSaid : Prop := fnExactIsSolvedUptoRow.holds Try.pinned (OpenSpec.upto fnExactIsSolvedSpec)

/-- 'laws.FnNotations', WHERE WHAT IT READS IS OF BULK AT MOST 1048576: true; the input reads as it did. -/
def fnNotationsUptoRow : OpenClaim := { program := "ythjcicmmbmagbaa", sum := "9993ad40d90f269c8970ae515522f432307ff48d3c2d743b2956881147771ad7", func := "loop.example/g03003/laws.FnNotations", spec := "fnNotations", inPlace := ["internal/bytealg.IndexByteString", "internal/bytealg.IndexString"], recurses := true, named := ["internal/bytealg.MaxLen"], apart := false, narrowed := true }
def FnNotationsUptoSaid : Prop := fnNotationsUptoRow.holds Try.pinned (OpenSpec.upto fnNotationsSpec)

end Rows
end Go.Proofs.Ythjcicmmbmagbaa
