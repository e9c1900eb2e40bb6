/-
  No cell of these rows narrows 'for every input' (looked for: loops, veiled, ifaces, maps, wideKeys, modest, calm, conditions, laid).
  DERIVED. THE GIVEN ROWS OF THIS SEAT. 9 by the template 'for every input the law returns true; each argument reads behind the call as it read before'; 0 by the template 'total and deterministic' (their statements: YtddacmgigolcbaaTotals.lean).
  GIVEN WITH THE SEED: the statements are not yours to turn. If you find one false, say at which input.
  Laid BY PROGRAM, IN A SANDBOX (cutbox-rows.mjs): the forced cells as the released guide's own fill.sh prints them over the translation d9f2130777c4daae… (all of the seat's roots in one cut). By AI agents, Wed Nov 11 2026. No macro, syntax, notation, axiom, sorry.
-/
import Derived.Test.YtddacmgigolcbaaChecked
import GoSem.Claim
import GoSem.ClaimJoined
import GoSem.ClaimMapViews
import Derived.JoinedTies
import Derived.KernelRfl
namespace Go.Proofs.Ytddacmgigolcbaa
/- THE CELL 'sum', in the pinned program and in every row, IS THE sha256 OF THE DUMP (.gsa) THAT YtddacmgigolcbaaProg.lean LOADS. Nothing in Lean hashes anything: it is a label: what it is worth is what the hold of that sum in a sandbox is worth. -/
noncomputable def Try.pinned : Pinned := { name := "ytddacmgigolcbaa", sum := "d9f2130777c4daaeef0ed6d4a27d5a71df0d1eaa9aacd23fef44ddcdd2a9b495", checked := Try.checked }
namespace Rows
def none {H : Type} : Left H := { results := [], args := [] }

/-- 'laws.FnExactEqualPuzzles': WHATEVER THE INPUT: true; the input reads as it did. -/
def fnExactEqualPuzzlesSpec : ChangeSpec := { name := "fnExactEqualPuzzles", fn := fun _ => fun
  | [d1, d2] => { results := [.lit (.bool true)], args := [d1, d2] }
  | _ => none }
def fnExactEqualPuzzlesRow : OpenClaim := { program := "ytddacmgigolcbaa", sum := "d9f2130777c4daaeef0ed6d4a27d5a71df0d1eaa9aacd23fef44ddcdd2a9b495", func := "loop.example/g03003/laws.FnExactEqualPuzzles", spec := "fnExactEqualPuzzles", unfollowed := true, recurses := true, apart := false }
def FnExactEqualPuzzlesSaid : Prop := fnExactEqualPuzzlesRow.holds Try.pinned (OpenSpec.ofChange fnExactEqualPuzzlesSpec)

/-- ITS FALSE NEIGHBOUR: 'it returns false'. Refute it at one input. -/
def fnExactEqualPuzzlesWrong : ChangeSpec := { name := "fnExactEqualPuzzles", fn := fun _ => fun
  | [d1, d2] => { results := [.lit (.bool false)], args := [d1, d2] }
  | _ => none }
def FnExactEqualPuzzlesWrongFalsely : Prop := fnExactEqualPuzzlesRow.holds Try.pinned (OpenSpec.ofChange fnExactEqualPuzzlesWrong)

/-- 'laws.FnExactAddMeaning': WHATEVER THE INPUT: true; the input reads as it did. -/
def fnExactAddMeaningSpec : ChangeSpec := { name := "fnExactAddMeaning", fn := fun _ => fun
  | [d1, d2] => { results := [.lit (.bool true)], args := [d1, d2] }
  | _ => none }
def fnExactAddMeaningRow : OpenClaim := { program := "ytddacmgigolcbaa", sum := "d9f2130777c4daaeef0ed6d4a27d5a71df0d1eaa9aacd23fef44ddcdd2a9b495", func := "loop.example/g03003/laws.FnExactAddMeaning", spec := "fnExactAddMeaning", inPlace := ["slices.overlaps[loop.example/g03003/impl.Meaning]"], apart := false }
def FnExactAddMeaningSaid : Prop := fnExactAddMeaningRow.holds Try.pinned (OpenSpec.ofChange fnExactAddMeaningSpec)

/-- ITS FALSE NEIGHBOUR: 'it returns false'. Refute it at one input. -/
def fnExactAddMeaningWrong : ChangeSpec := { name := "fnExactAddMeaning", fn := fun _ => fun
  | [d1, d2] => { results := [.lit (.bool false)], args := [d1, d2] }
  | _ => none }
def FnExactAddMeaningWrongFalsely : Prop := fnExactAddMeaningRow.holds Try.pinned (OpenSpec.ofChange fnExactAddMeaningWrong)

/-- 'laws.FnExactRightSlots': WHATEVER THE INPUT: true; the input reads as it did. -/
def fnExactRightSlotsSpec : ChangeSpec := { name := "fnExactRightSlots", fn := fun _ => fun
  | [d1, d2, d3, d4] => { results := [.lit (.bool true)], args := [d1, d2, d3, d4] }
  | _ => none }
def fnExactRightSlotsRow : OpenClaim := { program := "ytddacmgigolcbaa", sum := "d9f2130777c4daaeef0ed6d4a27d5a71df0d1eaa9aacd23fef44ddcdd2a9b495", func := "loop.example/g03003/laws.FnExactRightSlots", spec := "fnExactRightSlots", apart := false }
def FnExactRightSlotsSaid : Prop := fnExactRightSlotsRow.holds Try.pinned (OpenSpec.ofChange fnExactRightSlotsSpec)

/-- ITS FALSE NEIGHBOUR: 'it returns false'. Refute it at one input. -/
def fnExactRightSlotsWrong : ChangeSpec := { name := "fnExactRightSlots", fn := fun _ => fun
  | [d1, d2, d3, d4] => { results := [.lit (.bool false)], args := [d1, d2, d3, d4] }
  | _ => none }
def FnExactRightSlotsWrongFalsely : Prop := fnExactRightSlotsRow.holds Try.pinned (OpenSpec.ofChange fnExactRightSlotsWrong)

/-- 'laws.FnExactSealAll': WHATEVER THE INPUT: true; the input reads as it did. -/
def fnExactSealAllSpec : ChangeSpec := { name := "fnExactSealAll", fn := fun _ => fun
  | [d1, d2, d3] => { results := [.lit (.bool true)], args := [d1, d2, d3] }
  | _ => none }
def fnExactSealAllRow : OpenClaim := { program := "ytddacmgigolcbaa", sum := "d9f2130777c4daaeef0ed6d4a27d5a71df0d1eaa9aacd23fef44ddcdd2a9b495", func := "loop.example/g03003/laws.FnExactSealAll", spec := "fnExactSealAll", apart := false }
def FnExactSealAllSaid : Prop := fnExactSealAllRow.holds Try.pinned (OpenSpec.ofChange fnExactSealAllSpec)

/-- ITS FALSE NEIGHBOUR: 'it returns false'. Refute it at one input. -/
def fnExactSealAllWrong : ChangeSpec := { name := "fnExactSealAll", fn := fun _ => fun
  | [d1, d2, d3] => { results := [.lit (.bool false)], args := [d1, d2, d3] }
  | _ => none }
def FnExactSealAllWrongFalsely : Prop := fnExactSealAllRow.holds Try.pinned (OpenSpec.ofChange fnExactSealAllWrong)

/-- 'laws.FnExactParsePlay': WHATEVER THE INPUT: true; the input reads as it did. -/
def fnExactParsePlaySpec : ChangeSpec := { name := "fnExactParsePlay", fn := fun _ => fun
  | [d] => { results := [.lit (.bool true)], args := [d] }
  | _ => none }
def fnExactParsePlayRow : OpenClaim := { program := "ytddacmgigolcbaa", sum := "d9f2130777c4daaeef0ed6d4a27d5a71df0d1eaa9aacd23fef44ddcdd2a9b495", func := "loop.example/g03003/laws.FnExactParsePlay", spec := "fnExactParsePlay", inPlace := ["internal/bytealg.IndexByteString", "internal/bytealg.IndexString"], recurses := true, named := ["internal/bytealg.MaxLen"], apart := false }
def FnExactParsePlaySaid : Prop := fnExactParsePlayRow.holds Try.pinned (OpenSpec.ofChange fnExactParsePlaySpec)

/-- ITS FALSE NEIGHBOUR: 'it returns false'. Refute it at one input. -/
def fnExactParsePlayWrong : ChangeSpec := { name := "fnExactParsePlay", fn := fun _ => fun
  | [d] => { results := [.lit (.bool false)], args := [d] }
  | _ => none }
def FnExactParsePlayWrongFalsely : Prop := fnExactParsePlayRow.holds Try.pinned (OpenSpec.ofChange fnExactParsePlayWrong)

/-- 'laws.FnExactIsPuzzle': WHATEVER THE INPUT: true; the input reads as it did. -/
def fnExactIsPuzzleSpec : ChangeSpec := { name := "fnExactIsPuzzle", fn := fun _ => fun
  | [d] => { results := [.lit (.bool true)], args := [d] }
  | _ => none }
def fnExactIsPuzzleRow : OpenClaim := { program := "ytddacmgigolcbaa", sum := "d9f2130777c4daaeef0ed6d4a27d5a71df0d1eaa9aacd23fef44ddcdd2a9b495", func := "loop.example/g03003/laws.FnExactIsPuzzle", spec := "fnExactIsPuzzle", unfollowed := true, recurses := true, apart := false }
def FnExactIsPuzzleSaid : Prop := fnExactIsPuzzleRow.holds Try.pinned (OpenSpec.ofChange fnExactIsPuzzleSpec)

/-- ITS FALSE NEIGHBOUR: 'it returns false'. Refute it at one input. -/
def fnExactIsPuzzleWrong : ChangeSpec := { name := "fnExactIsPuzzle", fn := fun _ => fun
  | [d] => { results := [.lit (.bool false)], args := [d] }
  | _ => none }
def FnExactIsPuzzleWrongFalsely : Prop := fnExactIsPuzzleRow.holds Try.pinned (OpenSpec.ofChange fnExactIsPuzzleWrong)

/-- 'laws.FnExactHardOf': WHATEVER THE INPUT: true; the input reads as it did. -/
def fnExactHardOfSpec : ChangeSpec := { name := "fnExactHardOf", fn := fun _ => fun
  | [d] => { results := [.lit (.bool true)], args := [d] }
  | _ => none }
def fnExactHardOfRow : OpenClaim := { program := "ytddacmgigolcbaa", sum := "d9f2130777c4daaeef0ed6d4a27d5a71df0d1eaa9aacd23fef44ddcdd2a9b495", func := "loop.example/g03003/laws.FnExactHardOf", spec := "fnExactHardOf", unfollowed := true, recurses := true, apart := false }
def FnExactHardOfSaid : Prop := fnExactHardOfRow.holds Try.pinned (OpenSpec.ofChange fnExactHardOfSpec)

/-- ITS FALSE NEIGHBOUR: 'it returns false'. Refute it at one input. -/
def fnExactHardOfWrong : ChangeSpec := { name := "fnExactHardOf", fn := fun _ => fun
  | [d] => { results := [.lit (.bool false)], args := [d] }
  | _ => none }
def FnExactHardOfWrongFalsely : Prop := fnExactHardOfRow.holds Try.pinned (OpenSpec.ofChange fnExactHardOfWrong)

/-- 'laws.FnExactFitsClue': WHATEVER THE INPUT: true; the input reads as it did. -/
def fnExactFitsClueSpec : ChangeSpec := { name := "fnExactFitsClue", fn := fun _ => fun
  | [d1, d2, d3] => { results := [.lit (.bool true)], args := [d1, d2, d3] }
  | _ => none }
def fnExactFitsClueRow : OpenClaim := { program := "ytddacmgigolcbaa", sum := "d9f2130777c4daaeef0ed6d4a27d5a71df0d1eaa9aacd23fef44ddcdd2a9b495", func := "loop.example/g03003/laws.FnExactFitsClue", spec := "fnExactFitsClue", recurses := true, apart := false }
def FnExactFitsClueSaid : Prop := fnExactFitsClueRow.holds Try.pinned (OpenSpec.ofChange fnExactFitsClueSpec)

/-- ITS FALSE NEIGHBOUR: 'it returns false'. Refute it at one input. -/
def fnExactFitsClueWrong : ChangeSpec := { name := "fnExactFitsClue", fn := fun _ => fun
  | [d1, d2, d3] => { results := [.lit (.bool false)], args := [d1, d2, d3] }
  | _ => none }
def FnExactFitsClueWrongFalsely : Prop := fnExactFitsClueRow.holds Try.pinned (OpenSpec.ofChange fnExactFitsClueWrong)

/-- 'laws.FnExactIsSolved': WHATEVER THE INPUT: true; the input reads as it did. -/
def fnExactIsSolvedSpec : ChangeSpec := { name := "fnExactIsSolved", fn := fun _ => fun
  | [d1, d2] => { results := [.lit (.bool true)], args := [d1, d2] }
  | _ => none }
def fnExactIsSolvedRow : OpenClaim := { program := "ytddacmgigolcbaa", sum := "d9f2130777c4daaeef0ed6d4a27d5a71df0d1eaa9aacd23fef44ddcdd2a9b495", func := "loop.example/g03003/laws.FnExactIsSolved", spec := "fnExactIsSolved", unfollowed := true, recurses := true, apart := false }
def FnExactIsSolvedSaid : Prop := fnExactIsSolvedRow.holds Try.pinned (OpenSpec.ofChange fnExactIsSolvedSpec)

/-- ITS FALSE NEIGHBOUR: 'it returns false'. Refute it at one input. -/
def fnExactIsSolvedWrong : ChangeSpec := { name := "fnExactIsSolved", fn := fun _ => fun
  | [d1, d2] => { results := [.lit (.bool false)], args := [d1, d2] }
  | _ => none }
def FnExactIsSolvedWrongFalsely : Prop := fnExactIsSolvedRow.holds Try.pinned (OpenSpec.ofChange fnExactIsSolvedWrong)

/- THE SECOND FORM. 'bulk': how many values and letters a reading holds, each counted each time it is reached (what is shared counts as often as it is met; a slice's spare places count too). A statement '..UptoSaid' is the law's where the arguments, and the package variables that the reading takes, are together of bulk at most 1048576: NARROWER than '..Said'. Prove '..Said' where nothing that the law and all that it calls make is longer than what came in: it says more and counts as full. Else prove '..UptoSaid'. A law counts once. -/
mutual
def uptoBulk {H : Type} : DataW H → Nat
  | .lit (.string bytes) => bytes.length + 1
  | .lit _ => 1
  | .nil => 1
  | .ptr d => uptoBulk d + 1
  | .slice elems spare => uptoBulkAll elems + uptoBulkAll spare + 1
  | .agg parts => uptoBulkAll parts + 1
  | .iface _ d => uptoBulk d + 1
  | .map entries => uptoBulkEntries entries + 1
  | .held _ => 1
def uptoBulkAll {H : Type} : List (DataW H) → Nat
  | [] => 0
  | d :: r => uptoBulk d + uptoBulkAll r
def uptoBulkEntries {H : Type} : List (Lit × DataW H) → Nat
  | [] => 0
  | x :: r => uptoBulkEntry x + uptoBulkEntries r
def uptoBulkEntry {H : Type} : Lit × DataW H → Nat
  | (.string bytes, d) => bytes.length + uptoBulk d + 1
  | (_, d) => uptoBulk d + 1
 end
def uptoSmall : (H : Type) → List (DataW H) → Bool := fun _ ds => decide (uptoBulkAll ds ≤ 1048576)
def OpenSpec.upto (s : _root_.Go.ChangeSpec) : _root_.Go.OpenSpec := { _root_.Go.OpenSpec.ofChange s with cond := some uptoSmall }

/-- 'laws.FnExactEqualPuzzles', WHERE WHAT IT READS IS OF BULK AT MOST 1048576: true; the input reads as it did. -/
def fnExactEqualPuzzlesUptoRow : OpenClaim := { program := "ytddacmgigolcbaa", sum := "d9f2130777c4daaeef0ed6d4a27d5a71df0d1eaa9aacd23fef44ddcdd2a9b495", func := "loop.example/g03003/laws.FnExactEqualPuzzles", spec := "fnExactEqualPuzzles", unfollowed := true, recurses := true, apart := false, narrowed := true }
def FnExactEqualPuzzlesUptoSaid : Prop := fnExactEqualPuzzlesUptoRow.holds Try.pinned (OpenSpec.upto fnExactEqualPuzzlesSpec)

/-- 'laws.FnExactAddMeaning', WHERE WHAT IT READS IS OF BULK AT MOST 1048576: true; the input reads as it did. -/
def fnExactAddMeaningUptoRow : OpenClaim := { program := "ytddacmgigolcbaa", sum := "d9f2130777c4daaeef0ed6d4a27d5a71df0d1eaa9aacd23fef44ddcdd2a9b495", func := "loop.example/g03003/laws.FnExactAddMeaning", spec := "fnExactAddMeaning", inPlace := ["slices.overlaps[loop.example/g03003/impl.Meaning]"], apart := false, narrowed := true }
def FnExactAddMeaningUptoSaid : Prop := fnExactAddMeaningUptoRow.holds Try.pinned (OpenSpec.upto fnExactAddMeaningSpec)

/-- 'laws.FnExactRightSlots', WHERE WHAT IT READS IS OF BULK AT MOST 1048576: true; the input reads as it did. -/
def fnExactRightSlotsUptoRow : OpenClaim := { program := "ytddacmgigolcbaa", sum := "d9f2130777c4daaeef0ed6d4a27d5a71df0d1eaa9aacd23fef44ddcdd2a9b495", func := "loop.example/g03003/laws.FnExactRightSlots", spec := "fnExactRightSlots", apart := false, narrowed := true }
def FnExactRightSlotsUptoSaid : Prop := fnExactRightSlotsUptoRow.holds Try.pinned (OpenSpec.upto fnExactRightSlotsSpec)

/-- 'laws.FnExactSealAll', WHERE WHAT IT READS IS OF BULK AT MOST 1048576: true; the input reads as it did. -/
def fnExactSealAllUptoRow : OpenClaim := { program := "ytddacmgigolcbaa", sum := "d9f2130777c4daaeef0ed6d4a27d5a71df0d1eaa9aacd23fef44ddcdd2a9b495", func := "loop.example/g03003/laws.FnExactSealAll", spec := "fnExactSealAll", apart := false, narrowed := true }
def FnExactSealAllUptoSaid : Prop := fnExactSealAllUptoRow.holds Try.pinned (OpenSpec.upto fnExactSealAllSpec)

/-- 'laws.FnExactParsePlay', WHERE WHAT IT READS IS OF BULK AT MOST 1048576: true; the input reads as it did. -/
def fnExactParsePlayUptoRow : OpenClaim := { program := "ytddacmgigolcbaa", sum := "d9f2130777c4daaeef0ed6d4a27d5a71df0d1eaa9aacd23fef44ddcdd2a9b495", func := "loop.example/g03003/laws.FnExactParsePlay", spec := "fnExactParsePlay", inPlace := ["internal/bytealg.IndexByteString", "internal/bytealg.IndexString"], recurses := true, named := ["internal/bytealg.MaxLen"], apart := false, narrowed := true }
def FnExactParsePlayUptoSaid : Prop := fnExactParsePlayUptoRow.holds Try.pinned (OpenSpec.upto fnExactParsePlaySpec)

/-- 'laws.FnExactIsPuzzle', WHERE WHAT IT READS IS OF BULK AT MOST 1048576: true; the input reads as it did. -/
def fnExactIsPuzzleUptoRow : OpenClaim := { program := "ytddacmgigolcbaa", sum := "d9f2130777c4daaeef0ed6d4a27d5a71df0d1eaa9aacd23fef44ddcdd2a9b495", func := "loop.example/g03003/laws.FnExactIsPuzzle", spec := "fnExactIsPuzzle", unfollowed := true, recurses := true, apart := false, narrowed := true }
def FnExactIsPuzzleUptoSaid : Prop := fnExactIsPuzzleUptoRow.holds Try.pinned (OpenSpec.upto fnExactIsPuzzleSpec)

/-- 'laws.FnExactHardOf', WHERE WHAT IT READS IS OF BULK AT MOST 1048576: true; the input reads as it did. -/
def fnExactHardOfUptoRow : OpenClaim := { program := "ytddacmgigolcbaa", sum := "d9f2130777c4daaeef0ed6d4a27d5a71df0d1eaa9aacd23fef44ddcdd2a9b495", func := "loop.example/g03003/laws.FnExactHardOf", spec := "fnExactHardOf", unfollowed := true, recurses := true, apart := false, narrowed := true }
def FnExactHardOfUptoSaid : Prop := fnExactHardOfUptoRow.holds Try.pinned (OpenSpec.upto fnExactHardOfSpec)

/-- 'laws.FnExactFitsClue', WHERE WHAT IT READS IS OF BULK AT MOST 1048576: true; the input reads as it did. -/
def fnExactFitsClueUptoRow : OpenClaim := { program := "ytddacmgigolcbaa", sum := "d9f2130777c4daaeef0ed6d4a27d5a71df0d1eaa9aacd23fef44ddcdd2a9b495", func := "loop.example/g03003/laws.FnExactFitsClue", spec := "fnExactFitsClue", recurses := true, apart := false, narrowed := true }
def FnExactFitsClueUptoSaid : Prop := fnExactFitsClueUptoRow.holds Try.pinned (OpenSpec.upto fnExactFitsClueSpec)

/-- 'laws.FnExactIsSolved', WHERE WHAT IT READS IS OF BULK AT MOST 1048576: true; the input reads as it did. -/
def fnExactIsSolvedUptoRow : OpenClaim := { program := "ytddacmgigolcbaa", sum := "d9f2130777c4daaeef0ed6d4a27d5a71df0d1eaa9aacd23fef44ddcdd2a9b495", func := "loop.example/g03003/laws.FnExactIsSolved", spec := "fnExactIsSolved", unfollowed := true, recurses := true, apart := false, narrowed := true }
def FnExactIsSolvedUptoSaid : Prop := fnExactIsSolvedUptoRow.holds Try.pinned (OpenSpec.upto fnExactIsSolvedSpec)

end Rows
end Go.Proofs.Ytddacmgigolcbaa
