/-
  No cell of these rows narrows 'for every input' (looked for: loops, veiled, ifaces, maps, wideKeys, modest, calm, conditions, laid).
  DERIVED. THE GIVEN ROWS OF THIS SEAT. 6 by the template 'for every input the law returns true; each argument reads behind the call as it read before'; 0 by the template 'total and deterministic' (their statements: YtnfiedfaaaphoaaGreatTotals.lean).
  GIVEN WITH THE SEED: the statements are not yours to turn. If you find one false, say at which input.
  Laid BY PROGRAM, IN A SANDBOX (cutbox-rows.mjs): the forced cells as the released guide's own fill.sh prints them over the translation aa0316e318528065… (all of the seat's roots in one cut). By AI agents, Wed Nov 11 2026. No macro, syntax, notation, axiom, sorry.
-/
import Derived.Test.YtnfiedfaaaphoaaGreatChecked
import GoSem.Claim
import GoSem.ClaimJoined
import GoSem.ClaimMapViews
import Derived.JoinedTies
import Derived.KernelRfl
namespace Go.Proofs.YtnfiedfaaaphoaaGreat
/- THE CELL 'sum', in the pinned program and in every row, IS THE sha256 OF THE DUMP (.gsa) THAT YtnfiedfaaaphoaaGreatProg.lean LOADS. Nothing in Lean hashes anything: it is a label: what it is worth is what the hold of that sum in a sandbox is worth. -/
noncomputable def Tryz.pinned : Pinned := { name := "ytnfiedfaaaphoaagreat", sum := "aa0316e318528065368fb2506f609cabb8b87f6e184b8c89d385b1e399ab1db4", checked := Tryz.checked }
namespace Rows
def none {H : Type} : Left H := { results := [], args := [] }

/-- 'laws.FnExactPuzzleCode': WHATEVER THE INPUT: true; the input reads as it did. -/
def fnExactPuzzleCodeSpec : ChangeSpec := { name := "fnExactPuzzleCode", fn := fun _ => fun
  | [d1, d2, d3, d4, d5] => { results := [.lit (.bool true)], args := [d1, d2, d3, d4, d5] }
  | _ => none }
def fnExactPuzzleCodeRow : OpenClaim := { program := "ytnfiedfaaaphoaagreat", sum := "aa0316e318528065368fb2506f609cabb8b87f6e184b8c89d385b1e399ab1db4", func := "loop.example/g03003/laws.FnExactPuzzleCode", spec := "fnExactPuzzleCode", unfollowed := true, recurses := true, apart := false }
def FnExactPuzzleCodeSaid : Prop := fnExactPuzzleCodeRow.holds Tryz.pinned (OpenSpec.ofChange fnExactPuzzleCodeSpec)

/-- ITS FALSE NEIGHBOUR: 'it returns false'. Refute it at one input. -/
def fnExactPuzzleCodeWrong : ChangeSpec := { name := "fnExactPuzzleCode", fn := fun _ => fun
  | [d1, d2, d3, d4, d5] => { results := [.lit (.bool false)], args := [d1, d2, d3, d4, d5] }
  | _ => none }
def FnExactPuzzleCodeWrongFalsely : Prop := fnExactPuzzleCodeRow.holds Tryz.pinned (OpenSpec.ofChange fnExactPuzzleCodeWrong)

/-- 'laws.FnExactOneRound': WHATEVER THE INPUT: true; the input reads as it did. -/
def fnExactOneRoundSpec : ChangeSpec := { name := "fnExactOneRound", fn := fun _ => fun
  | [d1, d2, d3, d4, d5] => { results := [.lit (.bool true)], args := [d1, d2, d3, d4, d5] }
  | _ => none }
def fnExactOneRoundRow : OpenClaim := { program := "ytnfiedfaaaphoaagreat", sum := "aa0316e318528065368fb2506f609cabb8b87f6e184b8c89d385b1e399ab1db4", func := "loop.example/g03003/laws.FnExactOneRound", spec := "fnExactOneRound", unfollowed := true, recurses := true, apart := false }
def FnExactOneRoundSaid : Prop := fnExactOneRoundRow.holds Tryz.pinned (OpenSpec.ofChange fnExactOneRoundSpec)

/-- ITS FALSE NEIGHBOUR: 'it returns false'. Refute it at one input. -/
def fnExactOneRoundWrong : ChangeSpec := { name := "fnExactOneRound", fn := fun _ => fun
  | [d1, d2, d3, d4, d5] => { results := [.lit (.bool false)], args := [d1, d2, d3, d4, d5] }
  | _ => none }
def FnExactOneRoundWrongFalsely : Prop := fnExactOneRoundRow.holds Tryz.pinned (OpenSpec.ofChange fnExactOneRoundWrong)

/-- 'laws.FnExactClueDomains': WHATEVER THE INPUT: true; the input reads as it did. -/
def fnExactClueDomainsSpec : ChangeSpec := { name := "fnExactClueDomains", fn := fun _ => fun
  | [d1, d2, d3, d4] => { results := [.lit (.bool true)], args := [d1, d2, d3, d4] }
  | _ => none }
def fnExactClueDomainsRow : OpenClaim := { program := "ytnfiedfaaaphoaagreat", sum := "aa0316e318528065368fb2506f609cabb8b87f6e184b8c89d385b1e399ab1db4", func := "loop.example/g03003/laws.FnExactClueDomains", spec := "fnExactClueDomains", unfollowed := true, recurses := true, apart := false }
def FnExactClueDomainsSaid : Prop := fnExactClueDomainsRow.holds Tryz.pinned (OpenSpec.ofChange fnExactClueDomainsSpec)

/-- ITS FALSE NEIGHBOUR: 'it returns false'. Refute it at one input. -/
def fnExactClueDomainsWrong : ChangeSpec := { name := "fnExactClueDomains", fn := fun _ => fun
  | [d1, d2, d3, d4] => { results := [.lit (.bool false)], args := [d1, d2, d3, d4] }
  | _ => none }
def FnExactClueDomainsWrongFalsely : Prop := fnExactClueDomainsRow.holds Tryz.pinned (OpenSpec.ofChange fnExactClueDomainsWrong)

/-- 'laws.FnExactSolvePuzzle': WHATEVER THE INPUT: true; the input reads as it did. -/
def fnExactSolvePuzzleSpec : ChangeSpec := { name := "fnExactSolvePuzzle", fn := fun _ => fun
  | [d1, d2, d3, d4] => { results := [.lit (.bool true)], args := [d1, d2, d3, d4] }
  | _ => none }
def fnExactSolvePuzzleRow : OpenClaim := { program := "ytnfiedfaaaphoaagreat", sum := "aa0316e318528065368fb2506f609cabb8b87f6e184b8c89d385b1e399ab1db4", func := "loop.example/g03003/laws.FnExactSolvePuzzle", spec := "fnExactSolvePuzzle", unfollowed := true, recurses := true, apart := false }
def FnExactSolvePuzzleSaid : Prop := fnExactSolvePuzzleRow.holds Tryz.pinned (OpenSpec.ofChange fnExactSolvePuzzleSpec)

/-- ITS FALSE NEIGHBOUR: 'it returns false'. Refute it at one input. -/
def fnExactSolvePuzzleWrong : ChangeSpec := { name := "fnExactSolvePuzzle", fn := fun _ => fun
  | [d1, d2, d3, d4] => { results := [.lit (.bool false)], args := [d1, d2, d3, d4] }
  | _ => none }
def FnExactSolvePuzzleWrongFalsely : Prop := fnExactSolvePuzzleRow.holds Tryz.pinned (OpenSpec.ofChange fnExactSolvePuzzleWrong)

/-- 'laws.FnExactPrunedDomains': WHATEVER THE INPUT: true; the input reads as it did. -/
def fnExactPrunedDomainsSpec : ChangeSpec := { name := "fnExactPrunedDomains", fn := fun _ => fun
  | [d1, d2, d3, d4] => { results := [.lit (.bool true)], args := [d1, d2, d3, d4] }
  | _ => none }
def fnExactPrunedDomainsRow : OpenClaim := { program := "ytnfiedfaaaphoaagreat", sum := "aa0316e318528065368fb2506f609cabb8b87f6e184b8c89d385b1e399ab1db4", func := "loop.example/g03003/laws.FnExactPrunedDomains", spec := "fnExactPrunedDomains", unfollowed := true, recurses := true, apart := false }
def FnExactPrunedDomainsSaid : Prop := fnExactPrunedDomainsRow.holds Tryz.pinned (OpenSpec.ofChange fnExactPrunedDomainsSpec)

/-- ITS FALSE NEIGHBOUR: 'it returns false'. Refute it at one input. -/
def fnExactPrunedDomainsWrong : ChangeSpec := { name := "fnExactPrunedDomains", fn := fun _ => fun
  | [d1, d2, d3, d4] => { results := [.lit (.bool false)], args := [d1, d2, d3, d4] }
  | _ => none }
def FnExactPrunedDomainsWrongFalsely : Prop := fnExactPrunedDomainsRow.holds Tryz.pinned (OpenSpec.ofChange fnExactPrunedDomainsWrong)

/-- 'laws.FnExactMakePuzzle': WHATEVER THE INPUT: true; the input reads as it did. -/
def fnExactMakePuzzleSpec : ChangeSpec := { name := "fnExactMakePuzzle", fn := fun _ => fun
  | [d1, d2, d3, d4, d5, d6] => { results := [.lit (.bool true)], args := [d1, d2, d3, d4, d5, d6] }
  | _ => none }
def fnExactMakePuzzleRow : OpenClaim := { program := "ytnfiedfaaaphoaagreat", sum := "aa0316e318528065368fb2506f609cabb8b87f6e184b8c89d385b1e399ab1db4", func := "loop.example/g03003/laws.FnExactMakePuzzle", spec := "fnExactMakePuzzle", unfollowed := true, recurses := true, apart := false }
def FnExactMakePuzzleSaid : Prop := fnExactMakePuzzleRow.holds Tryz.pinned (OpenSpec.ofChange fnExactMakePuzzleSpec)

/-- ITS FALSE NEIGHBOUR: 'it returns false'. Refute it at one input. -/
def fnExactMakePuzzleWrong : ChangeSpec := { name := "fnExactMakePuzzle", fn := fun _ => fun
  | [d1, d2, d3, d4, d5, d6] => { results := [.lit (.bool false)], args := [d1, d2, d3, d4, d5, d6] }
  | _ => none }
def FnExactMakePuzzleWrongFalsely : Prop := fnExactMakePuzzleRow.holds Tryz.pinned (OpenSpec.ofChange fnExactMakePuzzleWrong)

/- THE SECOND FORM. 'bulk': how many values and letters a reading holds, each counted each time it is reached (what is shared counts as often as it is met; a slice's spare places count too). A statement '..UptoSaid' is the law's where the arguments, and the package variables that the reading takes, are together of bulk at most 1048576: NARROWER than '..Said'. Prove '..Said' where nothing that the law and all that it calls make is longer than what came in: it says more and counts as full. Else prove '..UptoSaid'. A law counts once. -/
mutual
def uptoBulk {H : Type} : DataW H → Nat
  | .lit (.string bytes) => bytes.length + 1
  | .lit _ => 1
  | .nil => 1
  | .ptr d => uptoBulk d + 1
  | .slice elems spare => uptoBulkAll elems + uptoBulkAll spare + 1
  | .agg parts => uptoBulkAll parts + 1
  | .iface _ d => uptoBulk d + 1
  | .map entries => uptoBulkEntries entries + 1
  | .held _ => 1
def uptoBulkAll {H : Type} : List (DataW H) → Nat
  | [] => 0
  | d :: r => uptoBulk d + uptoBulkAll r
def uptoBulkEntries {H : Type} : List (Lit × DataW H) → Nat
  | [] => 0
  | x :: r => uptoBulkEntry x + uptoBulkEntries r
def uptoBulkEntry {H : Type} : Lit × DataW H → Nat
  | (.string bytes, d) => bytes.length + uptoBulk d + 1
  | (_, d) => uptoBulk d + 1
 end
def uptoSmall : (H : Type) → List (DataW H) → Bool := fun _ ds => decide (uptoBulkAll ds ≤ 1048576)
def OpenSpec.upto (s : _root_.Go.ChangeSpec) : _root_.Go.OpenSpec := { _root_.Go.OpenSpec.ofChange s with cond := some uptoSmall }

/-- 'laws.FnExactPuzzleCode', WHERE WHAT IT READS IS OF BULK AT MOST 1048576: true; the input reads as it did. -/
def fnExactPuzzleCodeUptoRow : OpenClaim := { program := "ytnfiedfaaaphoaagreat", sum := "aa0316e318528065368fb2506f609cabb8b87f6e184b8c89d385b1e399ab1db4", func := "loop.example/g03003/laws.FnExactPuzzleCode", spec := "fnExactPuzzleCode", unfollowed := true, recurses := true, apart := false, narrowed := true }
def FnExactPuzzleCodeUptoSaid : Prop := fnExactPuzzleCodeUptoRow.holds Tryz.pinned (OpenSpec.upto fnExactPuzzleCodeSpec)

/-- 'laws.FnExactOneRound', WHERE WHAT IT READS IS OF BULK AT MOST 1048576: true; the input reads as it did. -/
def fnExactOneRoundUptoRow : OpenClaim := { program := "ytnfiedfaaaphoaagreat", sum := "aa0316e318528065368fb2506f609cabb8b87f6e184b8c89d385b1e399ab1db4", func := "loop.example/g03003/laws.FnExactOneRound", spec := "fnExactOneRound", unfollowed := true, recurses := true, apart := false, narrowed := true }
def FnExactOneRoundUptoSaid : Prop := fnExactOneRoundUptoRow.holds Tryz.pinned (OpenSpec.upto fnExactOneRoundSpec)

/-- 'laws.FnExactClueDomains', WHERE WHAT IT READS IS OF BULK AT MOST 1048576: true; the input reads as it did. -/
def fnExactClueDomainsUptoRow : OpenClaim := { program := "ytnfiedfaaaphoaagreat", sum := "aa0316e318528065368fb2506f609cabb8b87f6e184b8c89d385b1e399ab1db4", func := "loop.example/g03003/laws.FnExactClueDomains", spec := "fnExactClueDomains", unfollowed := true, recurses := true, apart := false, narrowed := true }
def FnExactClueDomainsUptoSaid : Prop := fnExactClueDomainsUptoRow.holds Tryz.pinned (OpenSpec.upto fnExactClueDomainsSpec)

/-- 'laws.FnExactSolvePuzzle', WHERE WHAT IT READS IS OF BULK AT MOST 1048576: true; the input reads as it did. -/
def fnExactSolvePuzzleUptoRow : OpenClaim := { program := "ytnfiedfaaaphoaagreat", sum := "aa0316e318528065368fb2506f609cabb8b87f6e184b8c89d385b1e399ab1db4", func := "loop.example/g03003/laws.FnExactSolvePuzzle", spec := "fnExactSolvePuzzle", unfollowed := true, recurses := true, apart := false, narrowed := true }
def FnExactSolvePuzzleUptoSaid : Prop := fnExactSolvePuzzleUptoRow.holds Tryz.pinned (OpenSpec.upto fnExactSolvePuzzleSpec)

/-- 'laws.FnExactPrunedDomains', WHERE WHAT IT READS IS OF BULK AT MOST 1048576: true; the input reads as it did. -/
def fnExactPrunedDomainsUptoRow : OpenClaim := { program := "ytnfiedfaaaphoaagreat", sum := "aa0316e318528065368fb2506f609cabb8b87f6e184b8c89d385b1e399ab1db4", func := "loop.example/g03003/laws.FnExactPrunedDomains", spec := "fnExactPrunedDomains", unfollowed := true, recurses := true, apart := false, narrowed := true }
def FnExactPrunedDomainsUptoSaid : Prop := fnExactPrunedDomainsUptoRow.holds Tryz.pinned (OpenSpec.upto fnExactPrunedDomainsSpec)

/-- 'laws.FnExactMakePuzzle', WHERE WHAT IT READS IS OF BULK AT MOST 1048576: true; the input reads as it did. -/
def fnExactMakePuzzleUptoRow : OpenClaim := { program := "ytnfiedfaaaphoaagreat", sum := "aa0316e318528065368fb2506f609cabb8b87f6e184b8c89d385b1e399ab1db4", func := "loop.example/g03003/laws.FnExactMakePuzzle", spec := "fnExactMakePuzzle", unfollowed := true, recurses := true, apart := false, narrowed := true }
def FnExactMakePuzzleUptoSaid : Prop := fnExactMakePuzzleUptoRow.holds Tryz.pinned (OpenSpec.upto fnExactMakePuzzleSpec)

end Rows
end Go.Proofs.YtnfiedfaaaphoaaGreat
