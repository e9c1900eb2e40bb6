/-
  No cell of these rows narrows 'for every input' (looked for: loops, veiled, ifaces, maps, wideKeys, modest, calm, conditions, laid).
  DERIVED. THE GIVEN ROWS OF THIS SEAT. 4 by the template 'for every input the law returns true; each argument reads behind the call as it read before'; 0 by the template 'total and deterministic' (their statements: YtikmdgmnhbodjaaGreatTotals.lean).
  GIVEN WITH THE SEED: the statements are not yours to turn. If you find one false, say at which input.
  Laid BY PROGRAM, IN A SANDBOX (cutbox-rows.mjs): the forced cells as the released guide's own fill.sh prints them over the translation aab8aff48eadfabd… (all of the seat's roots in one cut). By AI agents, Wed Nov 11 2026. No macro, syntax, notation, axiom, sorry.
-/
import Derived.Test.YtikmdgmnhbodjaaGreatChecked
import GoSem.Claim
import GoSem.ClaimJoined
import GoSem.ClaimMapViews
import Derived.JoinedTies
import Derived.KernelRfl
namespace Go.Proofs.YtikmdgmnhbodjaaGreat
/- THE CELL 'sum', in the pinned program and in every row, IS THE sha256 OF THE DUMP (.gsa) THAT YtikmdgmnhbodjaaGreatProg.lean LOADS. Nothing in Lean hashes anything: it is a label: what it is worth is what the hold of that sum in a sandbox is worth. -/
noncomputable def Tryz.pinned : Pinned := { name := "ytikmdgmnhbodjaagreat", sum := "aab8aff48eadfabdf1bf68cdeecbc7f868a81d838aa38c88f6f4c2115244cb83", checked := Tryz.checked }
namespace Rows
def none {H : Type} : Left H := { results := [], args := [] }

/-- 'laws.FnExactClueDomains': WHATEVER THE INPUT: true; the input reads as it did. -/
def fnExactClueDomainsSpec : ChangeSpec := { name := "fnExactClueDomains", fn := fun _ => fun
  | [d1, d2, d3, d4] => { results := [.lit (.bool true)], args := [d1, d2, d3, d4] }
  | _ => none }
def fnExactClueDomainsRow : OpenClaim := { program := "ytikmdgmnhbodjaagreat", sum := "aab8aff48eadfabdf1bf68cdeecbc7f868a81d838aa38c88f6f4c2115244cb83", func := "loop.example/g03003/laws.FnExactClueDomains", spec := "fnExactClueDomains", unfollowed := true, recurses := true, apart := false }
def FnExactClueDomainsSaid : Prop := fnExactClueDomainsRow.holds Tryz.pinned (OpenSpec.ofChange fnExactClueDomainsSpec)

/-- ITS FALSE NEIGHBOUR: 'it returns false'. Refute it at one input. -/
def fnExactClueDomainsWrong : ChangeSpec := { name := "fnExactClueDomains", fn := fun _ => fun
  | [d1, d2, d3, d4] => { results := [.lit (.bool false)], args := [d1, d2, d3, d4] }
  | _ => none }
def FnExactClueDomainsWrongFalsely : Prop := fnExactClueDomainsRow.holds Tryz.pinned (OpenSpec.ofChange fnExactClueDomainsWrong)

/-- 'laws.FnExactPrunedDomains': WHATEVER THE INPUT: true; the input reads as it did. -/
def fnExactPrunedDomainsSpec : ChangeSpec := { name := "fnExactPrunedDomains", fn := fun _ => fun
  | [d1, d2, d3, d4] => { results := [.lit (.bool true)], args := [d1, d2, d3, d4] }
  | _ => none }
def fnExactPrunedDomainsRow : OpenClaim := { program := "ytikmdgmnhbodjaagreat", sum := "aab8aff48eadfabdf1bf68cdeecbc7f868a81d838aa38c88f6f4c2115244cb83", func := "loop.example/g03003/laws.FnExactPrunedDomains", spec := "fnExactPrunedDomains", unfollowed := true, recurses := true, apart := false }
def FnExactPrunedDomainsSaid : Prop := fnExactPrunedDomainsRow.holds Tryz.pinned (OpenSpec.ofChange fnExactPrunedDomainsSpec)

/-- ITS FALSE NEIGHBOUR: 'it returns false'. Refute it at one input. -/
def fnExactPrunedDomainsWrong : ChangeSpec := { name := "fnExactPrunedDomains", fn := fun _ => fun
  | [d1, d2, d3, d4] => { results := [.lit (.bool false)], args := [d1, d2, d3, d4] }
  | _ => none }
def FnExactPrunedDomainsWrongFalsely : Prop := fnExactPrunedDomainsRow.holds Tryz.pinned (OpenSpec.ofChange fnExactPrunedDomainsWrong)

/-- 'laws.FnExactMakePuzzle': WHATEVER THE INPUT: true; the input reads as it did. -/
def fnExactMakePuzzleSpec : ChangeSpec := { name := "fnExactMakePuzzle", fn := fun _ => fun
  | [d1, d2, d3, d4, d5, d6] => { results := [.lit (.bool true)], args := [d1, d2, d3, d4, d5, d6] }
  | _ => none }
def fnExactMakePuzzleRow : OpenClaim := { program := "ytikmdgmnhbodjaagreat", sum := "aab8aff48eadfabdf1bf68cdeecbc7f868a81d838aa38c88f6f4c2115244cb83", func := "loop.example/g03003/laws.FnExactMakePuzzle", spec := "fnExactMakePuzzle", unfollowed := true, recurses := true, apart := false }
def FnExactMakePuzzleSaid : Prop := fnExactMakePuzzleRow.holds Tryz.pinned (OpenSpec.ofChange fnExactMakePuzzleSpec)

/-- ITS FALSE NEIGHBOUR: 'it returns false'. Refute it at one input. -/
def fnExactMakePuzzleWrong : ChangeSpec := { name := "fnExactMakePuzzle", fn := fun _ => fun
  | [d1, d2, d3, d4, d5, d6] => { results := [.lit (.bool false)], args := [d1, d2, d3, d4, d5, d6] }
  | _ => none }
def FnExactMakePuzzleWrongFalsely : Prop := fnExactMakePuzzleRow.holds Tryz.pinned (OpenSpec.ofChange fnExactMakePuzzleWrong)

/-- 'laws.FnExactSolvePuzzle': WHATEVER THE INPUT: true; the input reads as it did. -/
def fnExactSolvePuzzleSpec : ChangeSpec := { name := "fnExactSolvePuzzle", fn := fun _ => fun
  | [d1, d2, d3, d4] => { results := [.lit (.bool true)], args := [d1, d2, d3, d4] }
  | _ => none }
def fnExactSolvePuzzleRow : OpenClaim := { program := "ytikmdgmnhbodjaagreat", sum := "aab8aff48eadfabdf1bf68cdeecbc7f868a81d838aa38c88f6f4c2115244cb83", func := "loop.example/g03003/laws.FnExactSolvePuzzle", spec := "fnExactSolvePuzzle", unfollowed := true, recurses := true, apart := false }
def FnExactSolvePuzzleSaid : Prop := fnExactSolvePuzzleRow.holds Tryz.pinned (OpenSpec.ofChange fnExactSolvePuzzleSpec)

/-- ITS FALSE NEIGHBOUR: 'it returns false'. Refute it at one input. -/
def fnExactSolvePuzzleWrong : ChangeSpec := { name := "fnExactSolvePuzzle", fn := fun _ => fun
  | [d1, d2, d3, d4] => { results := [.lit (.bool false)], args := [d1, d2, d3, d4] }
  | _ => none }
def FnExactSolvePuzzleWrongFalsely : Prop := fnExactSolvePuzzleRow.holds Tryz.pinned (OpenSpec.ofChange fnExactSolvePuzzleWrong)

/- THE SECOND FORM. 'bulk': how many values and letters a reading holds, each counted each time it is reached (what is shared counts as often as it is met; a slice's spare places count too). A statement '..UptoSaid' is the law's where the arguments, and the package variables that the reading takes, are together of bulk at most 1048576: NARROWER than '..Said'. Prove '..Said' where nothing that the law and all that it calls make is longer than what came in: it says more and counts as full. Else prove '..UptoSaid'. A law counts once. -/
mutual
def uptoBulk {H : Type} : DataW H → Nat
  | .lit (.string bytes) => bytes.length + 1
  | .lit _ => 1
  | .nil => 1
  | .ptr d => uptoBulk d + 1
  | .slice elems spare => uptoBulkAll elems + uptoBulkAll spare + 1
  | .agg parts => uptoBulkAll parts + 1
  | .iface _ d => uptoBulk d + 1
  | .map entries => uptoBulkEntries entries + 1
  | .held _ => 1
def uptoBulkAll {H : Type} : List (DataW H) → Nat
  | [] => 0
  | d :: r => uptoBulk d + uptoBulkAll r
def uptoBulkEntries {H : Type} : List (Lit × DataW H) → Nat
  | [] => 0
  | x :: r => uptoBulkEntry x + uptoBulkEntries r
def uptoBulkEntry {H : Type} : Lit × DataW H → Nat
  | (.string bytes, d) => bytes.length + uptoBulk d + 1
  | (_, d) => uptoBulk d + 1
 end
def uptoSmall : (H : Type) → List (DataW H) → Bool := fun _ ds => decide (uptoBulkAll ds ≤ 1048576)
def OpenSpec.upto (s : _root_.Go.ChangeSpec) : _root_.Go.OpenSpec := { _root_.Go.OpenSpec.ofChange s with cond := some uptoSmall }

/-- 'laws.FnExactClueDomains', WHERE WHAT IT READS IS OF BULK AT MOST 1048576: true; the input reads as it did. -/
def fnExactClueDomainsUptoRow : OpenClaim := { program := "ytikmdgmnhbodjaagreat", sum := "aab8aff48eadfabdf1bf68cdeecbc7f868a81d838aa38c88f6f4c2115244cb83", func := "loop.example/g03003/laws.FnExactClueDomains", spec := "fnExactClueDomains", unfollowed := true, recurses := true, apart := false, narrowed := true }
def FnExactClueDomainsUptoSaid : Prop := fnExactClueDomainsUptoRow.holds Tryz.pinned (OpenSpec.upto fnExactClueDomainsSpec)

/-- 'laws.FnExactPrunedDomains', WHERE WHAT IT READS IS OF BULK AT MOST 1048576: true; the input reads as it did. -/
def fnExactPrunedDomainsUptoRow : OpenClaim := { program := "ytikmdgmnhbodjaagreat", sum := "aab8aff48eadfabdf1bf68cdeecbc7f868a81d838aa38c88f6f4c2115244cb83", func := "loop.example/g03003/laws.FnExactPrunedDomains", spec := "fnExactPrunedDomains", unfollowed := true, recurses := true, apart := false, narrowed := true }
def FnExactPrunedDomainsUptoSaid : Prop := fnExactPrunedDomainsUptoRow.holds Tryz.pinned (OpenSpec.upto fnExactPrunedDomainsSpec)

/-- 'laws.FnExactMakePuzzle', WHERE WHAT IT READS IS OF BULK AT MOST 1048576: true; the input reads as it did. -/
def fnExactMakePuzzleUptoRow : OpenClaim := { program := "ytikmdgmnhbodjaagreat", sum := "aab8aff48eadfabdf1bf68cdeecbc7f868a81d838aa38c88f6f4c2115244cb83", func := "loop.example/g03003/laws.FnExactMakePuzzle", spec := "fnExactMakePuzzle", unfollowed := true, recurses := true, apart := false, narrowed := true }
def FnExactMakePuzzleUptoSaid : Prop := fnExactMakePuzzleUptoRow.holds Tryz.pinned (OpenSpec.upto fnExactMakePuzzleSpec)

/-- 'laws.FnExactSolvePuzzle', WHERE WHAT IT READS IS OF BULK AT MOST 1048576: true; the input reads as it did. -/
def fnExactSolvePuzzleUptoRow : OpenClaim := { program := "ytikmdgmnhbodjaagreat", sum := "aab8aff48eadfabdf1bf68cdeecbc7f868a81d838aa38c88f6f4c2115244cb83", func := "loop.example/g03003/laws.FnExactSolvePuzzle", spec := "fnExactSolvePuzzle", unfollowed := true, recurses := true, apart := false, narrowed := true }
def FnExactSolvePuzzleUptoSaid : Prop := fnExactSolvePuzzleUptoRow.holds Tryz.pinned (OpenSpec.upto fnExactSolvePuzzleSpec)

end Rows
end Go.Proofs.YtikmdgmnhbodjaaGreat
