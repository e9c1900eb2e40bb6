/-
  No cell of these rows narrows 'for every input' (looked for: loops, veiled, ifaces, maps, wideKeys, modest, calm, conditions, laid).
  DERIVED. THE GIVEN ROWS OF THIS SEAT. 6 by the template 'for every input the law returns true; each argument reads behind the call as it read before'; 0 by the template 'total and deterministic' (their statements: YtbjflnkmnamklaaTotals.lean).
  GIVEN WITH THE SEED: the statements are not yours to turn. If you find one false, say at which input.
  Laid BY PROGRAM, IN A SANDBOX (cutbox-rows.mjs): the forced cells as the released guide's own fill.sh prints them over the translation 6414663cfc535a18… (all of the seat's roots in one cut). By AI agents, Wed Nov 11 2026. No macro, syntax, notation, axiom, sorry.
-/
import Derived.Test.YtbjflnkmnamklaaChecked
import GoSem.Claim
import GoSem.ClaimJoined
import GoSem.ClaimMapViews
import Derived.JoinedTies
import Derived.KernelRfl
namespace Go.Proofs.Ytbjflnkmnamklaa
/- THE CELL 'sum', in the pinned program and in every row, IS THE sha256 OF THE DUMP (.gsa) THAT YtbjflnkmnamklaaProg.lean LOADS. Nothing in Lean hashes anything: it is a label: what it is worth is what the hold of that sum in a sandbox is worth. -/
noncomputable def Try.pinned : Pinned := { name := "ytbjflnkmnamklaa", sum := "6414663cfc535a18a95a20a8640bd88b17b64114cc44ee28376ae143c23560d4", checked := Try.checked }
namespace Rows
def none {H : Type} : Left H := { results := [], args := [] }

/-- 'laws.FnExactCostOf': WHATEVER THE INPUT: true; the input reads as it did. -/
def fnExactCostOfSpec : ChangeSpec := { name := "fnExactCostOf", fn := fun _ => fun
  | [d] => { results := [.lit (.bool true)], args := [d] }
  | _ => none }
def fnExactCostOfRow : OpenClaim := { program := "ytbjflnkmnamklaa", sum := "6414663cfc535a18a95a20a8640bd88b17b64114cc44ee28376ae143c23560d4", func := "loop.example/g03003/laws.FnExactCostOf", spec := "fnExactCostOf", apart := false }
def FnExactCostOfSaid : Prop := fnExactCostOfRow.holds Try.pinned (OpenSpec.ofChange fnExactCostOfSpec)

/-- ITS FALSE NEIGHBOUR: 'it returns false'. Refute it at one input. -/
def fnExactCostOfWrong : ChangeSpec := { name := "fnExactCostOf", fn := fun _ => fun
  | [d] => { results := [.lit (.bool false)], args := [d] }
  | _ => none }
def FnExactCostOfWrongFalsely : Prop := fnExactCostOfRow.holds Try.pinned (OpenSpec.ofChange fnExactCostOfWrong)

/-- 'laws.FnExactFairName': WHATEVER THE INPUT: true; the input reads as it did. -/
def fnExactFairNameSpec : ChangeSpec := { name := "fnExactFairName", fn := fun _ => fun
  | [d] => { results := [.lit (.bool true)], args := [d] }
  | _ => none }
def fnExactFairNameRow : OpenClaim := { program := "ytbjflnkmnamklaa", sum := "6414663cfc535a18a95a20a8640bd88b17b64114cc44ee28376ae143c23560d4", func := "loop.example/g03003/laws.FnExactFairName", spec := "fnExactFairName", apart := false }
def FnExactFairNameSaid : Prop := fnExactFairNameRow.holds Try.pinned (OpenSpec.ofChange fnExactFairNameSpec)

/-- ITS FALSE NEIGHBOUR: 'it returns false'. Refute it at one input. -/
def fnExactFairNameWrong : ChangeSpec := { name := "fnExactFairName", fn := fun _ => fun
  | [d] => { results := [.lit (.bool false)], args := [d] }
  | _ => none }
def FnExactFairNameWrongFalsely : Prop := fnExactFairNameRow.holds Try.pinned (OpenSpec.ofChange fnExactFairNameWrong)

/-- 'laws.FnExactHalfName': WHATEVER THE INPUT: true; the input reads as it did. -/
def fnExactHalfNameSpec : ChangeSpec := { name := "fnExactHalfName", fn := fun _ => fun
  | [d] => { results := [.lit (.bool true)], args := [d] }
  | _ => none }
def fnExactHalfNameRow : OpenClaim := { program := "ytbjflnkmnamklaa", sum := "6414663cfc535a18a95a20a8640bd88b17b64114cc44ee28376ae143c23560d4", func := "loop.example/g03003/laws.FnExactHalfName", spec := "fnExactHalfName", apart := false }
def FnExactHalfNameSaid : Prop := fnExactHalfNameRow.holds Try.pinned (OpenSpec.ofChange fnExactHalfNameSpec)

/-- ITS FALSE NEIGHBOUR: 'it returns false'. Refute it at one input. -/
def fnExactHalfNameWrong : ChangeSpec := { name := "fnExactHalfName", fn := fun _ => fun
  | [d] => { results := [.lit (.bool false)], args := [d] }
  | _ => none }
def FnExactHalfNameWrongFalsely : Prop := fnExactHalfNameRow.holds Try.pinned (OpenSpec.ofChange fnExactHalfNameWrong)

/-- 'laws.FnExactHintName': WHATEVER THE INPUT: true; the input reads as it did. -/
def fnExactHintNameSpec : ChangeSpec := { name := "fnExactHintName", fn := fun _ => fun
  | [d] => { results := [.lit (.bool true)], args := [d] }
  | _ => none }
def fnExactHintNameRow : OpenClaim := { program := "ytbjflnkmnamklaa", sum := "6414663cfc535a18a95a20a8640bd88b17b64114cc44ee28376ae143c23560d4", func := "loop.example/g03003/laws.FnExactHintName", spec := "fnExactHintName", apart := false }
def FnExactHintNameSaid : Prop := fnExactHintNameRow.holds Try.pinned (OpenSpec.ofChange fnExactHintNameSpec)

/-- ITS FALSE NEIGHBOUR: 'it returns false'. Refute it at one input. -/
def fnExactHintNameWrong : ChangeSpec := { name := "fnExactHintName", fn := fun _ => fun
  | [d] => { results := [.lit (.bool false)], args := [d] }
  | _ => none }
def FnExactHintNameWrongFalsely : Prop := fnExactHintNameRow.holds Try.pinned (OpenSpec.ofChange fnExactHintNameWrong)

/-- 'laws.FnExactKindName': WHATEVER THE INPUT: true; the input reads as it did. -/
def fnExactKindNameSpec : ChangeSpec := { name := "fnExactKindName", fn := fun _ => fun
  | [d] => { results := [.lit (.bool true)], args := [d] }
  | _ => none }
def fnExactKindNameRow : OpenClaim := { program := "ytbjflnkmnamklaa", sum := "6414663cfc535a18a95a20a8640bd88b17b64114cc44ee28376ae143c23560d4", func := "loop.example/g03003/laws.FnExactKindName", spec := "fnExactKindName", apart := false }
def FnExactKindNameSaid : Prop := fnExactKindNameRow.holds Try.pinned (OpenSpec.ofChange fnExactKindNameSpec)

/-- ITS FALSE NEIGHBOUR: 'it returns false'. Refute it at one input. -/
def fnExactKindNameWrong : ChangeSpec := { name := "fnExactKindName", fn := fun _ => fun
  | [d] => { results := [.lit (.bool false)], args := [d] }
  | _ => none }
def FnExactKindNameWrongFalsely : Prop := fnExactKindNameRow.holds Try.pinned (OpenSpec.ofChange fnExactKindNameWrong)

/-- 'laws.FnExactPuzzleName': WHATEVER THE INPUT: true; the input reads as it did. -/
def fnExactPuzzleNameSpec : ChangeSpec := { name := "fnExactPuzzleName", fn := fun _ => fun
  | [d] => { results := [.lit (.bool true)], args := [d] }
  | _ => none }
def fnExactPuzzleNameRow : OpenClaim := { program := "ytbjflnkmnamklaa", sum := "6414663cfc535a18a95a20a8640bd88b17b64114cc44ee28376ae143c23560d4", func := "loop.example/g03003/laws.FnExactPuzzleName", spec := "fnExactPuzzleName", apart := false }
def FnExactPuzzleNameSaid : Prop := fnExactPuzzleNameRow.holds Try.pinned (OpenSpec.ofChange fnExactPuzzleNameSpec)

/-- ITS FALSE NEIGHBOUR: 'it returns false'. Refute it at one input. -/
def fnExactPuzzleNameWrong : ChangeSpec := { name := "fnExactPuzzleName", fn := fun _ => fun
  | [d] => { results := [.lit (.bool false)], args := [d] }
  | _ => none }
def FnExactPuzzleNameWrongFalsely : Prop := fnExactPuzzleNameRow.holds Try.pinned (OpenSpec.ofChange fnExactPuzzleNameWrong)

/- THE SECOND FORM. 'bulk': how many values and letters a reading holds, each counted each time it is reached (what is shared counts as often as it is met; a slice's spare places count too). A statement '..UptoSaid' is the law's where the arguments, and the package variables that the reading takes, are together of bulk at most 1048576: NARROWER than '..Said'. Prove '..Said' where nothing that the law and all that it calls make is longer than what came in: it says more and counts as full. Else prove '..UptoSaid'. A law counts once. -/
mutual
def uptoBulk {H : Type} : DataW H → Nat
  | .lit (.string bytes) => bytes.length + 1
  | .lit _ => 1
  | .nil => 1
  | .ptr d => uptoBulk d + 1
  | .slice elems spare => uptoBulkAll elems + uptoBulkAll spare + 1
  | .agg parts => uptoBulkAll parts + 1
  | .iface _ d => uptoBulk d + 1
  | .map entries => uptoBulkEntries entries + 1
  | .held _ => 1
def uptoBulkAll {H : Type} : List (DataW H) → Nat
  | [] => 0
  | d :: r => uptoBulk d + uptoBulkAll r
def uptoBulkEntries {H : Type} : List (Lit × DataW H) → Nat
  | [] => 0
  | x :: r => uptoBulkEntry x + uptoBulkEntries r
def uptoBulkEntry {H : Type} : Lit × DataW H → Nat
  | (.string bytes, d) => bytes.length + uptoBulk d + 1
  | (_, d) => uptoBulk d + 1
 end
def uptoSmall : (H : Type) → List (DataW H) → Bool := fun _ ds => decide (uptoBulkAll ds ≤ 1048576)
def OpenSpec.upto (s : _root_.Go.ChangeSpec) : _root_.Go.OpenSpec := { _root_.Go.OpenSpec.ofChange s with cond := some uptoSmall }

/-- 'laws.FnExactCostOf', WHERE WHAT IT READS IS OF BULK AT MOST 1048576: true; the input reads as it did. -/
def fnExactCostOfUptoRow : OpenClaim := { program := "ytbjflnkmnamklaa", sum := "6414663cfc535a18a95a20a8640bd88b17b64114cc44ee28376ae143c23560d4", func := "loop.example/g03003/laws.FnExactCostOf", spec := "fnExactCostOf", apart := false, narrowed := true }
def FnExactCostOfUptoSaid : Prop := fnExactCostOfUptoRow.holds Try.pinned (OpenSpec.upto fnExactCostOfSpec)

/-- 'laws.FnExactFairName', WHERE WHAT IT READS IS OF BULK AT MOST 1048576: true; the input reads as it did. -/
def fnExactFairNameUptoRow : OpenClaim := { program := "ytbjflnkmnamklaa", sum := "6414663cfc535a18a95a20a8640bd88b17b64114cc44ee28376ae143c23560d4", func := "loop.example/g03003/laws.FnExactFairName", spec := "fnExactFairName", apart := false, narrowed := true }
def FnExactFairNameUptoSaid : Prop := fnExactFairNameUptoRow.holds Try.pinned (OpenSpec.upto fnExactFairNameSpec)

/-- 'laws.FnExactHalfName', WHERE WHAT IT READS IS OF BULK AT MOST 1048576: true; the input reads as it did. -/
def fnExactHalfNameUptoRow : OpenClaim := { program := "ytbjflnkmnamklaa", sum := "6414663cfc535a18a95a20a8640bd88b17b64114cc44ee28376ae143c23560d4", func := "loop.example/g03003/laws.FnExactHalfName", spec := "fnExactHalfName", apart := false, narrowed := true }
def FnExactHalfNameUptoSaid : Prop := fnExactHalfNameUptoRow.holds Try.pinned (OpenSpec.upto fnExactHalfNameSpec)

/-- 'laws.FnExactHintName', WHERE WHAT IT READS IS OF BULK AT MOST 1048576: true; the input reads as it did. -/
def fnExactHintNameUptoRow : OpenClaim := { program := "ytbjflnkmnamklaa", sum := "6414663cfc535a18a95a20a8640bd88b17b64114cc44ee28376ae143c23560d4", func := "loop.example/g03003/laws.FnExactHintName", spec := "fnExactHintName", apart := false, narrowed := true }
def FnExactHintNameUptoSaid : Prop := fnExactHintNameUptoRow.holds Try.pinned (OpenSpec.upto fnExactHintNameSpec)

/-- 'laws.FnExactKindName', WHERE WHAT IT READS IS OF BULK AT MOST 1048576: true; the input reads as it did. -/
def fnExactKindNameUptoRow : OpenClaim := { program := "ytbjflnkmnamklaa", sum := "6414663cfc535a18a95a20a8640bd88b17b64114cc44ee28376ae143c23560d4", func := "loop.example/g03003/laws.FnExactKindName", spec := "fnExactKindName", apart := false, narrowed := true }
def FnExactKindNameUptoSaid : Prop := fnExactKindNameUptoRow.holds Try.pinned (OpenSpec.upto fnExactKindNameSpec)

/-- 'laws.FnExactPuzzleName', WHERE WHAT IT READS IS OF BULK AT MOST 1048576: true; the input reads as it did. -/
def fnExactPuzzleNameUptoRow : OpenClaim := { program := "ytbjflnkmnamklaa", sum := "6414663cfc535a18a95a20a8640bd88b17b64114cc44ee28376ae143c23560d4", func := "loop.example/g03003/laws.FnExactPuzzleName", spec := "fnExactPuzzleName", apart := false, narrowed := true }
def FnExactPuzzleNameUptoSaid : Prop := fnExactPuzzleNameUptoRow.holds Try.pinned (OpenSpec.upto fnExactPuzzleNameSpec)

end Rows
end Go.Proofs.Ytbjflnkmnamklaa
