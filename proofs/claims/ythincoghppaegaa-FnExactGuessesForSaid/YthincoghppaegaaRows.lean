/-
  No cell of these rows narrows 'for every input' (looked for: loops, veiled, ifaces, maps, wideKeys, modest, calm, conditions, laid).
  DERIVED. THE GIVEN ROWS OF THIS SEAT. 5 by the template 'for every input the law returns true; each argument reads behind the call as it read before'; 0 by the template 'total and deterministic' (their statements: YthincoghppaegaaTotals.lean).
  GIVEN WITH THE SEED: the statements are not yours to turn. If you find one false, say at which input.
  Laid BY PROGRAM, IN A SANDBOX (cutbox-rows.mjs): the forced cells as the released guide's own fill.sh prints them over the translation 2312d6955d24800b… (all of the seat's roots in one cut). By AI agents, Wed Nov 11 2026. No macro, syntax, notation, axiom, sorry.
-/
import Derived.Test.YthincoghppaegaaChecked
import GoSem.Claim
import GoSem.ClaimJoined
import GoSem.ClaimMapViews
import Derived.JoinedTies
import Derived.KernelRfl
namespace Go.Proofs.Ythincoghppaegaa
/- THE CELL 'sum', in the pinned program and in every row, IS THE sha256 OF THE DUMP (.gsa) THAT YthincoghppaegaaProg.lean LOADS. Nothing in Lean hashes anything: it is a label: what it is worth is what the hold of that sum in a sandbox is worth. -/
noncomputable def Try.pinned : Pinned := { name := "ythincoghppaegaa", sum := "2312d6955d24800b6117c3e000badb9d1f02292b2172a866d7aa2cb3af08f669", checked := Try.checked }
namespace Rows
def none {H : Type} : Left H := { results := [], args := [] }

/-- 'laws.FnExactGain': WHATEVER THE INPUT: true; the input reads as it did. -/
def fnExactGainSpec : ChangeSpec := { name := "fnExactGain", fn := fun _ => fun
  | [d1, d2, d3, d4] => { results := [.lit (.bool true)], args := [d1, d2, d3, d4] }
  | _ => none }
def fnExactGainRow : OpenClaim := { program := "ythincoghppaegaa", sum := "2312d6955d24800b6117c3e000badb9d1f02292b2172a866d7aa2cb3af08f669", func := "loop.example/g03003/laws.FnExactGain", spec := "fnExactGain", unfollowed := true, recurses := true, apart := false }
def FnExactGainSaid : Prop := fnExactGainRow.holds Try.pinned (OpenSpec.ofChange fnExactGainSpec)

/-- ITS FALSE NEIGHBOUR: 'it returns false'. Refute it at one input. -/
def fnExactGainWrong : ChangeSpec := { name := "fnExactGain", fn := fun _ => fun
  | [d1, d2, d3, d4] => { results := [.lit (.bool false)], args := [d1, d2, d3, d4] }
  | _ => none }
def FnExactGainWrongFalsely : Prop := fnExactGainRow.holds Try.pinned (OpenSpec.ofChange fnExactGainWrong)

/-- 'laws.FnExactNeedsBoth': WHATEVER THE INPUT: true; the input reads as it did. -/
def fnExactNeedsBothSpec : ChangeSpec := { name := "fnExactNeedsBoth", fn := fun _ => fun
  | [d1, d2, d3, d4] => { results := [.lit (.bool true)], args := [d1, d2, d3, d4] }
  | _ => none }
def fnExactNeedsBothRow : OpenClaim := { program := "ythincoghppaegaa", sum := "2312d6955d24800b6117c3e000badb9d1f02292b2172a866d7aa2cb3af08f669", func := "loop.example/g03003/laws.FnExactNeedsBoth", spec := "fnExactNeedsBoth", unfollowed := true, recurses := true, apart := false }
def FnExactNeedsBothSaid : Prop := fnExactNeedsBothRow.holds Try.pinned (OpenSpec.ofChange fnExactNeedsBothSpec)

/-- ITS FALSE NEIGHBOUR: 'it returns false'. Refute it at one input. -/
def fnExactNeedsBothWrong : ChangeSpec := { name := "fnExactNeedsBoth", fn := fun _ => fun
  | [d1, d2, d3, d4] => { results := [.lit (.bool false)], args := [d1, d2, d3, d4] }
  | _ => none }
def FnExactNeedsBothWrongFalsely : Prop := fnExactNeedsBothRow.holds Try.pinned (OpenSpec.ofChange fnExactNeedsBothWrong)

/-- 'laws.FnExactAnswersTo': WHATEVER THE INPUT: true; the input reads as it did. -/
def fnExactAnswersToSpec : ChangeSpec := { name := "fnExactAnswersTo", fn := fun _ => fun
  | [d1, d2, d3] => { results := [.lit (.bool true)], args := [d1, d2, d3] }
  | _ => none }
def fnExactAnswersToRow : OpenClaim := { program := "ythincoghppaegaa", sum := "2312d6955d24800b6117c3e000badb9d1f02292b2172a866d7aa2cb3af08f669", func := "loop.example/g03003/laws.FnExactAnswersTo", spec := "fnExactAnswersTo", unfollowed := true, recurses := true, apart := false }
def FnExactAnswersToSaid : Prop := fnExactAnswersToRow.holds Try.pinned (OpenSpec.ofChange fnExactAnswersToSpec)

/-- ITS FALSE NEIGHBOUR: 'it returns false'. Refute it at one input. -/
def fnExactAnswersToWrong : ChangeSpec := { name := "fnExactAnswersTo", fn := fun _ => fun
  | [d1, d2, d3] => { results := [.lit (.bool false)], args := [d1, d2, d3] }
  | _ => none }
def FnExactAnswersToWrongFalsely : Prop := fnExactAnswersToRow.holds Try.pinned (OpenSpec.ofChange fnExactAnswersToWrong)

/-- 'laws.FnExactFairCode': WHATEVER THE INPUT: true; the input reads as it did. -/
def fnExactFairCodeSpec : ChangeSpec := { name := "fnExactFairCode", fn := fun _ => fun
  | [d1, d2, d3, d4] => { results := [.lit (.bool true)], args := [d1, d2, d3, d4] }
  | _ => none }
def fnExactFairCodeRow : OpenClaim := { program := "ythincoghppaegaa", sum := "2312d6955d24800b6117c3e000badb9d1f02292b2172a866d7aa2cb3af08f669", func := "loop.example/g03003/laws.FnExactFairCode", spec := "fnExactFairCode", unfollowed := true, recurses := true, apart := false }
def FnExactFairCodeSaid : Prop := fnExactFairCodeRow.holds Try.pinned (OpenSpec.ofChange fnExactFairCodeSpec)

/-- ITS FALSE NEIGHBOUR: 'it returns false'. Refute it at one input. -/
def fnExactFairCodeWrong : ChangeSpec := { name := "fnExactFairCode", fn := fun _ => fun
  | [d1, d2, d3, d4] => { results := [.lit (.bool false)], args := [d1, d2, d3, d4] }
  | _ => none }
def FnExactFairCodeWrongFalsely : Prop := fnExactFairCodeRow.holds Try.pinned (OpenSpec.ofChange fnExactFairCodeWrong)

/-- 'laws.FnExactGuessesFor': WHATEVER THE INPUT: true; the input reads as it did. -/
def fnExactGuessesForSpec : ChangeSpec := { name := "fnExactGuessesFor", fn := fun _ => fun
  | [d1, d2, d3, d4, d5] => { results := [.lit (.bool true)], args := [d1, d2, d3, d4, d5] }
  | _ => none }
def fnExactGuessesForRow : OpenClaim := { program := "ythincoghppaegaa", sum := "2312d6955d24800b6117c3e000badb9d1f02292b2172a866d7aa2cb3af08f669", func := "loop.example/g03003/laws.FnExactGuessesFor", spec := "fnExactGuessesFor", unfollowed := true, recurses := true, apart := false }
def FnExactGuessesForSaid : Prop := fnExactGuessesForRow.holds Try.pinned (OpenSpec.ofChange fnExactGuessesForSpec)

/-- ITS FALSE NEIGHBOUR: 'it returns false'. Refute it at one input. -/
def fnExactGuessesForWrong : ChangeSpec := { name := "fnExactGuessesFor", fn := fun _ => fun
  | [d1, d2, d3, d4, d5] => { results := [.lit (.bool false)], args := [d1, d2, d3, d4, d5] }
  | _ => none }
def FnExactGuessesForWrongFalsely : Prop := fnExactGuessesForRow.holds Try.pinned (OpenSpec.ofChange fnExactGuessesForWrong)

/- THE SECOND FORM. 'bulk': how many values and letters a reading holds, each counted each time it is reached (what is shared counts as often as it is met; a slice's spare places count too). A statement '..UptoSaid' is the law's where the arguments, and the package variables that the reading takes, are together of bulk at most 1048576: NARROWER than '..Said'. Prove '..Said' where nothing that the law and all that it calls make is longer than what came in: it says more and counts as full. Else prove '..UptoSaid'. A law counts once. -/
mutual
def uptoBulk {H : Type} : DataW H → Nat
  | .lit (.string bytes) => bytes.length + 1
  | .lit _ => 1
  | .nil => 1
  | .ptr d => uptoBulk d + 1
  | .slice elems spare => uptoBulkAll elems + uptoBulkAll spare + 1
  | .agg parts => uptoBulkAll parts + 1
  | .iface _ d => uptoBulk d + 1
  | .map entries => uptoBulkEntries entries + 1
  | .held _ => 1
def uptoBulkAll {H : Type} : List (DataW H) → Nat
  | [] => 0
  | d :: r => uptoBulk d + uptoBulkAll r
def uptoBulkEntries {H : Type} : List (Lit × DataW H) → Nat
  | [] => 0
  | x :: r => uptoBulkEntry x + uptoBulkEntries r
def uptoBulkEntry {H : Type} : Lit × DataW H → Nat
  | (.string bytes, d) => bytes.length + uptoBulk d + 1
  | (_, d) => uptoBulk d + 1
 end
def uptoSmall : (H : Type) → List (DataW H) → Bool := fun _ ds => decide (uptoBulkAll ds ≤ 1048576)
def OpenSpec.upto (s : _root_.Go.ChangeSpec) : _root_.Go.OpenSpec := { _root_.Go.OpenSpec.ofChange s with cond := some uptoSmall }

/-- 'laws.FnExactGain', WHERE WHAT IT READS IS OF BULK AT MOST 1048576: true; the input reads as it did. -/
def fnExactGainUptoRow : OpenClaim := { program := "ythincoghppaegaa", sum := "2312d6955d24800b6117c3e000badb9d1f02292b2172a866d7aa2cb3af08f669", func := "loop.example/g03003/laws.FnExactGain", spec := "fnExactGain", unfollowed := true, recurses := true, apart := false, narrowed := true }
def FnExactGainUptoSaid : Prop := fnExactGainUptoRow.holds Try.pinned (OpenSpec.upto fnExactGainSpec)

/-- 'laws.FnExactNeedsBoth', WHERE WHAT IT READS IS OF BULK AT MOST 1048576: true; the input reads as it did. -/
def fnExactNeedsBothUptoRow : OpenClaim := { program := "ythincoghppaegaa", sum := "2312d6955d24800b6117c3e000badb9d1f02292b2172a866d7aa2cb3af08f669", func := "loop.example/g03003/laws.FnExactNeedsBoth", spec := "fnExactNeedsBoth", unfollowed := true, recurses := true, apart := false, narrowed := true }
def FnExactNeedsBothUptoSaid : Prop := fnExactNeedsBothUptoRow.holds Try.pinned (OpenSpec.upto fnExactNeedsBothSpec)

/-- 'laws.FnExactAnswersTo', WHERE WHAT IT READS IS OF BULK AT MOST 1048576: true; the input reads as it did. -/
def fnExactAnswersToUptoRow : OpenClaim := { program := "ythincoghppaegaa", sum := "2312d6955d24800b6117c3e000badb9d1f02292b2172a866d7aa2cb3af08f669", func := "loop.example/g03003/laws.FnExactAnswersTo", spec := "fnExactAnswersTo", unfollowed := true, recurses := true, apart := false, narrowed := true }
def FnExactAnswersToUptoSaid : Prop := fnExactAnswersToUptoRow.holds Try.pinned (OpenSpec.upto fnExactAnswersToSpec)

/-- 'laws.FnExactFairCode', WHERE WHAT IT READS IS OF BULK AT MOST 1048576: true; the input reads as it did. -/
def fnExactFairCodeUptoRow : OpenClaim := { program := "ythincoghppaegaa", sum := "2312d6955d24800b6117c3e000badb9d1f02292b2172a866d7aa2cb3af08f669", func := "loop.example/g03003/laws.FnExactFairCode", spec := "fnExactFairCode", unfollowed := true, recurses := true, apart := false, narrowed := true }
def FnExactFairCodeUptoSaid : Prop := fnExactFairCodeUptoRow.holds Try.pinned (OpenSpec.upto fnExactFairCodeSpec)

/-- 'laws.FnExactGuessesFor', WHERE WHAT IT READS IS OF BULK AT MOST 1048576: true; the input reads as it did. -/
def fnExactGuessesForUptoRow : OpenClaim := { program := "ythincoghppaegaa", sum := "2312d6955d24800b6117c3e000badb9d1f02292b2172a866d7aa2cb3af08f669", func := "loop.example/g03003/laws.FnExactGuessesFor", spec := "fnExactGuessesFor", unfollowed := true, recurses := true, apart := false, narrowed := true }
def FnExactGuessesForUptoSaid : Prop := fnExactGuessesForUptoRow.holds Try.pinned (OpenSpec.upto fnExactGuessesForSpec)

end Rows
end Go.Proofs.Ythincoghppaegaa
