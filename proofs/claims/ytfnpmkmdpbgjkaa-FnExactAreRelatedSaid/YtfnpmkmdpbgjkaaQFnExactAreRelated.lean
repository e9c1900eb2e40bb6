/- What the law's arguments are (each with the bound that the row gives), and the statement that is left to prove, without Go and memory. No condition beside these bounds. -/
import Derived.Test.YtfnpmkmdpbgjkaaPFnExactAreRelatedx3
namespace Go.Proofs.Ytfnpmkmdpbgjkaa.PFnExactAreRelated
open Go.RowKit Go.Proofs.YtfnpmkmdpbgjkaaW.PrintWords Go.Proofs.YtfnpmkmdpbgjkaaW.PrintLast Go.Proofs.YtfnpmkmdpbgjkaaW.PrintMore
set_option linter.unusedVariables false
def OK72 (y : S72) : Prop := y.f0.size ≤ 140737488351232 ∧ (Lit.int .i64 y.f1).wf = true
def laws_FnExactAreRelated.Pure : Prop := ∀ (l0 : (List S72)) (a1 : ByteArray) (a2 : ByteArray), (l0.length * 24 ≤ 140737488351232 ∧ l0.length ≤ 9223372036854775807 ∧ ∀ x ∈ l0, OK72 x) → a1.size ≤ 140737488351232 → a2.size ≤ 140737488351232 → ∃ k, laws_FnExactAreRelated.f k l0 a1 a2 = some true
end Go.Proofs.Ytfnpmkmdpbgjkaa.PFnExactAreRelated
