/- What the law's arguments are (each with the bound that the row gives), and the statement that is left to prove, without Go and memory. No condition beside these bounds. -/
import Derived.Test.YtfnpmkmdpbgjkaaPFnExactWordsForx4
namespace Go.Proofs.Ytfnpmkmdpbgjkaa.PFnExactWordsFor
open Go.RowKit Go.Proofs.YtfnpmkmdpbgjkaaW.PrintWords Go.Proofs.YtfnpmkmdpbgjkaaW.PrintLast Go.Proofs.YtfnpmkmdpbgjkaaW.PrintMore
set_option linter.unusedVariables false
def OK72 (y : S72) : Prop := y.f0.size ≤ 140737488351232 ∧ (Lit.int .i64 y.f1).wf = true
def laws_FnExactWordsFor.Pure : Prop := ∀ (l0 : (List S72)) (l1 : (List ByteArray)) (a2 : Int), (l0.length * 24 ≤ 140737488351232 ∧ l0.length ≤ 9223372036854775807 ∧ ∀ x ∈ l0, OK72 x) → (l1.length * 16 ≤ 140737488351232 ∧ l1.length ≤ 9223372036854775807 ∧ ∀ x ∈ l1, x.size ≤ 140737488351232) → (Lit.int .i64 a2).wf = true → ∃ k, laws_FnExactWordsFor.f k l0 l1 a2 = some true
end Go.Proofs.Ytfnpmkmdpbgjkaa.PFnExactWordsFor
