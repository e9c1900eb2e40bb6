/- What the law's arguments are (each with the bound that the row gives), and the statement that is left to prove, without Go and memory. No condition beside these bounds. -/
import Derived.Test.YtfnpmkmdpbgjkaaPFnExactPlayTextx7
namespace Go.Proofs.Ytfnpmkmdpbgjkaa.PFnExactPlayText
open Go.RowKit Go.Proofs.YtfnpmkmdpbgjkaaW.PrintWords Go.Proofs.YtfnpmkmdpbgjkaaW.PrintLast Go.Proofs.YtfnpmkmdpbgjkaaW.PrintMore
set_option linter.unusedVariables false
def OK87 (y : S87) : Prop := (Lit.int .i64 y.f0).wf = true ∧ y.f1.size ≤ 140737488351232 ∧ (Lit.int .i64 y.f2).wf = true ∧ (Lit.int .i64 y.f3).wf = true
def laws_FnExactPlayText.Pure : Prop := ∀ (l0 : (List S87)), (l0.length * 40 ≤ 140737488351232 ∧ l0.length ≤ 9223372036854775807 ∧ ∀ x ∈ l0, OK87 x) → ∃ k, laws_FnExactPlayText.f k l0 = some true
end Go.Proofs.Ytfnpmkmdpbgjkaa.PFnExactPlayText
