/- What the law's arguments are (each with the bound that the row gives), and the statement that is left to prove, without Go and memory. No condition beside these bounds. -/
import Derived.Test.YtfnpmkmdpbgjkaaPFnExactChecksAnswerx4
namespace Go.Proofs.Ytfnpmkmdpbgjkaa.PFnExactChecksAnswer
open Go.RowKit Go.Proofs.YtfnpmkmdpbgjkaaW.PrintWords Go.Proofs.YtfnpmkmdpbgjkaaW.PrintLast Go.Proofs.YtfnpmkmdpbgjkaaW.PrintMore
set_option linter.unusedVariables false
end Go.Proofs.Ytfnpmkmdpbgjkaa.PFnExactChecksAnswer
