/- What the law's arguments are (each with the bound that the row gives), and the statement that is left to prove, without Go and memory. No condition beside these bounds. -/
import Derived.Test.YthjcicmmbmagbaaZFnSensesG0
import Derived.Test.YthjcicmmbmagbaaZFnSensesG1
import Derived.Test.YthjcicmmbmagbaaZFnSensesG2
import Derived.Test.YthjcicmmbmagbaaZFnSensesG3
import Derived.Test.YthjcicmmbmagbaaZFnSensesG4
import Derived.Test.YthjcicmmbmagbaaZFnSensesG5
import Derived.Test.YthjcicmmbmagbaaZFnSensesG6
import Derived.Test.YthjcicmmbmagbaaZFnSensesG7
import Derived.Test.YthjcicmmbmagbaaZFnSensesG8
namespace Go.Proofs.Ythjcicmmbmagbaa.PFnSenses
open Go.RowKit Go.Proofs.YthjcicmmbmagbaaW.PrintWords Go.Proofs.YthjcicmmbmagbaaW.PrintLast Go.Proofs.YthjcicmmbmagbaaW.PrintMore
set_option linter.unusedVariables false
end Go.Proofs.Ythjcicmmbmagbaa.PFnSenses
