/- What the law's arguments are (each with the bound that the row gives), and the statement that is left to prove, without Go and memory. No condition beside these bounds. -/
import Derived.Test.YthjcicmmbmagbaaZFnNotationsG0
import Derived.Test.YthjcicmmbmagbaaZFnNotationsG1
import Derived.Test.YthjcicmmbmagbaaZFnNotationsG2
import Derived.Test.YthjcicmmbmagbaaZFnNotationsG3
import Derived.Test.YthjcicmmbmagbaaZFnNotationsG4
namespace Go.Proofs.Ythjcicmmbmagbaa.PFnNotations
open Go.RowKit Go.Proofs.YthjcicmmbmagbaaW.PrintWords Go.Proofs.YthjcicmmbmagbaaW.PrintLast Go.Proofs.YthjcicmmbmagbaaW.PrintMore
set_option linter.unusedVariables false
end Go.Proofs.Ythjcicmmbmagbaa.PFnNotations
