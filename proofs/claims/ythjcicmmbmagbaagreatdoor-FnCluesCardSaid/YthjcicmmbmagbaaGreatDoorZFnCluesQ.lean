/- What the law's arguments are (each with the bound that the row gives), and the statement that is left to prove, without Go and memory. No condition beside these bounds. -/
import Derived.Test.YthjcicmmbmagbaaGreatDoorZFnCluesG0
import Derived.Test.YthjcicmmbmagbaaGreatDoorZFnCluesG1
import Derived.Test.YthjcicmmbmagbaaGreatDoorZFnCluesG2
import Derived.Test.YthjcicmmbmagbaaGreatDoorZFnCluesG3
import Derived.Test.YthjcicmmbmagbaaGreatDoorZFnCluesG4
import Derived.Test.YthjcicmmbmagbaaGreatDoorZFnCluesG5
import Derived.Test.YthjcicmmbmagbaaGreatDoorZFnCluesG6
import Derived.Test.YthjcicmmbmagbaaGreatDoorZFnCluesG7
import Derived.Test.YthjcicmmbmagbaaGreatDoorZFnCluesG8
namespace Go.Proofs.YthjcicmmbmagbaaGreatDoor.PFnClues
open Go.RowKit Go.Proofs.YthjcicmmbmagbaaGreatDoorW.PrintWords Go.Proofs.YthjcicmmbmagbaaGreatDoorW.PrintLast Go.Proofs.YthjcicmmbmagbaaGreatDoorW.PrintMore
set_option linter.unusedVariables false
end Go.Proofs.YthjcicmmbmagbaaGreatDoor.PFnClues
