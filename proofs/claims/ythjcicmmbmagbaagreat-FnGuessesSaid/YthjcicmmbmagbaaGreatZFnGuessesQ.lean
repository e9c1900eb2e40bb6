/- What the law's arguments are (each with the bound that the row gives), and the statement that is left to prove, without Go and memory. No condition beside these bounds. -/
import Derived.Test.YthjcicmmbmagbaaGreatZFnGuessesG0
import Derived.Test.YthjcicmmbmagbaaGreatZFnGuessesG1
import Derived.Test.YthjcicmmbmagbaaGreatZFnGuessesG2
import Derived.Test.YthjcicmmbmagbaaGreatZFnGuessesG3
import Derived.Test.YthjcicmmbmagbaaGreatZFnGuessesG4
import Derived.Test.YthjcicmmbmagbaaGreatZFnGuessesG5
import Derived.Test.YthjcicmmbmagbaaGreatZFnGuessesG6
import Derived.Test.YthjcicmmbmagbaaGreatZFnGuessesG7
import Derived.Test.YthjcicmmbmagbaaGreatZFnGuessesG8
import Derived.Test.YthjcicmmbmagbaaGreatZFnGuessesG9
import Derived.Test.YthjcicmmbmagbaaGreatZFnGuessesG10
import Derived.Test.YthjcicmmbmagbaaGreatZFnGuessesG11
namespace Go.Proofs.YthjcicmmbmagbaaGreat.PFnGuesses
open Go.RowKit Go.Proofs.YthjcicmmbmagbaaGreatW.PrintWords Go.Proofs.YthjcicmmbmagbaaGreatW.PrintLast Go.Proofs.YthjcicmmbmagbaaGreatW.PrintMore
set_option linter.unusedVariables false
end Go.Proofs.YthjcicmmbmagbaaGreat.PFnGuesses
