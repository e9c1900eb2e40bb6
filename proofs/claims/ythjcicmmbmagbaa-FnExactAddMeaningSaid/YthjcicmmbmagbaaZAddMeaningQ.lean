/- What the law's arguments are (each with the bound that the row gives), and the statement that is left to prove, without Go and memory. No condition beside these bounds. -/
import Derived.Test.YthjcicmmbmagbaaZAddMeaningG0
import Derived.Test.YthjcicmmbmagbaaZAddMeaningG1
import Derived.Test.YthjcicmmbmagbaaZAddMeaningG2
import Derived.Test.YthjcicmmbmagbaaZAddMeaningG3
import Derived.Test.YthjcicmmbmagbaaZAddMeaningG4
import Derived.Test.YthjcicmmbmagbaaZAddMeaningG5
import Derived.Test.YthjcicmmbmagbaaZAddMeaningG6
import Derived.Test.YthjcicmmbmagbaaZAddMeaningG7
namespace Go.Proofs.Ythjcicmmbmagbaa.PFnExactAddMeaning
open Go.RowKit Go.Proofs.YthjcicmmbmagbaaW.PrintWords Go.Proofs.YthjcicmmbmagbaaW.PrintLast Go.Proofs.YthjcicmmbmagbaaW.PrintMore
set_option linter.unusedVariables false
def oJ (y : S24) : Prop := y.f0.size ≤ 140737488351232 ∧ (Lit.int .i64 y.f1).wf = true
def av.Pure : Prop := ∀ (l0 : (List S24)) (y1 : S24), (l0.length * 24 ≤ 140737488351232 ∧ l0.length ≤ 9223372036854775807 ∧ ∀ x ∈ l0, oJ x) → oJ y1 → ∃ k, av.f k l0 y1.f0 y1.f1 = some true
end Go.Proofs.Ythjcicmmbmagbaa.PFnExactAddMeaning
