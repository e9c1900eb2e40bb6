/- The closure of PartsOf: what a visit leaves in the row of cells that are met. Plain contracts. -/
import Derived.Test.YthjcicmmbmagbaaProg
import Derived.Sort.WalkA
import Derived.WalkKit
import Derived.BigGuard
import Derived.BigCall
import Derived.CellFam
import Derived.Deep.Draws
import Derived.Deep.QuietTactic
import Derived.BigQuiet
import Derived.Below
import Derived.StillTailTactics
import Derived.Lib.OwnBridge
import Derived.Test.YthjcicmmbmagbaaZParsePlayW
namespace Go.Proofs.Ythjcicmmbmagbaa.HandForm
open Go.RowKit Go.Sort Go.Proofs Go.Proofs.YthjcicmmbmagbaaW.PrintWords Go.Proofs.YthjcicmmbmagbaaW.PrintLast Go.Proofs.YthjcicmmbmagbaaW.PrintMore
set_option linter.unusedVariables false
set_option linter.unusedSimpArgs false
theorem qb (P : Program) (fn : Fn) (first cap : Array Value) (w : World) : (Instr.makeFunc fn first cap).run P w = .ok (.func fn first cap) w := rfl
attribute [local go_sem] qb
end Go.Proofs.Ythjcicmmbmagbaa.HandForm
