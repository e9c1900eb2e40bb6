/- The library's sort and reversal of a row of bytes, at this program: what they leave in the row. Plain contracts; of the sort: at twelve bytes or fewer. -/
import Derived.Test.YthjcicmmbmagbaaProg
import Derived.Sort.WalkA
import Derived.Sort.LotA
import Derived.Lib.ConvBytes
import Derived.Laws.BytesArg
import Derived.WalkKit
import Derived.BigGuard
import Derived.BigCall
import Derived.CellFam
import Derived.Deep.Draws
import Derived.Deep.QuietTactic
import Derived.BigQuiet
import Derived.Below
import Derived.Lib.OwnBridge
import Derived.Test.YthjcicmmbmagbaaZParsePlayShelf
namespace Go.Proofs.Ythjcicmmbmagbaa.HandSort
open Go.RowKit Go.Sort Go.Proofs
set_option linter.unusedVariables false
set_option linter.unusedSimpArgs false
def nums (s : ByteArray) : List Int := s.data.toList.map fun b => (b.toNat : Int)
end Go.Proofs.Ythjcicmmbmagbaa.HandSort
