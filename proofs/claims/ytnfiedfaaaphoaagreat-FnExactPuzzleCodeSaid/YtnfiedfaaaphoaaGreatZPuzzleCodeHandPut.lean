/- What writeCells makes of a text: the cells of a list, each with the letter of its place. Plain contracts. -/
import Derived.Test.YtnfiedfaaaphoaaGreatZPuzzleCodeHandSort
import Derived.Test.YtnfiedfaaaphoaaGreatZPuzzleCodeW
namespace Go.Proofs.YtnfiedfaaaphoaaGreat.HandPut
open Go.RowKit Go.Sort Go.Proofs Go.Proofs.YtnfiedfaaaphoaaGreatW.PrintWords Go.Proofs.YtnfiedfaaaphoaaGreatW.PrintLast Go.Proofs.YtnfiedfaaaphoaaGreatW.PrintMore Go.Proofs.YtnfiedfaaaphoaaGreat.HandSort
set_option linter.unusedVariables false
set_option linter.unusedSimpArgs false
end Go.Proofs.YtnfiedfaaaphoaaGreat.HandPut
