/- The program's PuzzleName returns what the reference's returns, for every argument: no further condition. -/
import Derived.Test.YtbjflnkmnamklaaPFnExactPuzzleNamex1
namespace Go.Proofs.Ytbjflnkmnamklaa.Pure
open Go.RowKit Go.Proofs.Ytbjflnkmnamklaa.PFnExactPuzzleName Go.Proofs.YtbjflnkmnamklaaW.PrintWords Go.Proofs.YtbjflnkmnamklaaW.PrintLast

set_option linter.unusedSimpArgs false
theorem FnExactPuzzleName : laws_FnExactPuzzleName.Pure := by
  intro a0 _
  unfold laws_FnExactPuzzleName.f spec_PuzzleName.f impl_PuzzleName.f impl_at.f spec_l1In.f
  rcases (by omega : a0 < 0 ∨ 6 < a0 ∨ a0 = 0 ∨ a0 = 1 ∨ a0 = 2 ∨ a0 = 3 ∨ a0 = 4 ∨ a0 = 5 ∨ a0 = 6) with h | h | h | h | h | h | h | h | h
  · simp [show ¬ (0 ≤ a0) by omega]
  · have e1 : ¬ (a0 ≤ 6) := by omega
    have e2 : ¬ (a0 < 7) := by omega
    have e3 : 0 ≤ a0 := by omega
    have e4 : 0 ≤ a0 := by omega
    simp [e1, e2, e3, e4]
  all_goals (subst h; decide +kernel)

end Go.Proofs.Ytbjflnkmnamklaa.Pure
