/- The program's HintName returns what the reference's returns, for every argument: no further condition. -/
import Derived.Test.YtbjflnkmnamklaaPFnExactHintNamex1
namespace Go.Proofs.Ytbjflnkmnamklaa.Pure
open Go.RowKit Go.Proofs.Ytbjflnkmnamklaa.PFnExactHintName Go.Proofs.YtbjflnkmnamklaaW.PrintWords Go.Proofs.YtbjflnkmnamklaaW.PrintLast

set_option linter.unusedSimpArgs false
theorem FnExactHintName : laws_FnExactHintName.Pure := by
  intro a0 _
  unfold laws_FnExactHintName.f spec_HintName.f impl_HintName.f impl_at.f spec_l1In.f
  rcases (by omega : a0 < 1 ∨ 4 < a0 ∨ a0 = 1 ∨ a0 = 2 ∨ a0 = 3 ∨ a0 = 4) with h | h | h | h | h | h
  · by_cases g0 : a0 = 0
    · subst g0; decide +kernel
    · have g1 : a0 < 0 := by omega
      simp [show ¬ (1 ≤ a0) by omega, show ¬ (0 ≤ a0) by omega]
  · have e1 : ¬ (a0 ≤ 4) := by omega
    have e2 : ¬ (a0 < 5) := by omega
    have e3 : 1 ≤ a0 := by omega
    have e4 : 0 ≤ a0 := by omega
    simp [e1, e2, e3, e4]
  all_goals (subst h; decide +kernel)

end Go.Proofs.Ytbjflnkmnamklaa.Pure
