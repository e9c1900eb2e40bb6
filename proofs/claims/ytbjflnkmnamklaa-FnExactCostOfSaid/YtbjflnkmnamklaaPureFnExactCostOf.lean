/- The program's CostOf returns what the reference's returns, for every argument: no further condition. -/
import Derived.Test.YtbjflnkmnamklaaPFnExactCostOfx1
namespace Go.Proofs.Ytbjflnkmnamklaa.Pure
open Go.RowKit Go.Proofs.Ytbjflnkmnamklaa.PFnExactCostOf Go.Proofs.YtbjflnkmnamklaaW.PrintWords Go.Proofs.YtbjflnkmnamklaaW.PrintLast

set_option linter.unusedSimpArgs false
theorem FnExactCostOf : laws_FnExactCostOf.Pure := by
  intro a0 _
  unfold laws_FnExactCostOf.f spec_CostOf.f impl_CostOf.f impl_InRange.f spec_l1In.f
  rcases (by omega : a0 < 1 ∨ 4 < a0 ∨ a0 = 1 ∨ a0 = 2 ∨ a0 = 3 ∨ a0 = 4) with h | h | h | h | h | h
  · simp [show ¬ (1 ≤ a0) by omega]
  · simp [show 1 ≤ a0 by omega, show ¬ (a0 ≤ 4) by omega]
  all_goals (subst h; decide +kernel)

end Go.Proofs.Ytbjflnkmnamklaa.Pure
