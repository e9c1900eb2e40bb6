/- alone: a local map as a set of cells; what the function comes to. Plain contracts. -/
import Derived.Test.YthjcicmmbmagbaaProg
import Derived.WalkKit
import Derived.BigGuard
import Derived.BigCall
import Derived.Below
import Derived.Maps.Own
import Derived.Maps.OwnOps
import Derived.Maps.Views
import Derived.Test.YthjcicmmbmagbaaZFnNotationsW
namespace Go.Proofs.Ythjcicmmbmagbaa.HandAlone
open Go.RowKit Go.Proofs.YthjcicmmbmagbaaW.PrintWords Go.Proofs.YthjcicmmbmagbaaW.PrintLast Go.Proofs.YthjcicmmbmagbaaW.PrintMore
set_option linter.unusedVariables false
set_option linter.unusedSimpArgs false
open Go.Maps
def kT (W : World) (B n : Nat) (S : List Int) : Prop :=
 ∃ D : DataW Unit, W.ownsMap Try.prog 3 (plainElem Try.prog 3) B n D ∧ ∀ c : Int, 0 ≤ c → c < 1000000 → D.atKey (.int .i64 c) (.lit (.int .i64 0)) = .lit (.int .i64 (if c ∈ S then 1 else 0))
theorem kT.kept {W W' : World} {B n : Nat} {S : List Int} {row : Option Nat} (h : kT W B n S) (hg : W.grownBy W' row) (hne : some B ≠ row) : kT W' B n S := by
 obtain ⟨D, h1, h2⟩ := h
 exact ⟨D, h1.kept hg hne, h2⟩
theorem kT.below {W W' : World} {B n : Nat} {S : List Int} (h : kT W B n S) (hb : Below W.heap.size W W') : kT W' B n S := h.kept (je hb none) (by simp)
theorem kT.lt {W : World} {B n : Nat} {S : List Int} (h : kT W B n S) : B < W.heap.size := by
 obtain ⟨D, h1, h2⟩ := h
 exact h1.lt
theorem kT.put {W : World} {B n : Nat} {S : List Int} {D : DataW Unit} (c : Int) (h0 : 0 ≤ c) (h1 : c < 1000000) (hm : IsMap D) (hat : ∀ c : Int, 0 ≤ c → c < 1000000 → D.atKey (.int .i64 c) (.lit (.int .i64 0)) = .lit (.int .i64 (if c ∈ S then 1 else 0)))
  (hown : W.ownsMap Try.prog 3 (plainElem Try.prog 3) B n (D.put (.int .i64 c) (.lit (.int .i64 1)))) : kT W B n (S ++ [c]) := by
 refine ⟨_, hown, fun x hx0 hx1 => ?_⟩
 by_cases e : x = c
 ·subst e
  rw [atKey_put_same hm (by trivial)]
  simp
 ·rw [atKey_put_other (by intro h; injection h with _ h; exact e h), hat x hx0 hx1]
  simp [e]
end Go.Proofs.Ythjcicmmbmagbaa.HandAlone
