/- What the law's arguments are (each with the bound that the row gives), and the statement that is left to prove, without Go and memory. No condition beside these bounds. -/
import Derived.Test.YtdbefmkcondbgaaGreatDoorZHaOnSoG0
import Derived.Test.YtdbefmkcondbgaaGreatDoorZHaOnSoG1
import Derived.Test.YtdbefmkcondbgaaGreatDoorZHaOnSoG2
import Derived.Test.YtdbefmkcondbgaaGreatDoorZHaOnSoG3
import Derived.Test.YtdbefmkcondbgaaGreatDoorZHaOnSoG4
import Derived.Test.YtdbefmkcondbgaaGreatDoorZHaOnSoG5
import Derived.Test.YtdbefmkcondbgaaGreatDoorZHaOnSoG6
import Derived.Test.YtdbefmkcondbgaaGreatDoorZHaOnSoG7
import Derived.Test.YtdbefmkcondbgaaGreatDoorZHaOnSoG8
import Derived.Test.YtdbefmkcondbgaaGreatDoorZHaOnSoG9
import Derived.Test.YtdbefmkcondbgaaGreatDoorZHaOnSoG10
import Derived.Test.YtdbefmkcondbgaaGreatDoorZHaOnSoG11
namespace Go.Proofs.YtdbefmkcondbgaaGreatDoor.PFnExactHasOneSolution
open Go.RowKit Go.Proofs.Yw.PrintWords Go.Proofs.Yw.PrintLast Go.Proofs.Yw.PrintMore
set_option linter.unusedVariables false
structure S23 where
 f0 : Int
 f1 : Int
 f2 : aj
def z23 : S23 := ⟨(0 : Int), (0 : Int), (⟨#[]⟩ : aj)⟩
def k23 : Kd S23 := Kd.iso (Kd.pair (Kd.int .i64) (Kd.pair (Kd.int .i64) Kd.string)) (fun x : S23 => (x.f0, x.f1, x.f2))
theorem IK {w : World} {x : S23} {cs : List Value} (h : k23.K w x cs) : cs = [.int .i64 x.f0, .int .i64 x.f1, .string x.f2] := by
 obtain ⟨_, _, rfl, rfl, ⟨_, _, rfl, rfl, rfl⟩⟩ := h
 exact rfl
structure S27 where
 f0 : S23
 f1 : (List S66)
 f2 : (List Int)
 f3 : Int
def k27 : Kd S27 := Kd.iso (Kd.pair k23 (Kd.pair (Kd.slice 66 k66) (Kd.pair (Kd.slice 3 (Kd.int .i64)) (Kd.int .i64)))) (fun x : S27 => (x.f0, x.f1, x.f2, x.f3))
theorem IL {w : World} {x : S27} {cs : List Value} (h : k27.K w x cs) : ∃ A3 c3 A4 c4, cs = [.int .i64 x.f0.f0, .int .i64 x.f0.f1, .string x.f0.f2, .slice A3 x.f1.length c3, .slice A4 x.f2.length c4, .int .i64 x.f3] ∧ x.f1.length ≤ c3 ∧ k66.C w A3 x.f1.length x.f1 ∧ x.f2.length ≤ c4 ∧ (Kd.int .i64).C w A4 x.f2.length x.f2 := by
 obtain ⟨_, _, rfl, s0, ⟨_, _, rfl, ⟨A3, c3, rfl, l3, g3⟩, ⟨_, _, rfl, ⟨A4, c4, rfl, l4, g4⟩, rfl⟩⟩⟩ := h
 obtain rfl := IK s0
 exact ⟨A3, c3, A4, c4, rfl, l3, g3, l4, g4⟩
def Lg (y : S23) : Prop := (Lit.int .i64 y.f0).wf = true ∧ (Lit.int .i64 y.f1).wf = true ∧ y.f2.size ≤ 140737488351232
def Km (y : nU) : Prop := (Lit.int .i64 y.f0).wf = true ∧ y.f1.size ≤ 140737488351232 ∧ (Lit.int .i64 y.f2).wf = true ∧ (Lit.int .i64 y.f3).wf = true
def Lj (y : S66) : Prop := (Lit.int .i64 y.f0).wf = true ∧ (y.f1.length * 40 ≤ 140737488351232 ∧ y.f1.length ≤ 9223372036854775807 ∧ ∀ x ∈ y.f1, Km x)
def Lh (y : S27) : Prop := Lg y.f0 ∧ (y.f1.length * 32 ≤ 140737488351232 ∧ y.f1.length ≤ 9223372036854775807 ∧ ∀ x ∈ y.f1, Lj x) ∧ (y.f2.length * 8 ≤ 140737488351232 ∧ y.f2.length ≤ 9223372036854775807 ∧ ∀ x ∈ y.f2, (Lit.int .i64 x).wf = true) ∧ (Lit.int .i64 y.f3).wf = true
def Li (y : S51) : Prop := y.f0.size ≤ 140737488351232 ∧ (Lit.int .i64 y.f1).wf = true
def fF.Pure : Prop := ∀ (y0 : S27) (l1 : (List S51)) (l2 : (List aj)), Lh y0 → (l1.length * 24 ≤ 140737488351232 ∧ l1.length ≤ 9223372036854775807 ∧ ∀ x ∈ l1, Li x) → (l2.length * 16 ≤ 140737488351232 ∧ l2.length ≤ 9223372036854775807 ∧ ∀ x ∈ l2, x.size ≤ 140737488351232) → ∃ k, fF.f k y0.f0.f0 y0.f0.f1 y0.f0.f2 y0.f1 y0.f2 y0.f3 l1 l2 = some true
end Go.Proofs.YtdbefmkcondbgaaGreatDoor.PFnExactHasOneSolution
