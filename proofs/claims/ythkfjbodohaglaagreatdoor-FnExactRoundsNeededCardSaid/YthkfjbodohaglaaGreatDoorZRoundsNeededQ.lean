/- What the law's arguments are (each with the bound that the row gives), and the statement that is left to prove, without Go and memory. No condition beside these bounds. -/
import Derived.Test.YthkfjbodohaglaaGreatDoorZRoundsNeededG0
import Derived.Test.YthkfjbodohaglaaGreatDoorZRoundsNeededG1
import Derived.Test.YthkfjbodohaglaaGreatDoorZRoundsNeededG2
import Derived.Test.YthkfjbodohaglaaGreatDoorZRoundsNeededG3
import Derived.Test.YthkfjbodohaglaaGreatDoorZRoundsNeededG4
import Derived.Test.YthkfjbodohaglaaGreatDoorZRoundsNeededG5
import Derived.Test.YthkfjbodohaglaaGreatDoorZRoundsNeededG6
import Derived.Test.YthkfjbodohaglaaGreatDoorZRoundsNeededG7
import Derived.Test.YthkfjbodohaglaaGreatDoorZRoundsNeededG8
import Derived.Test.YthkfjbodohaglaaGreatDoorZRoundsNeededG9
import Derived.Test.YthkfjbodohaglaaGreatDoorZRoundsNeededG10
import Derived.Test.YthkfjbodohaglaaGreatDoorZRoundsNeededG11
namespace Go.Proofs.YthkfjbodohaglaaGreatDoor.PFnExactRoundsNeeded
open Go.RowKit Go.Proofs.YthkfjbodohaglaaGreatDoorW.PrintWords Go.Proofs.YthkfjbodohaglaaGreatDoorW.PrintLast Go.Proofs.YthkfjbodohaglaaGreatDoorW.PrintMore
set_option linter.unusedVariables false
structure S23 where
 f0 : Int
 f1 : Int
 f2 : ByteArray
def z23 : S23 := ⟨(0 : Int), (0 : Int), (⟨#[]⟩ : ByteArray)⟩
def k23 : Kd S23 := Kd.iso (Kd.pair (Kd.int .i64) (Kd.pair (Kd.int .i64) Kd.string)) (fun x : S23 => (x.f0, x.f1, x.f2))
theorem He {w : World} {x : S23} {cs : List Value} (h : k23.K w x cs) : cs = [.int .i64 x.f0, .int .i64 x.f1, .string x.f2] := by
 obtain ⟨_, _, rfl, rfl, ⟨_, _, rfl, rfl, rfl⟩⟩ := h
 exact rfl
structure S27 where
 f0 : S23
 f1 : (List S81)
 f2 : (List Int)
 f3 : Int
def k27 : Kd S27 := Kd.iso (Kd.pair k23 (Kd.pair (Kd.slice 81 k81) (Kd.pair (Kd.slice 3 (Kd.int .i64)) (Kd.int .i64)))) (fun x : S27 => (x.f0, x.f1, x.f2, x.f3))
theorem Hf {w : World} {x : S27} {cs : List Value} (h : k27.K w x cs) : ∃ A3 c3 A4 c4, cs = [.int .i64 x.f0.f0, .int .i64 x.f0.f1, .string x.f0.f2, .slice A3 x.f1.length c3, .slice A4 x.f2.length c4, .int .i64 x.f3] ∧ x.f1.length ≤ c3 ∧ k81.C w A3 x.f1.length x.f1 ∧ x.f2.length ≤ c4 ∧ (Kd.int .i64).C w A4 x.f2.length x.f2 := by
 obtain ⟨_, _, rfl, s0, ⟨_, _, rfl, ⟨A3, c3, rfl, l3, g3⟩, ⟨_, _, rfl, ⟨A4, c4, rfl, l4, g4⟩, rfl⟩⟩⟩ := h
 obtain rfl := He s0
 exact ⟨A3, c3, A4, c4, rfl, l3, g3, l4, g4⟩
def Kr (y : S23) : Prop := (Lit.int .i64 y.f0).wf = true ∧ (Lit.int .i64 y.f1).wf = true ∧ y.f2.size ≤ 140737488351232
def Ju (y : nu) : Prop := (Lit.int .i64 y.f0).wf = true ∧ y.f1.size ≤ 140737488351232 ∧ (Lit.int .i64 y.f2).wf = true ∧ (Lit.int .i64 y.f3).wf = true
def Kv (y : S81) : Prop := (Lit.int .i64 y.f0).wf = true ∧ (y.f1.length * 40 ≤ 140737488351232 ∧ y.f1.length ≤ 9223372036854775807 ∧ ∀ x ∈ y.f1, Ju x)
def Kt (y : S27) : Prop := Kr y.f0 ∧ (y.f1.length * 32 ≤ 140737488351232 ∧ y.f1.length ≤ 9223372036854775807 ∧ ∀ x ∈ y.f1, Kv x) ∧ (y.f2.length * 8 ≤ 140737488351232 ∧ y.f2.length ≤ 9223372036854775807 ∧ ∀ x ∈ y.f2, (Lit.int .i64 x).wf = true) ∧ (Lit.int .i64 y.f3).wf = true
def Ku (y : S57) : Prop := y.f0.size ≤ 140737488351232 ∧ (Lit.int .i64 y.f1).wf = true
def fD.Pure : Prop := ∀ (y0 : S27) (l1 : (List S57)) (l2 : (List ByteArray)) (a3 : Int), Kt y0 → (l1.length * 24 ≤ 140737488351232 ∧ l1.length ≤ 9223372036854775807 ∧ ∀ x ∈ l1, Ku x) → (l2.length * 16 ≤ 140737488351232 ∧ l2.length ≤ 9223372036854775807 ∧ ∀ x ∈ l2, x.size ≤ 140737488351232) → (Lit.int .i64 a3).wf = true → ∃ k, fD.f k y0.f0.f0 y0.f0.f1 y0.f0.f2 y0.f1 y0.f2 y0.f3 l1 l2 a3 = some true
end Go.Proofs.YthkfjbodohaglaaGreatDoor.PFnExactRoundsNeeded
