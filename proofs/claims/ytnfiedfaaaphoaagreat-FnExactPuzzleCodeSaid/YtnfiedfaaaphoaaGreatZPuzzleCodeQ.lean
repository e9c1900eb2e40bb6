/- What the law's arguments are (each with the bound that the row gives), and the statement that is left to prove, without Go and memory. No condition beside these bounds. -/
import Derived.Test.YtnfiedfaaaphoaaGreatZPuzzleCodeG0
import Derived.Test.YtnfiedfaaaphoaaGreatZPuzzleCodeG1
import Derived.Test.YtnfiedfaaaphoaaGreatZPuzzleCodeG2
import Derived.Test.YtnfiedfaaaphoaaGreatZPuzzleCodeG3
import Derived.Test.YtnfiedfaaaphoaaGreatZPuzzleCodeG4
import Derived.Test.YtnfiedfaaaphoaaGreatZPuzzleCodeG5
import Derived.Test.YtnfiedfaaaphoaaGreatZPuzzleCodeG6
import Derived.Test.YtnfiedfaaaphoaaGreatZPuzzleCodeG7
import Derived.Test.YtnfiedfaaaphoaaGreatZPuzzleCodeG8
import Derived.Test.YtnfiedfaaaphoaaGreatZPuzzleCodeG9
import Derived.Test.YtnfiedfaaaphoaaGreatZPuzzleCodeG10
import Derived.Test.YtnfiedfaaaphoaaGreatZPuzzleCodeG11
import Derived.Test.YtnfiedfaaaphoaaGreatZPuzzleCodeG12
import Derived.Test.YtnfiedfaaaphoaaGreatZPuzzleCodeG13
import Derived.Test.YtnfiedfaaaphoaaGreatZPuzzleCodeG14
import Derived.Test.YtnfiedfaaaphoaaGreatZPuzzleCodeG15
import Derived.Test.YtnfiedfaaaphoaaGreatZPuzzleCodeG16
import Derived.Test.YtnfiedfaaaphoaaGreatZPuzzleCodeG17
namespace Go.Proofs.YtnfiedfaaaphoaaGreat.PFnExactPuzzleCode
open Go.RowKit Go.Proofs.YtnfiedfaaaphoaaGreatW.PrintWords Go.Proofs.YtnfiedfaaaphoaaGreatW.PrintLast Go.Proofs.YtnfiedfaaaphoaaGreatW.PrintMore
set_option linter.unusedVariables false
structure S23 where
 f0 : Int
 f1 : Int
 f2 : ByteArray
def z23 : S23 := ⟨(0 : Int), (0 : Int), (⟨#[]⟩ : ByteArray)⟩
def k23 : Kd S23 := Kd.iso (Kd.pair (Kd.int .i64) (Kd.pair (Kd.int .i64) Kd.string)) (fun x : S23 => (x.f0, x.f1, x.f2))
theorem Bo {w : World} {x : S23} {cs : List Value} (h : k23.K w x cs) : cs = [.int .i64 x.f0, .int .i64 x.f1, .string x.f2] := by
 obtain ⟨_, _, rfl, rfl, ⟨_, _, rfl, rfl, rfl⟩⟩ := h
 exact rfl
def El (y : S23) : Prop := (Lit.int .i64 y.f0).wf = true ∧ (Lit.int .i64 y.f1).wf = true ∧ y.f2.size ≤ 140737488351232
def Dq (y : l8) : Prop := (Lit.int .i64 y.f0).wf = true ∧ y.f1.size ≤ 140737488351232 ∧ (Lit.int .i64 y.f2).wf = true ∧ (Lit.int .i64 y.f3).wf = true
def EK (y : S68) : Prop := (Lit.int .i64 y.f0).wf = true ∧ (y.f1.length * 40 ≤ 140737488351232 ∧ y.f1.length ≤ 9223372036854775807 ∧ ∀ x ∈ y.f1, Dq x)
def Er (y : S71) : Prop := y.f0.size ≤ 140737488351232 ∧ (Lit.int .i64 y.f1).wf = true
def fF.Pure : Prop := ∀ (y0 : S23) (a1 : ByteArray) (l2 : (List S68)) (l3 : (List S71)) (l4 : (List ByteArray)), El y0 → a1.size ≤ 140737488351232 → (l2.length * 32 ≤ 140737488351232 ∧ l2.length ≤ 9223372036854775807 ∧ ∀ x ∈ l2, EK x) → (l3.length * 24 ≤ 140737488351232 ∧ l3.length ≤ 9223372036854775807 ∧ ∀ x ∈ l3, Er x) → (l4.length * 16 ≤ 140737488351232 ∧ l4.length ≤ 9223372036854775807 ∧ ∀ x ∈ l4, x.size ≤ 140737488351232) → ∃ k, fF.f k y0.f0 y0.f1 y0.f2 a1 l2 l3 l4 = some true
end Go.Proofs.YtnfiedfaaaphoaaGreat.PFnExactPuzzleCode
