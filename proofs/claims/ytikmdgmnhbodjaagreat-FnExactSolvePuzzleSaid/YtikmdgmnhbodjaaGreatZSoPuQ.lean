/- What the law's arguments are (each with the bound that the row gives), and the statement that is left to prove, without Go and memory. No condition beside these bounds. -/
import Derived.Test.YtikmdgmnhbodjaaGreatZSoPuG0
import Derived.Test.YtikmdgmnhbodjaaGreatZSoPuG1
import Derived.Test.YtikmdgmnhbodjaaGreatZSoPuG2
import Derived.Test.YtikmdgmnhbodjaaGreatZSoPuG3
import Derived.Test.YtikmdgmnhbodjaaGreatZSoPuG4
import Derived.Test.YtikmdgmnhbodjaaGreatZSoPuG5
import Derived.Test.YtikmdgmnhbodjaaGreatZSoPuG6
import Derived.Test.YtikmdgmnhbodjaaGreatZSoPuG7
import Derived.Test.YtikmdgmnhbodjaaGreatZSoPuG8
import Derived.Test.YtikmdgmnhbodjaaGreatZSoPuG9
import Derived.Test.YtikmdgmnhbodjaaGreatZSoPuG10
import Derived.Test.YtikmdgmnhbodjaaGreatZSoPuG11
import Derived.Test.YtikmdgmnhbodjaaGreatZSoPuG12
import Derived.Test.YtikmdgmnhbodjaaGreatZSoPuG13
namespace Go.Proofs.YtikmdgmnhbodjaaGreat.PFnExactSolvePuzzle
open Go.RowKit Go.Proofs.Yw.PrintWords Go.Proofs.Yw.PrintLast Go.Proofs.Yw.PrintMore
set_option linter.unusedVariables false
structure S23 where
 f0 : Int
 f1 : Int
 f2 : Oo
def z23 : S23 := ⟨(0 : Int), (0 : Int), (⟨#[]⟩ : Oo)⟩
def k23 : Kd S23 := Kd.iso (Kd.pair (Kd.int .i64) (Kd.pair (Kd.int .i64) Kd.string)) (fun x : S23 => (x.f0, x.f1, x.f2))
theorem wS {w : World} {x : S23} {cs : List Value} (h : k23.K w x cs) : cs = [.int .i64 x.f0, .int .i64 x.f1, .string x.f2] := by
 obtain ⟨_, _, rfl, rfl, ⟨_, _, rfl, rfl, rfl⟩⟩ := h
 exact rfl
structure S27 where
 f0 : S23
 f1 : (List S84)
 f2 : (List Int)
 f3 : Int
def k27 : Kd S27 := Kd.iso (Kd.pair k23 (Kd.pair (Kd.slice 84 k84) (Kd.pair (Kd.slice 3 (Kd.int .i64)) (Kd.int .i64)))) (fun x : S27 => (x.f0, x.f1, x.f2, x.f3))
theorem wT {w : World} {x : S27} {cs : List Value} (h : k27.K w x cs) : ∃ A3 c3 A4 c4, cs = [.int .i64 x.f0.f0, .int .i64 x.f0.f1, .string x.f0.f2, .slice A3 x.f1.length c3, .slice A4 x.f2.length c4, .int .i64 x.f3] ∧ x.f1.length ≤ c3 ∧ k84.C w A3 x.f1.length x.f1 ∧ x.f2.length ≤ c4 ∧ (Kd.int .i64).C w A4 x.f2.length x.f2 := by
 obtain ⟨_, _, rfl, s0, ⟨_, _, rfl, ⟨A3, c3, rfl, l3, g3⟩, ⟨_, _, rfl, ⟨A4, c4, rfl, l4, g4⟩, rfl⟩⟩⟩ := h
 obtain rfl := wS s0
 exact ⟨A3, c3, A4, c4, rfl, l3, g3, l4, g4⟩
def Cx (y : S23) : Prop := (Lit.int .i64 y.f0).wf = true ∧ (Lit.int .i64 y.f1).wf = true ∧ y.f2.size ≤ 140737488351232
def Bw (y : mX) : Prop := (Lit.int .i64 y.f0).wf = true ∧ y.f1.size ≤ 140737488351232 ∧ (Lit.int .i64 y.f2).wf = true ∧ (Lit.int .i64 y.f3).wf = true
def CF (y : S84) : Prop := (Lit.int .i64 y.f0).wf = true ∧ (y.f1.length * 40 ≤ 140737488351232 ∧ y.f1.length ≤ 9223372036854775807 ∧ ∀ x ∈ y.f1, Bw x)
def Cy (y : S27) : Prop := Cx y.f0 ∧ (y.f1.length * 32 ≤ 140737488351232 ∧ y.f1.length ≤ 9223372036854775807 ∧ ∀ x ∈ y.f1, CF x) ∧ (y.f2.length * 8 ≤ 140737488351232 ∧ y.f2.length ≤ 9223372036854775807 ∧ ∀ x ∈ y.f2, (Lit.int .i64 x).wf = true) ∧ (Lit.int .i64 y.f3).wf = true
def Cz (y : S64) : Prop := y.f0.size ≤ 140737488351232 ∧ (Lit.int .i64 y.f1).wf = true
def bZ.Pure : Prop := ∀ (y0 : S27) (a1 : Oo) (l2 : (List S64)) (l3 : (List Oo)), Cy y0 → a1.size ≤ 140737488351232 → (l2.length * 24 ≤ 140737488351232 ∧ l2.length ≤ 9223372036854775807 ∧ ∀ x ∈ l2, Cz x) → (l3.length * 16 ≤ 140737488351232 ∧ l3.length ≤ 9223372036854775807 ∧ ∀ x ∈ l3, x.size ≤ 140737488351232) → ∃ k, bZ.f k y0.f0.f0 y0.f0.f1 y0.f0.f2 y0.f1 y0.f2 y0.f3 a1 l2 l3 = some true
end Go.Proofs.YtikmdgmnhbodjaaGreat.PFnExactSolvePuzzle
