/- What the law's arguments are (each with the bound that the row gives), and the statement that is left to prove, without Go and memory. No condition beside these bounds. -/
import Derived.Test.YthincoghppaegaaZGuessesForP0
import Derived.Test.YthincoghppaegaaZGuessesForP2
import Derived.Test.YthincoghppaegaaZGuessesForP3
import Derived.Test.YthincoghppaegaaZGuessesForP4
import Derived.Test.YthincoghppaegaaZGuessesForP5
import Derived.Test.YthincoghppaegaaZGuessesForP6
import Derived.Test.YthincoghppaegaaZGuessesForP7
import Derived.Test.YthincoghppaegaaZGuessesForP8
import Derived.Test.YthincoghppaegaaZGuessesForP9
import Derived.Test.YthincoghppaegaaZGuessesForP10
import Derived.Test.YthincoghppaegaaZGuessesForP1
import Derived.Test.YthincoghppaegaaZGuessesForP11
import Derived.Test.YthincoghppaegaaZGuessesForP12
import Derived.Test.YthincoghppaegaaZGuessesForP13
import Derived.Test.YthincoghppaegaaZGuessesForP14
import Derived.Test.YthincoghppaegaaZGuessesForP15
import Derived.Test.YthincoghppaegaaZGuessesForP16
namespace Go.Proofs.Ythincoghppaegaa.PFnExactGuessesFor
open Go.RowKit Go.Proofs.YthincoghppaegaaW.PrintWords Go.Proofs.YthincoghppaegaaW.PrintLast Go.Proofs.YthincoghppaegaaW.PrintMore
set_option linter.unusedVariables false
structure S24 where
  f0 : Int
  f1 : (List S72)
def z24 : S24 := ⟨(0 : Int), ([] : List S72)⟩
def k24 : Kd S24 := Kd.iso (Kd.pair (Kd.int .i64) (Kd.slice 72 k72)) (fun x : S24 => (x.f0, x.f1))
theorem k24_open {w : World} {x : S24} {cs : List Value} (h : k24.K w x cs) : ∃ A1 c1, cs = [.int .i64 x.f0, .slice A1 x.f1.length c1] ∧ x.f1.length ≤ c1 ∧ k72.C w A1 x.f1.length x.f1 := by
  obtain ⟨_, _, rfl, rfl, ⟨A1, c1, rfl, l1, g1⟩⟩ := h
  exact ⟨A1, c1, rfl, l1, g1⟩
theorem k24_openM {w : World} {base : Nat} {ok : Nat → Prop} {x : S24} {cs : List Value} (h : k24.M w base ok x cs) : ∃ v1, cs = [.int .i64 x.f0, v1] ∧ k72.R 72 w base ok v1 x.f1 := by
  obtain ⟨_, _, rfl, rfl, ⟨v1, rfl, g1⟩⟩ := h
  exact ⟨v1, rfl, g1⟩
theorem k24_mk (w : World) (x : S24) {A1 : Option Addr} {c1 : Nat} (l1 : x.f1.length ≤ c1) (g1 : k72.C w A1 x.f1.length x.f1) : k24.K w x [.int .i64 x.f0, .slice A1 x.f1.length c1] := ⟨[.int .i64 x.f0], [.slice A1 x.f1.length c1], rfl, rfl, ⟨A1, c1, rfl, l1, g1⟩⟩
theorem k24_mkM (w : World) (base : Nat) (ok : Nat → Prop) (x : S24) {v1 : Value} (g1 : k72.R 72 w base ok v1 x.f1) : k24.M w base ok x [.int .i64 x.f0, v1] := ⟨[.int .i64 x.f0], [v1], rfl, rfl, ⟨v1, rfl, g1⟩⟩
def rd_T24 (xs : List S24) (i : Int) : S24 := xs.getD i.toNat z24
theorem at_T24 {w : World} {A : Option Addr} {n : Nat} {xs : List S24} (h : Kd.C k24 w A n xs) (i : Int) (h0 : 0 ≤ i) (h1 : i < n) : ∃ ad A1 c1, A = some ad ∧ w.cell? (ad.add (i.toNat * 2)) = some (.int .i64 (rd_T24 xs i).f0) ∧ w.cell? ⟨(ad.add (i.toNat * 2)).block, (ad.add (i.toNat * 2)).off + 1, none⟩ = some (.slice A1 (rd_T24 xs i).f1.length c1) ∧ (rd_T24 xs i).f1.length ≤ c1 ∧ k72.C w A1 (rd_T24 xs i).f1.length (rd_T24 xs i).f1 := by
  obtain ⟨ad, c, e, _, hK, hc0⟩ := Kd.C_get h z24 i h0 h1
  have hc : ∀ j u, c[j]? = some u → w.cell? (ad.add (i.toNat * 2 + j)) = some u := hc0
  obtain ⟨A1, c1, rfl, l1, g1⟩ := k24_open hK
  exact ⟨ad, A1, c1, e, hc 0 _ rfl, by rw [← add_field _ _ 1 (by omega)]; exact hc 1 _ rfl, l1, g1⟩

def OK72 (y : S72) : Prop := (Lit.int .i64 y.f0).wf = true ∧ y.f1.size ≤ 140737488351232 ∧ (Lit.int .i64 y.f2).wf = true ∧ (Lit.int .i64 y.f3).wf = true
def OK24 (y : S24) : Prop := (Lit.int .i64 y.f0).wf = true ∧ (y.f1.length * 40 ≤ 140737488351232 ∧ y.f1.length ≤ 9223372036854775807 ∧ ∀ x ∈ y.f1, OK72 x)
def OK52 (y : S52) : Prop := y.f0.size ≤ 140737488351232 ∧ (Lit.int .i64 y.f1).wf = true
def laws_FnExactGuessesFor.Pure : Prop := ∀ (y0 : S24) (l1 : (List S52)) (l2 : (List ByteArray)) (a3 : ByteArray) (a4 : Int), OK24 y0 → (l1.length * 24 ≤ 140737488351232 ∧ l1.length ≤ 9223372036854775807 ∧ ∀ x ∈ l1, OK52 x) → (l2.length * 16 ≤ 140737488351232 ∧ l2.length ≤ 9223372036854775807 ∧ ∀ x ∈ l2, x.size ≤ 140737488351232) → a3.size ≤ 140737488351232 → (Lit.int .i64 a4).wf = true → ∃ k, laws_FnExactGuessesFor.f k y0.f0 y0.f1 l1 l2 a3 a4 = some true
end Go.Proofs.Ythincoghppaegaa.PFnExactGuessesFor
