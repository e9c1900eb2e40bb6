/- What the law's arguments are (each with the bound that the row gives), and the statement that is left to prove, without Go and memory. No condition beside these bounds. -/
import Derived.Test.YtddacmgigolcbaaZFitsClueP0
import Derived.Test.YtddacmgigolcbaaZFitsClueP2
import Derived.Test.YtddacmgigolcbaaZFitsClueP3
import Derived.Test.YtddacmgigolcbaaZFitsClueP4
import Derived.Test.YtddacmgigolcbaaZFitsClueP5
import Derived.Test.YtddacmgigolcbaaZFitsClueP6
import Derived.Test.YtddacmgigolcbaaZFitsClueP7
import Derived.Test.YtddacmgigolcbaaZFitsClueP8
import Derived.Test.YtddacmgigolcbaaZFitsClueP1
import Derived.Test.YtddacmgigolcbaaZFitsClueP9
import Derived.Test.YtddacmgigolcbaaZFitsClueP10
import Derived.Test.YtddacmgigolcbaaZFitsClueP11
import Derived.Test.YtddacmgigolcbaaZFitsClueP12
import Derived.Test.YtddacmgigolcbaaZFitsClueP13
namespace Go.Proofs.Ytddacmgigolcbaa.PFnExactFitsClue
open Go.RowKit Go.Proofs.YtddacmgigolcbaaW.PrintWords Go.Proofs.YtddacmgigolcbaaW.PrintLast Go.Proofs.YtddacmgigolcbaaW.PrintMore
set_option linter.unusedVariables false
structure S70 where
  f0 : Int
  f1 : (List S144)
def z70 : S70 := ⟨(0 : Int), ([] : List S144)⟩
def k70 : Kd S70 := Kd.iso (Kd.pair (Kd.int .i64) (Kd.slice 144 k144)) (fun x : S70 => (x.f0, x.f1))
theorem k70_open {w : World} {x : S70} {cs : List Value} (h : k70.K w x cs) : ∃ A1 c1, cs = [.int .i64 x.f0, .slice A1 x.f1.length c1] ∧ x.f1.length ≤ c1 ∧ k144.C w A1 x.f1.length x.f1 := by
  obtain ⟨_, _, rfl, rfl, ⟨A1, c1, rfl, l1, g1⟩⟩ := h
  exact ⟨A1, c1, rfl, l1, g1⟩
theorem k70_openM {w : World} {base : Nat} {ok : Nat → Prop} {x : S70} {cs : List Value} (h : k70.M w base ok x cs) : ∃ v1, cs = [.int .i64 x.f0, v1] ∧ k144.R 144 w base ok v1 x.f1 := by
  obtain ⟨_, _, rfl, rfl, ⟨v1, rfl, g1⟩⟩ := h
  exact ⟨v1, rfl, g1⟩
theorem k70_mk (w : World) (x : S70) {A1 : Option Addr} {c1 : Nat} (l1 : x.f1.length ≤ c1) (g1 : k144.C w A1 x.f1.length x.f1) : k70.K w x [.int .i64 x.f0, .slice A1 x.f1.length c1] := ⟨[.int .i64 x.f0], [.slice A1 x.f1.length c1], rfl, rfl, ⟨A1, c1, rfl, l1, g1⟩⟩
theorem k70_mkM (w : World) (base : Nat) (ok : Nat → Prop) (x : S70) {v1 : Value} (g1 : k144.R 144 w base ok v1 x.f1) : k70.M w base ok x [.int .i64 x.f0, v1] := ⟨[.int .i64 x.f0], [v1], rfl, rfl, ⟨v1, rfl, g1⟩⟩
def rd_T70 (xs : List S70) (i : Int) : S70 := xs.getD i.toNat z70
theorem at_T70 {w : World} {A : Option Addr} {n : Nat} {xs : List S70} (h : Kd.C k70 w A n xs) (i : Int) (h0 : 0 ≤ i) (h1 : i < n) : ∃ ad A1 c1, A = some ad ∧ w.cell? (ad.add (i.toNat * 2)) = some (.int .i64 (rd_T70 xs i).f0) ∧ w.cell? ⟨(ad.add (i.toNat * 2)).block, (ad.add (i.toNat * 2)).off + 1, none⟩ = some (.slice A1 (rd_T70 xs i).f1.length c1) ∧ (rd_T70 xs i).f1.length ≤ c1 ∧ k144.C w A1 (rd_T70 xs i).f1.length (rd_T70 xs i).f1 := by
  obtain ⟨ad, c, e, _, hK, hc0⟩ := Kd.C_get h z70 i h0 h1
  have hc : ∀ j u, c[j]? = some u → w.cell? (ad.add (i.toNat * 2 + j)) = some u := hc0
  obtain ⟨A1, c1, rfl, l1, g1⟩ := k70_open hK
  exact ⟨ad, A1, c1, e, hc 0 _ rfl, by rw [← add_field _ _ 1 (by omega)]; exact hc 1 _ rfl, l1, g1⟩

def OK144 (y : S144) : Prop := (Lit.int .i64 y.f0).wf = true ∧ y.f1.size ≤ 140737488351232 ∧ (Lit.int .i64 y.f2).wf = true ∧ (Lit.int .i64 y.f3).wf = true
def OK70 (y : S70) : Prop := (Lit.int .i64 y.f0).wf = true ∧ (y.f1.length * 40 ≤ 140737488351232 ∧ y.f1.length ≤ 9223372036854775807 ∧ ∀ x ∈ y.f1, OK144 x)
def OK38 (y : S38) : Prop := y.f0.size ≤ 140737488351232 ∧ (Lit.int .i64 y.f1).wf = true
def laws_FnExactFitsClue.Pure : Prop := ∀ (y0 : S70) (l1 : (List S38)) (a2 : ByteArray), OK70 y0 → (l1.length * 24 ≤ 140737488351232 ∧ l1.length ≤ 9223372036854775807 ∧ ∀ x ∈ l1, OK38 x) → a2.size ≤ 140737488351232 → ∃ k, laws_FnExactFitsClue.f k y0.f0 y0.f1 l1 a2 = some true
end Go.Proofs.Ytddacmgigolcbaa.PFnExactFitsClue
