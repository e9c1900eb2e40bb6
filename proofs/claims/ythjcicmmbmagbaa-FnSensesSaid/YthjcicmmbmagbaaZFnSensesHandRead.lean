/- What the reader of wordplay makes of a text: its struct (the rest of the text, the steps) and what it answers. Plain contracts. -/
import Derived.Test.YthjcicmmbmagbaaProg
import Derived.ArgAppend
import Derived.WalkKit
import Derived.Lib.Strings
import Derived.Lib.Bytealg
import Derived.Lib.Hide
import Derived.Deep.Draws
import Derived.Deep.QuietTactic
import Derived.BigQuiet
import Derived.BigGuard
import Derived.BigCall
import Derived.Below
import Derived.Test.YthjcicmmbmagbaaZFnSensesW
namespace Go.Proofs.Ythjcicmmbmagbaa.HandRead
open Go.RowKit Go.Proofs Go.Proofs.YthjcicmmbmagbaaW.PrintWords Go.Proofs.YthjcicmmbmagbaaW.PrintLast Go.Proofs.YthjcicmmbmagbaaW.PrintMore
set_option linter.unusedVariables false
set_option linter.unusedSimpArgs false
structure But (w w' : World) (row : Nat → Prop) : Prop where
 os : w'.os = w.os
 tape : w'.tape = w.tape
 output : w'.output = w.output
 size : w.heap.size ≤ w'.heap.size
 block : ∀ k, k < w.heap.size → ¬ row k → w'.heap[k]? = w.heap[k]?
theorem But.refl (w : World) (row : Nat → Prop) : But w w row := ⟨rfl, rfl, rfl, Nat.le_refl _, fun _ _ _ => rfl⟩
theorem But.trans {a b c : World} {r1 r2 : Nat → Prop} (h : But a b r1) (k : But b c r2) (hr : ∀ k, k < a.heap.size → r2 k → r1 k) : But a c r1 :=
 ⟨k.os.trans h.os, k.tape.trans h.tape, k.output.trans h.output, Nat.le_trans h.size k.size, fun j hj hn => (k.block j (Nat.lt_of_lt_of_le hj h.size) (fun e => hn (hr j hj e))).trans (h.block j hj hn)⟩
theorem But.mono {a b : World} {r1 r2 : Nat → Prop} (h : But a b r1) (hr : ∀ k, r1 k → r2 k) : But a b r2 := ⟨h.os, h.tape, h.output, h.size, fun j hj hn => h.block j hj (fun e => hn (hr j e))⟩
theorem But.drew {a b : World} {r : Nat → Prop} (h : But a b r) : But a b.drew r := ⟨h.os, h.tape, h.output, h.size, h.block⟩
theorem But.drewN {a b : World} {r : Nat → Prop} (h : But a b r) (n : Nat) : But a (b.drewN n) r := ⟨h.os, h.tape, h.output, h.size, h.block⟩
theorem But.setCell {a b : World} {r : Nat → Prop} (h : But a b r) (ad : Addr) (v : Value) (hr : r ad.block ∨ a.heap.size ≤ ad.block) : But a (b.setCell ad v) r :=
 ⟨h.os, h.tape, h.output, by simpa [World.setCell] using h.size, fun j hj hn => by
  rw [← h.block j hj hn]
  have : ¬ ad.block = j := by
   intro e
   rcases hr with hr | hr
   ·exact hn (e ▸ hr)
   ·omega
  simp [World.setCell, Array.getElem?_modify, this]⟩
theorem But.alloc {a b : World} {r : Nat → Prop} (h : But a b r) (o : Obj) : But a (b.alloc o) r :=
 ⟨h.os, h.tape, h.output, by have := h.size; simp; omega, fun j hj hn => (heap_alloc_old b o (Nat.lt_of_lt_of_le hj h.size)).trans (h.block j hj hn)⟩
theorem But.below {a b : World} {r : Nat → Prop} {B : Nat} (h : But a b r) (hB : B ≤ a.heap.size) (hr : ∀ k, r k → B ≤ k) : Below B a b :=
 ⟨h.os, h.tape, h.output, h.size, fun k hk => h.block k (by omega) (fun e => by have := hr k e; omega)⟩
theorem heap_set (w : World) (g o : Nat) (x : Value) {cur : Array Value} {e : TypeId} {fz : Nat × Nat} (h : w.heap[g]? = some (.cells cur e fz)) : (w.setCell ⟨g, o, none⟩ x).heap[g]? = some (.cells (cur.setIfInBounds o x) e fz) := by
 simp [World.setCell, Array.getElem?_modify, h]
def sM (s : ByteArray) (c : UInt8) : Bool := Lib.hasPrefix s.data.toList [c]
def sw (s : ByteArray) (c : UInt8) : ByteArray := ⟨(Lib.trimPrefix s.data.toList [c]).toArray⟩
abbrev Stp := Int × ByteArray × Int × Int
def cs (x : Stp) : List Value := [.int .i64 x.1, .string x.2.1, .int .i64 x.2.2.1, .int .i64 x.2.2.2]
def fin (s : ByteArray) (l : List Stp) (kd a b : Int) : Int × ByteArray × List Stp :=
 if sM s 41 = true then ((l.length : Int), sw s 41, l ++ [(kd, ⟨#[]⟩, a, b)]) else (-1, sw s 41, l)
def Read (w w' : World) (g base : Nat) (v : Value) (s' : ByteArray) (l' : List Stp) : Prop :=
 ∃ v' : Value, w'.heap[g]? = some (.cells #[.string s', v'] 106 (0, 0)) ∧ w'.ownsRow base 110 4 v' l'.length (l'.flatMap cs) ∧ v'.ownBlock ≠ some g ∧
  (v'.ownBlock = v.ownBlock ∨ ∃ b, v'.ownBlock = some b ∧ w.heap.size ≤ b) ∧ But w w' (fun k => k = g ∨ some k = v.ownBlock)
structure Inv (w W : World) (g base gb : Nat) (v : Value) (sx : ByteArray) (vx : Value) (lx : List Stp) (kd : Int) (wd : ByteArray) (a b : Int) : Prop where
 hG : W.heap[g]? = some (.cells #[.string sx, vx] 106 (0, 0))
 hK : W.heap[gb]? = some (.cells #[.int .i64 kd, .string wd, .int .i64 a, .int .i64 b] 110 (0, 0))
 ho : W.ownsRow base 110 4 vx lx.length (lx.flatMap cs)
 hvg : vx.ownBlock ≠ some g
 hvk : vx.ownBlock ≠ some gb
 hgk : gb ≠ g
 hnew : w.heap.size ≤ gb
 hbw : base ≤ W.heap.size
 hsame : vx.ownBlock = v.ownBlock ∨ ∃ b, vx.ownBlock = some b ∧ w.heap.size ≤ b
 hB : But w W (fun k => k = g ∨ some k = v.ownBlock)
section
variable {w W w1 : World} {g base gb : Nat} {v vx : Value} {sx wd : ByteArray} {lx : List Stp} {kd a b : Int}
theorem Inv.cells (h : Inv w W g base gb v sx vx lx kd wd a b) : W.cell? ⟨g, 0, none⟩ = some (.string sx) ∧ W.cell? ⟨g, 1, none⟩ = some vx ∧ W.frozen? ⟨g, 0, none⟩ = false ∧ W.frozen? ⟨g, 1, none⟩ = false ∧
  W.cell? ⟨gb, 0, none⟩ = some (.int .i64 kd) ∧ W.cell? ⟨gb, 1, none⟩ = some (.string wd) ∧ W.cell? ⟨gb, 2, none⟩ = some (.int .i64 a) ∧ W.cell? ⟨gb, 3, none⟩ = some (.int .i64 b) ∧
  W.frozen? ⟨gb, 0, none⟩ = false ∧ W.frozen? ⟨gb, 1, none⟩ = false ∧ W.frozen? ⟨gb, 2, none⟩ = false ∧ W.frozen? ⟨gb, 3, none⟩ = false := by
 have h1 := h.hG
 have h2 := h.hK
 simp [World.cell?, World.frozen?, h1, h2]
theorem Inv.lt (h : Inv w W g base gb v sx vx lx kd wd a b) : g < W.heap.size ∧ gb < W.heap.size ∧ (∀ k, vx.ownBlock = some k → k < W.heap.size) :=
 ⟨(Array.getElem?_eq_some_iff.1 h.hG).1, (Array.getElem?_eq_some_iff.1 h.hK).1, fun k hk => (h.ho.lt k hk).2⟩
theorem Inv.take (h : Inv w W g base gb v sx vx lx kd wd a b) {s' : ByteArray} (hG : w1.heap[g]? = some (.cells #[.string s', vx] 106 (0, 0))) (hb : But W w1 (· = g)) : Inv w w1 g base gb v s' vx lx kd wd a b where
 hG := hG
 hK := (hb.block gb h.lt.2.1 h.hgk).trans h.hK
 ho := ku h.ho (fun k hk => hb.block k (h.lt.2.2 k hk) (fun e => h.hvg (e ▸ hk)))
 hvg := h.hvg
 hvk := h.hvk
 hgk := h.hgk
 hnew := h.hnew
 hbw := Nat.le_trans h.hbw hb.size
 hsame := h.hsame
 hB := h.hB.trans hb (fun k _ e => .inl e)
theorem Inv.set (h : Inv w W g base gb v sx vx lx kd wd a b) (o : Nat) (x : Value) {kd' a' b' : Int} {wd' : ByteArray} (hx : (#[.int .i64 kd, .string wd, .int .i64 a, .int .i64 b] : Array Value).setIfInBounds o x = #[.int .i64 kd', .string wd', .int .i64 a', .int .i64 b']) : Inv w (W.setCell ⟨gb, o, none⟩ x) g base gb v sx vx lx kd' wd' a' b' where
 hG := by
  have hne : ¬ gb = g := h.hgk
  simp [World.setCell, Array.getElem?_modify, hne, h.hG]
 hK := by rw [← hx]; exact heap_set W gb o x h.hK
 ho := ku h.ho (fun k hk => by
  have hne : ¬ gb = k := fun e => h.hvk (e ▸ hk)
  simp [World.setCell, Array.getElem?_modify, hne])
 hvg := h.hvg
 hvk := h.hvk
 hgk := h.hgk
 hnew := h.hnew
 hbw := by simpa [World.setCell] using h.hbw
 hsame := h.hsame
 hB := h.hB.setCell _ _ (.inr h.hnew)
theorem Inv.drewN (h : Inv w W g base gb v sx vx lx kd wd a b) (n : Nat) : Inv w (W.drewN n) g base gb v sx vx lx kd wd a b := ⟨h.hG, h.hK, h.ho, h.hvg, h.hvk, h.hgk, h.hnew, h.hbw, h.hsame, h.hB.drewN n⟩
theorem Inv.read (h : Inv w W g base gb v sx vx lx kd wd a b) : Read w W g base v sx lx := ⟨vx, h.hG, h.ho, h.hvg, h.hsame, h.hB⟩
theorem Inv.drew (h : Inv w W g base gb v sx vx lx kd wd a b) : Inv w W.drew g base gb v sx vx lx kd wd a b := ⟨h.hG, h.hK, h.ho, h.hvg, h.hvk, h.hgk, h.hnew, h.hbw, h.hsame, h.hB.drew⟩
theorem Inv.alloc (h : Inv w W g base gb v sx vx lx kd wd a b) (o : Obj) : Inv w (W.alloc o) g base gb v sx vx lx kd wd a b where
 hG := (heap_alloc_old W o h.lt.1).trans h.hG
 hK := (heap_alloc_old W o h.lt.2.1).trans h.hK
 ho := ku h.ho (fun k hk => heap_alloc_old W o (h.lt.2.2 k hk))
 hvg := h.hvg
 hvk := h.hvk
 hgk := h.hgk
 hnew := h.hnew
 hbw := by have := h.hbw; simp; omega
 hsame := h.hsame
 hB := h.hB.alloc o
end
end Go.Proofs.Ythjcicmmbmagbaa.HandRead
