/- What the reader of wordplay makes of a text: its struct (the rest of the text, the steps) and what it answers. Plain contracts. -/
import Derived.Test.YthjcicmmbmagbaaProg
import Derived.Test.YthjcicmmbmagbaaZFnNotationsShelf
import Derived.ArgAppend
import Derived.WalkKit
import Derived.Lib.Strings
import Derived.Lib.Bytealg
import Derived.Lib.Hide
import Derived.Deep.Draws
import Derived.Deep.QuietTactic
import Derived.BigQuiet
import Derived.BigGuard
import Derived.BigCall
import Derived.Below
import Derived.Test.YthjcicmmbmagbaaZFnNotationsW
namespace Go.Proofs.Ythjcicmmbmagbaa.HandRead
open Go.RowKit Go.Proofs Go.Proofs.YthjcicmmbmagbaaW.PrintWords Go.Proofs.YthjcicmmbmagbaaW.PrintLast Go.Proofs.YthjcicmmbmagbaaW.PrintMore
set_option linter.unusedVariables false
set_option linter.unusedSimpArgs false
structure But (w w' : World) (row : Nat → Prop) : Prop where
 os : w'.os = w.os
 tape : w'.tape = w.tape
 output : w'.output = w.output
 size : w.heap.size ≤ w'.heap.size
 block : ∀ k, k < w.heap.size → ¬ row k → w'.heap[k]? = w.heap[k]?
theorem But.refl (w : World) (row : Nat → Prop) : But w w row := ⟨rfl, rfl, rfl, Nat.le_refl _, fun _ _ _ => rfl⟩
theorem But.trans {a b c : World} {r1 r2 : Nat → Prop} (h : But a b r1) (k : But b c r2) (hr : ∀ k, k < a.heap.size → r2 k → r1 k) : But a c r1 :=
 ⟨k.os.trans h.os, k.tape.trans h.tape, k.output.trans h.output, Nat.le_trans h.size k.size, fun j hj hn => (k.block j (Nat.lt_of_lt_of_le hj h.size) (fun e => hn (hr j hj e))).trans (h.block j hj hn)⟩
theorem But.mono {a b : World} {r1 r2 : Nat → Prop} (h : But a b r1) (hr : ∀ k, r1 k → r2 k) : But a b r2 := ⟨h.os, h.tape, h.output, h.size, fun j hj hn => h.block j hj (fun e => hn (hr j e))⟩
theorem But.drew {a b : World} {r : Nat → Prop} (h : But a b r) : But a b.drew r := ⟨h.os, h.tape, h.output, h.size, h.block⟩
theorem But.drewN {a b : World} {r : Nat → Prop} (h : But a b r) (n : Nat) : But a (b.drewN n) r := ⟨h.os, h.tape, h.output, h.size, h.block⟩
theorem But.setCell {a b : World} {r : Nat → Prop} (h : But a b r) (ad : Addr) (v : Value) (hr : r ad.block ∨ a.heap.size ≤ ad.block) : But a (b.setCell ad v) r :=
 ⟨h.os, h.tape, h.output, by simpa [World.setCell] using h.size, fun j hj hn => by
  rw [← h.block j hj hn]
  have : ¬ ad.block = j := by
   intro e
   rcases hr with hr | hr
   ·exact hn (e ▸ hr)
   ·omega
  simp [World.setCell, Array.getElem?_modify, this]⟩
theorem But.alloc {a b : World} {r : Nat → Prop} (h : But a b r) (o : Obj) : But a (b.alloc o) r :=
 ⟨h.os, h.tape, h.output, by have := h.size; simp; omega, fun j hj hn => (heap_alloc_old b o (Nat.lt_of_lt_of_le hj h.size)).trans (h.block j hj hn)⟩
theorem But.below {a b : World} {r : Nat → Prop} {B : Nat} (h : But a b r) (hB : B ≤ a.heap.size) (hr : ∀ k, r k → B ≤ k) : Below B a b :=
 ⟨h.os, h.tape, h.output, h.size, fun k hk => h.block k (by omega) (fun e => by have := hr k e; omega)⟩
theorem heap_set (w : World) (g o : Nat) (x : Value) {cur : Array Value} {e : TypeId} {fz : Nat × Nat} (h : w.heap[g]? = some (.cells cur e fz)) : (w.setCell ⟨g, o, none⟩ x).heap[g]? = some (.cells (cur.setIfInBounds o x) e fz) := by
 simp [World.setCell, Array.getElem?_modify, h]
def isL (c : UInt8) : Bool := decide (97 ≤ c.toNat ∧ c.toNat ≤ 122)
def lets : List UInt8 → Nat
 | [] => 0
 | c :: r => if isL c = true then lets r + 1 else 0
theorem qp : ∀ l, lets l ≤ l.length
 | [] => Nat.le_refl _
 | c :: r => by unfold lets; split; have := qp r; simp; omega; simp
def oG (s : ByteArray) (c : UInt8) : Bool := Lib.hasPrefix s.data.toList [c]
def mG (s : ByteArray) (c : UInt8) : ByteArray := ⟨(Lib.trimPrefix s.data.toList [c]).toArray⟩
set_option maxHeartbeats 4000000 in
set_option maxRecDepth 100000 in
theorem ql (g : Nat) (s : ByteArray) (v : Value) (c : UInt8) (w : World) (hG : w.heap[g]? = some (.cells #[.string s, v] 106 (0, 0))) :
  Calls Try.prog 128 #[.pointer (some ⟨g, 0, none⟩), .string ⟨#[c]⟩] w fun e w' => e = .returned (.bool (oG s c)) ∧ w'.heap[g]? = some (.cells #[.string (mG s c), v] 106 (0, 0)) ∧ But w w' (· = g) := by
 have hcz0 : w.cell? ⟨g, 0, none⟩ = some (.string s) := by simp [World.cell?, hG]
 have hfz0 : w.frozen? ⟨g, 0, none⟩ = false := by simp [World.frozen?, hG]
 have hend : (w.setCell ⟨g, 0, none⟩ (.string (mG s c))).heap[g]? = some (.cells #[.string (mG s c), v] 106 (0, 0)) := heap_set w g 0 _ hG
 have HEND := Lib.hid hend
 clear hend hG
 go_enter Try.func128, Try.ntmps128
 go_wp2_with (go_at_call 167; refine (Try.strings_CutPrefix _ _ _).mono ?_; rintro e w' ⟨rfl, rfl⟩)
 go_ret
 exact ⟨rfl, HEND.out, (But.refl _ _).setCell _ _ (.inl rfl)⟩
theorem sO (l : List UInt8) (i : Nat) (h : i < l.length) : lets (l.drop i) = if isL l[i] = true then lets (l.drop (i + 1)) + 1 else 0 := by
 rw [List.drop_eq_getElem_cons h]
 rfl
abbrev Stp := Int × ByteArray × Int × Int
def cs (x : Stp) : List Value := [.int .i64 x.1, .string x.2.1, .int .i64 x.2.2.1, .int .i64 x.2.2.2]
def kinds : List UInt8 := [63, 63, 98, 109, 106, 105, 104, 110, 116, 100]
def fin (s : ByteArray) (l : List Stp) (kd a b : Int) : Int × ByteArray × List Stp :=
 if oG s 41 = true then ((l.length : Int), mG s 41, l ++ [(kd, ⟨#[]⟩, a, b)]) else (-1, mG s 41, l)
def mU : Nat → ByteArray → List Stp → Option (Int × ByteArray × List Stp)
 | 0, _, _ => none
 | k + 1, s, l =>
  if l.length < 1000 ∧ s.size < 1000 then
   (if oG (s.extract (lets s.data.toList) s.size) 40 = true then
    (if lets s.data.toList = 1 then
     (if Go.Lib.indexByte kinds (s.data.toList.headD 0) < 2 then some (-1, mG (s.extract (lets s.data.toList) s.size) 40, l) else
      (mU k (mG (s.extract (lets s.data.toList) s.size) 40) l).bind fun r =>
       if r.1 < 0 then some (-1, r.2.1, r.2.2) else
       if Go.Lib.indexByte kinds (s.data.toList.headD 0) = 4 ∨ Go.Lib.indexByte kinds (s.data.toList.headD 0) = 5 then
        (if oG r.2.1 44 = true then
         (mU k (mG r.2.1 44) r.2.2).bind fun q => if q.1 < 0 then some (-1, q.2.1, q.2.2) else
          (if q.2.2.length < 1000 then some (fin q.2.1 q.2.2 (Go.Lib.indexByte kinds (s.data.toList.headD 0)) r.1 q.1) else none)
        else some (-1, mG r.2.1 44, r.2.2))
       else (if r.2.2.length < 1000 then some (fin r.2.1 r.2.2 (Go.Lib.indexByte kinds (s.data.toList.headD 0)) r.1 0) else none))
    else some (-1, mG (s.extract (lets s.data.toList) s.size) 40, l))
   else some ((l.length : Int), mG (s.extract (lets s.data.toList) s.size) 40, l ++ [(1, s.extract 0 (lets s.data.toList), 0, 0)]))
  else none
def Read (w w' : World) (g base : Nat) (v : Value) (s' : ByteArray) (l' : List Stp) : Prop :=
 ∃ v' : Value, w'.heap[g]? = some (.cells #[.string s', v'] 106 (0, 0)) ∧ w'.ownsRow base 110 4 v' l'.length (l'.flatMap cs) ∧ v'.ownBlock ≠ some g ∧
  (v'.ownBlock = v.ownBlock ∨ ∃ b, v'.ownBlock = some b ∧ w.heap.size ≤ b) ∧ But w w' (fun k => k = g ∨ some k = v.ownBlock)
theorem vH (s : ByteArray) (h : 1 ≤ s.size) : s.extract 0 1 = ⟨#[s.data.toList.headD 0]⟩ := by
 obtain ⟨⟨l⟩⟩ := s
 match l, h with
 | c :: r, _ =>
  apply ByteArray.ext
  simp
structure Inv (w W : World) (g base gb : Nat) (v : Value) (sx : ByteArray) (vx : Value) (lx : List Stp) (kd : Int) (wd : ByteArray) (a b : Int) : Prop where
 hG : W.heap[g]? = some (.cells #[.string sx, vx] 106 (0, 0))
 hK : W.heap[gb]? = some (.cells #[.int .i64 kd, .string wd, .int .i64 a, .int .i64 b] 110 (0, 0))
 ho : W.ownsRow base 110 4 vx lx.length (lx.flatMap cs)
 hvg : vx.ownBlock ≠ some g
 hvk : vx.ownBlock ≠ some gb
 hgk : gb ≠ g
 hnew : w.heap.size ≤ gb
 hbw : base ≤ W.heap.size
 hsame : vx.ownBlock = v.ownBlock ∨ ∃ b, vx.ownBlock = some b ∧ w.heap.size ≤ b
 hB : But w W (fun k => k = g ∨ some k = v.ownBlock)
section
variable {w W w1 : World} {g base gb : Nat} {v vx : Value} {sx wd : ByteArray} {lx : List Stp} {kd a b : Int}
theorem Inv.cells (h : Inv w W g base gb v sx vx lx kd wd a b) : W.cell? ⟨g, 0, none⟩ = some (.string sx) ∧ W.cell? ⟨g, 1, none⟩ = some vx ∧ W.frozen? ⟨g, 0, none⟩ = false ∧ W.frozen? ⟨g, 1, none⟩ = false ∧
  W.cell? ⟨gb, 0, none⟩ = some (.int .i64 kd) ∧ W.cell? ⟨gb, 1, none⟩ = some (.string wd) ∧ W.cell? ⟨gb, 2, none⟩ = some (.int .i64 a) ∧ W.cell? ⟨gb, 3, none⟩ = some (.int .i64 b) ∧
  W.frozen? ⟨gb, 0, none⟩ = false ∧ W.frozen? ⟨gb, 1, none⟩ = false ∧ W.frozen? ⟨gb, 2, none⟩ = false ∧ W.frozen? ⟨gb, 3, none⟩ = false := by
 have h1 := h.hG
 have h2 := h.hK
 simp [World.cell?, World.frozen?, h1, h2]
theorem Inv.lt (h : Inv w W g base gb v sx vx lx kd wd a b) : g < W.heap.size ∧ gb < W.heap.size ∧ (∀ k, vx.ownBlock = some k → k < W.heap.size) :=
 ⟨(Array.getElem?_eq_some_iff.1 h.hG).1, (Array.getElem?_eq_some_iff.1 h.hK).1, fun k hk => (h.ho.lt k hk).2⟩
theorem Inv.take (h : Inv w W g base gb v sx vx lx kd wd a b) {s' : ByteArray} (hG : w1.heap[g]? = some (.cells #[.string s', vx] 106 (0, 0))) (hb : But W w1 (· = g)) : Inv w w1 g base gb v s' vx lx kd wd a b where
 hG := hG
 hK := (hb.block gb h.lt.2.1 h.hgk).trans h.hK
 ho := jw h.ho (fun k hk => hb.block k (h.lt.2.2 k hk) (fun e => h.hvg (e ▸ hk)))
 hvg := h.hvg
 hvk := h.hvk
 hgk := h.hgk
 hnew := h.hnew
 hbw := Nat.le_trans h.hbw hb.size
 hsame := h.hsame
 hB := h.hB.trans hb (fun k _ e => .inl e)
theorem Inv.play (h : Inv w W g base gb v sx vx lx kd wd a b) {s' : ByteArray} {l' : List Stp} (hr : Read W w1 g base vx s' l') : ∃ vx' : Value, Inv w w1 g base gb v s' vx' l' kd wd a b := by
 obtain ⟨v', hG, ho, hvg, hs, hb⟩ := hr
 have hlt := h.lt
 have hsz := h.hB.size
 refine ⟨v', hG, (hb.block gb hlt.2.1 (fun e => ?_)).trans h.hK, ho, hvg, fun e => ?_, h.hgk, h.hnew, Nat.le_trans h.hbw hb.size, ?_, h.hB.trans hb (fun k hk e => ?_)⟩
 ·rcases e with e | e
  ·exact h.hgk e
  ·exact h.hvk e.symm
 ·rcases hs with hs | ⟨q, hs, hq⟩
  ·exact h.hvk (hs ▸ e)
  ·rw [hs] at e
   cases e
   omega
 ·rcases hs with hs | ⟨q, hs, hq⟩
  ·rw [hs]
   exact h.hsame
  ·exact .inr ⟨q, hs, by omega⟩
 ·rcases e with e | e
  ·exact .inl e
  ·rcases h.hsame with q | ⟨c, q, hc⟩
   ·exact .inr (q ▸ e)
   ·rw [q] at e
    cases e
    omega
theorem Inv.set (h : Inv w W g base gb v sx vx lx kd wd a b) (o : Nat) (x : Value) {kd' a' b' : Int} {wd' : ByteArray} (hx : (#[.int .i64 kd, .string wd, .int .i64 a, .int .i64 b] : Array Value).setIfInBounds o x = #[.int .i64 kd', .string wd', .int .i64 a', .int .i64 b']) : Inv w (W.setCell ⟨gb, o, none⟩ x) g base gb v sx vx lx kd' wd' a' b' where
 hG := by
  have hne : ¬ gb = g := h.hgk
  simp [World.setCell, Array.getElem?_modify, hne, h.hG]
 hK := by rw [← hx]; exact heap_set W gb o x h.hK
 ho := jw h.ho (fun k hk => by
  have hne : ¬ gb = k := fun e => h.hvk (e ▸ hk)
  simp [World.setCell, Array.getElem?_modify, hne])
 hvg := h.hvg
 hvk := h.hvk
 hgk := h.hgk
 hnew := h.hnew
 hbw := by simpa [World.setCell] using h.hbw
 hsame := h.hsame
 hB := h.hB.setCell _ _ (.inr h.hnew)
theorem Inv.drewN (h : Inv w W g base gb v sx vx lx kd wd a b) (n : Nat) : Inv w (W.drewN n) g base gb v sx vx lx kd wd a b := ⟨h.hG, h.hK, h.ho, h.hvg, h.hvk, h.hgk, h.hnew, h.hbw, h.hsame, h.hB.drewN n⟩
theorem Inv.read (h : Inv w W g base gb v sx vx lx kd wd a b) : Read w W g base v sx lx := ⟨vx, h.hG, h.ho, h.hvg, h.hsame, h.hB⟩
theorem Inv.drew (h : Inv w W g base gb v sx vx lx kd wd a b) : Inv w W.drew g base gb v sx vx lx kd wd a b := ⟨h.hG, h.hK, h.ho, h.hvg, h.hvk, h.hgk, h.hnew, h.hbw, h.hsame, h.hB.drew⟩
theorem Inv.alloc (h : Inv w W g base gb v sx vx lx kd wd a b) (o : Obj) : Inv w (W.alloc o) g base gb v sx vx lx kd wd a b where
 hG := (heap_alloc_old W o h.lt.1).trans h.hG
 hK := (heap_alloc_old W o h.lt.2.1).trans h.hK
 ho := jw h.ho (fun k hk => heap_alloc_old W o (h.lt.2.2 k hk))
 hvg := h.hvg
 hvk := h.hvk
 hgk := h.hgk
 hnew := h.hnew
 hbw := by have := h.hbw; simp; omega
 hsame := h.hsame
 hB := h.hB.alloc o
theorem wN : (Try.prog.info? 110).map (fun i => (i.zero, i.size, i.bytes)) = some (some (.agg #[.int .i64 0, .string ⟨#[]⟩, .int .i64 0, .int .i64 0]), 4, 40) := by kernel_rfl
theorem Inv.push (h : Inv w W g base gb v sx vx lx kd wd a b) (hl : lx.length < 1000) : ∃ (gq cap : Nat) (w8 : World),
  (Builtin.append_ #[53, 53] 53 #[vx, .slice (some ⟨W.heap.size, 0, none⟩) 1 1]).run Try.prog (W.alloc (.cells #[.int .i64 kd, .string wd, .int .i64 a, .int .i64 b] 110)) = .ok (.slice (some ⟨gq, 0, none⟩) (lx.length + 1) cap) w8 ∧
  w8.cell? ⟨g, 1, none⟩ = some vx ∧ w8.frozen? ⟨g, 1, none⟩ = false ∧ w8.cell? ⟨gb, 0, none⟩ = some (.int .i64 kd) ∧ w8.cell? ⟨gb, 1, none⟩ = some (.string wd) ∧ w8.cell? ⟨gb, 2, none⟩ = some (.int .i64 a) ∧ w8.cell? ⟨gb, 3, none⟩ = some (.int .i64 b) ∧
  Read w (w8.setCell ⟨g, 1, none⟩ (.slice (some ⟨gq, 0, none⟩) (lx.length + 1) cap)) g base v sx (lx ++ [(kd, wd, a, b)]) ∧ (w8.setCell ⟨g, 1, none⟩ (.slice (some ⟨gq, 0, none⟩) (lx.length + 1) cap)).cell? ⟨g, 1, none⟩ = some (.slice (some ⟨gq, 0, none⟩) (lx.length + 1) cap) := by
 obtain ⟨i0, hi0, hz0, hz1, hz2⟩ := info_parts wN
 have h3 := h.alloc (.cells #[.int .i64 kd, .string wd, .int .i64 a, .int .i64 b] 110)
 have hnb := heap_alloc_new W (.cells #[.int .i64 kd, .string wd, .int .i64 a, .int .i64 b] 110)
 have hwlt : w.heap.size ≤ W.heap.size := h.hB.size
 generalize W.heap.size = q at *
 generalize hW3 : W.alloc (.cells #[.int .i64 kd, .string wd, .int .i64 a, .int .i64 b] 110) = W3 at *
 have hnews : ∀ j u, ([.int .i64 kd, .string wd, .int .i64 a, .int .i64 b] : List Value)[j]? = some u → W3.cell? ((⟨q, 0, none⟩ : Addr).add j) = some u := fun j u hj => by
  rw [Addr.add_lit, Nat.zero_add]
  simpa [World.cell?, hnb] using hj
 obtain ⟨v8, w8, hr8, ho8, hg8, hn8, hat8⟩ := run_append_own_at (P := Try.prog) W3 base 53 53 110 i0 _ 4 40 Try.underlying53 hi0 hz0 hz1 hz2 rfl (by decide) vx lx.length (lx.flatMap cs) h3.ho ⟨q, 0, none⟩ 1 1 [.int .i64 kd, .string wd, .int .i64 a, .int .i64 b] rfl hnews
  (by intro u hu; simp only [List.mem_cons, List.not_mem_nil, or_false] at hu; rcases hu with rfl | rfl | rfl | rfl <;> rfl) (by unfold maxLen; omega) (by omega) h3.hbw
 have hlt := h3.lt
 have hg1 : w8.heap[g]? = some (.cells #[.string sx, vx] 106 (0, 0)) := (hg8.block g hlt.1 (fun e => h.hvg e.symm)).trans h3.hG
 have hk1 : w8.heap[gb]? = some (.cells #[.int .i64 kd, .string wd, .int .i64 a, .int .i64 b] 110 (0, 0)) := (hg8.block gb hlt.2.1 (fun e => h.hvk e.symm)).trans h3.hK
 rcases ho8.2 with ⟨_, h0⟩ | ⟨gq, cap, cur, rfl, hbq, hq, hnc, hcm, hcz, hct⟩
 ·omega
 have hgne : gq ≠ g := by
  rcases hat8 with e | e
  ·intro e2
   subst e2
   exact h.hvg e.symm
  ·have : gq = W3.heap.size := by simpa [Value.ownBlock] using e
   omega
 have hset := heap_set w8 g 1 (.slice (some ⟨gq, 0, none⟩) (lx.length + 1) cap) hg1
 refine ⟨gq, cap, w8, hr8, ?_, ?_, ?_, ?_, ?_, ?_, ⟨_, hset, ?_, ?_, ?_, ?_⟩, ?_⟩
 ·simp [World.cell?, hg1]
 ·simp [World.frozen?, hg1]
 ·simp [World.cell?, hk1]
 ·simp [World.cell?, hk1]
 ·simp [World.cell?, hk1]
 ·simp [World.cell?, hk1]
 ·have ho9 : (w8.setCell ⟨g, 1, none⟩ (.slice (some ⟨gq, 0, none⟩) (lx.length + 1) cap)).ownsRow base 110 4 (.slice (some ⟨gq, 0, none⟩) (lx.length + 1) cap) (lx.length + 1) (lx.flatMap cs ++ [.int .i64 kd, .string wd, .int .i64 a, .int .i64 b]) := jw ho8 (fun k hk => by
   have : gq = k := by simpa [Value.ownBlock] using hk
   subst this
   have hne : ¬ g = gq := fun e => hgne e.symm
   simp [World.setCell, Array.getElem?_modify, hne])
  rw [List.length_append, List.flatMap_append]
  exact ho9
 ·intro e
  have : gq = g := by simpa [Value.ownBlock] using e
  exact hgne this
 ·rcases hat8 with e | e
  ·rw [e]
   exact h.hsame
  ·have : gq = W3.heap.size := by simpa [Value.ownBlock] using e
   exact .inr ⟨gq, rfl, by have := h3.hB.size; omega⟩
 ·refine But.setCell ?_ _ _ (.inl (.inl rfl))
  have hb8 : But W3 w8 (fun k => some k = vx.ownBlock) := ⟨hg8.os, hg8.tape, hg8.output, hg8.size, fun k hk hn => hg8.block k hk hn⟩
  refine h3.hB.trans hb8 (fun k hk e => ?_)
  rcases h.hsame with q2 | ⟨c, q2, hc⟩
  ·exact .inr (q2 ▸ e)
  ·rw [q2] at e
   cases e
   omega
 ·simp [World.cell?, hset]
theorem Inv.start (hB : But w W (fun k => k = g ∨ some k = v.ownBlock)) (hG : W.heap[g]? = some (.cells #[.string sx, v] 106 (0, 0))) (ho : W.ownsRow base 110 4 v lx.length (lx.flatMap cs)) (hvg : v.ownBlock ≠ some g) (hbw : base ≤ W.heap.size) (s' : ByteArray) :
  Inv w ((W.setCell ⟨g, 0, none⟩ (.string s')).alloc (.cells #[.int .i64 kd, .string wd, .int .i64 a, .int .i64 b] 110)) g base W.heap.size v s' v lx kd wd a b := by
 have hlt : g < W.heap.size := (Array.getElem?_eq_some_iff.1 hG).1
 have hsz : (W.setCell ⟨g, 0, none⟩ (.string s')).heap.size = W.heap.size := by simp [World.setCell]
 refine ⟨?_, ?_, ?_, hvg, fun e => ?_, by omega, hB.size, by simp; omega, .inl rfl, (hB.setCell _ _ (.inl (.inl rfl))).alloc _⟩
 ·rw [heap_alloc_old _ _ (by rw [hsz]; exact hlt)]
  exact heap_set W g 0 _ hG
 ·have := heap_alloc_new (W.setCell ⟨g, 0, none⟩ (.string s')) (.cells #[.int .i64 kd, .string wd, .int .i64 a, .int .i64 b] 110)
  rw [hsz] at this
  exact this
 ·refine jw ho (fun k hk => ?_)
  have hk2 := (ho.lt k hk).2
  rw [heap_alloc_old _ _ (by rw [hsz]; exact hk2)]
  have hne : ¬ g = k := fun e => hvg (e ▸ hk)
  simp [World.setCell, Array.getElem?_modify, hne]
 ·have := (ho.lt _ e).2
  omega
end
set_option maxHeartbeats 4000000 in
set_option maxRecDepth 100000 in
theorem wF (IL : ∀ (c : Int) (W : World), Calls Try.prog 122 #[.int .u8 c] W fun e w' => e = .returned (.bool (decide (97 ≤ c ∧ c ≤ 122))) ∧ dB W w')
  (IP : ∀ (c : Int) (W : World), Calls Try.prog 107 #[.int .i64 c] W fun e w' => e = .returned (.bool (decide (c = 4 ∨ c = 5))) ∧ dB W w') :
  ∀ (k g base : Nat) (s : ByteArray) (v : Value) (l : List Stp) (r : Int × ByteArray × List Stp) (w : World) (hG : w.heap[g]? = some (.cells #[.string s, v] 106 (0, 0)))
  (ho : w.ownsRow base 110 4 v l.length (l.flatMap cs)) (hvg : v.ownBlock ≠ some g) (hbg : base ≤ g) (hbw : base ≤ w.heap.size) (h : mU k s l = some r),
  Calls Try.prog 78 #[.pointer (some ⟨g, 0, none⟩)] w fun e w' => e = .returned (.int .i64 r.1) ∧ Read w w' g base v r.2.1 r.2.2 := by
 intro k
 induction k with
 | zero => intro g base s v l r w hG ho hvg hbg hbw h; cases h
 | succ k IH =>
  intro g base s v l r w hG ho hvg hbg hbw h
  unfold mU at h
  by_cases hsz : l.length < 1000 ∧ s.size < 1000
  rotate_left
  ·rw [if_neg hsz] at h
   cases h
  rw [if_pos hsz] at h
  obtain ⟨hl, hs⟩ := hsz
  have hn := qp s.data.toList
  have hsd : s.data.toList.length = s.size := by simp
  rw [hsd] at hn
  have hcz0 : w.cell? ⟨g, 0, none⟩ = some (.string s) := by simp [World.cell?, hG]
  have hcz1 : w.cell? ⟨g, 1, none⟩ = some v := by simp [World.cell?, hG]
  have hfz0 : w.frozen? ⟨g, 0, none⟩ = false := by simp [World.frozen?, hG]
  have hfz1 : w.frozen? ⟨g, 1, none⟩ = false := by simp [World.frozen?, hG]
  have H := Lib.hid h
  have HG := Lib.hid hG
  have HO := Lib.hid ho
  have HVG := Lib.hid hvg
  have HSD := Lib.hid hsd
  have HIH := Lib.hid IH
  have HIL := Lib.hid IL
  have HIP := Lib.hid IP
  obtain ⟨N, hN⟩ : ∃ N, N = lets s.data.toList := ⟨_, rfl⟩
  rw [← hN] at hn
  have HN := Lib.hid hN
  clear h hG ho hvg hsd IH IL IP hN
  go_enter Try.func78, Try.ntmps78
  go_wp2
  go_loopw [3] (fun v3 wr => ∃ (i m : Nat), v3 = .int .i64 i ∧ i ≤ N ∧ aj (lets (s.data.toList.drop i) + i = N) ∧ wr = w.drewN m) (fun v3 _ => N + 1 - (intOf v3).toNat)
  case atStart => exact ⟨0, 0, rfl, Nat.zero_le _, ⟨by rw [HN.out]; rfl⟩, rfl⟩
  case round =>
   obtain ⟨i, m, rfl, hi, HI, rfl⟩ := hrel
   have hcase : (∃ hlt : i < s.size, isL s[i] = true) ∨ (i = N ∧ ∃ hlt : i < s.size, isL s[i] = false) ∨ (i = N ∧ ¬ i < s.size) := by
    by_cases hlt : i < s.size
    ·have hla := sO s.data.toList i (by rw [HSD.out]; exact hlt)
     have hge : s.data.toList[i]'(by rw [HSD.out]; exact hlt) = s[i] := rfl
     rw [hge] at hla
     by_cases hL : isL s[i] = true
     ·exact .inl ⟨hlt, hL⟩
     ·rw [if_neg hL] at hla
      exact .inr (.inl ⟨by have := HI.out; omega, hlt, Bool.eq_false_iff.mpr hL⟩)
    ·exact .inr (.inr ⟨by omega, hlt⟩)
   rcases hcase with ⟨hlt, hL⟩ | ⟨hiN, hlt, hL⟩ | ⟨hiN, hlt⟩
   ·have hla := sO s.data.toList i (by rw [HSD.out]; exact hlt)
    have hge : s.data.toList[i]'(by rw [HSD.out]; exact hlt) = s[i] := rfl
    rw [hge, if_pos hL] at hla
    have hi2 : i + 1 ≤ N := by have := HI.out; omega
    have hI2 : lets (s.data.toList.drop (i + 1)) + (i + 1) = N := by have := HI.out; omega
    have hil : ∀ W : World, Calls Try.prog 122 #[.int .u8 ((s[i]).toNat : Int)] W fun e w' => e = .returned (.bool true) ∧ dB W w' := fun W => by
     have h5 := HIL.out ((s[i]).toNat : Int) W
     rw [show decide ((97 : Int) ≤ (s[i].toNat : Int) ∧ (s[i].toNat : Int) ≤ 122) = true by
      have := of_decide_eq_true hL
      exact decide_eq_true (by omega)] at h5
     exact h5
    have HL1 := Lib.hid hil
    have HI2 := Lib.hid hI2
    clear hla hge hL hil hI2
    go_wp2_with (go_at_call 122; refine (HL1.out _).mono ?_; rintro e w' ⟨rfl, ⟨nd, rfl⟩⟩)
    go_roundw
    case rel => exact ⟨i + 1, _, by go_num, hi2, ⟨HI2.out⟩, rfl⟩
    case measure => simp [intOf]; omega
   case' inr.inl =>
    have hil : ∀ W : World, Calls Try.prog 122 #[.int .u8 ((s[i]).toNat : Int)] W fun e w' => e = .returned (.bool false) ∧ dB W w' := fun W => by
     have h5 := HIL.out ((s[i]).toNat : Int) W
     rw [show decide ((97 : Int) ≤ (s[i].toNat : Int) ∧ (s[i].toNat : Int) ≤ 122) = false by
      have := of_decide_eq_false hL
      exact decide_eq_false (by omega)] at h5
     exact h5
    have HL1 := Lib.hid hil
    clear hL hil HI
    obtain rfl : i = N := hiN
    go_upto_region 4 with (go_at_call 122; refine (HL1.out _).mono ?_; rintro e w' ⟨rfl, ⟨nd, rfl⟩⟩)
    clear HL1
    generalize hW0 : World.drewN w _ = W0
   case' inr.inr =>
    clear HI
    obtain rfl : i = N := hiN
    go_upto_region 4 with fail
    clear hlt
    generalize hW0 : World.drewN w _ = W0
   all_goals
    have hB0 : But w W0 (fun k => k = g ∨ some k = v.ownBlock) := by rw [← hW0]; exact (But.refl w _).drewN _
    replace hcz0 : W0.cell? ⟨g, 0, none⟩ = some (.string s) := by rw [← hW0]; exact hcz0
    replace hcz1 : W0.cell? ⟨g, 1, none⟩ = some v := by rw [← hW0]; exact hcz1
    replace hfz0 : W0.frozen? ⟨g, 0, none⟩ = false := by rw [← hW0]; exact hfz0
    replace hfz1 : W0.frozen? ⟨g, 1, none⟩ = false := by rw [← hW0]; exact hfz1
    have hG0 : W0.heap[g]? = some (.cells #[.string s, v] 106 (0, 0)) := by rw [← hW0]; exact HG.out
    have ho0 : W0.ownsRow base 110 4 v l.length (l.flatMap cs) := by rw [← hW0]; exact HO.out
    have HB := Lib.hid hB0
    have HG0 := Lib.hid hG0
    have HO0 := Lib.hid ho0
    clear hW0 hB0 hG0 ho0 HG HO
    go_wp2_with fail
    have I0 := Inv.start (kd := 1) (wd := s.extract 0 i) (a := 0) (b := 0) HB.out HG0.out HO0.out HVG.out (by have := HB.out.size; omega) (s.extract i s.size)
    clear hcz0 hcz1 hfz0 hfz1 HB HG0 HO0
    generalize (W0.setCell ⟨g, 0, none⟩ (.string (s.extract i s.size))).alloc _ = W1 at I0 ⊢
    generalize W0.heap.size = gb at I0 ⊢
    refine (ql g _ v 40 _ I0.hG).mono ?_
    rintro e w1 ⟨rfl, hG1, hb1⟩
    replace I0 := I0.take hG1 hb1
    clear hG1 hb1
    obtain ⟨c0, c1, f0, f1, k0, k1, k2, k3, q0, q1, q2, q3⟩ := I0.cells
    have HI := Lib.hid I0
    clear I0
    replace H := H.out
    rw [← HN.out] at H
    have hww : (s.extract 0 i).size = i := by rw [ByteArray.size_extract]; omega
    by_cases p1 : oG (s.extract i s.size) 40 = true
    ·rw [if_pos p1] at H
     by_cases p2 : i = 1
     ·rw [if_pos p2] at H
      subst p2
      have hwd : s.extract 0 1 = ⟨#[s.data.toList.headD 0]⟩ := vH s (by omega)
      have hx : ∀ W : World, Calls Try.prog 129 #[.string ⟨#[63, 63, 98, 109, 106, 105, 104, 110, 116, 100]⟩, .string (s.extract 0 1)] W fun e w' => e = .returned (.int .i64 (Go.Lib.indexByte kinds (s.data.toList.headD 0))) ∧ w' = W := fun W => by
       rw [hwd]
       exact Try.strings_Index_one ⟨#[63, 63, 98, 109, 106, 105, 104, 110, 116, 100]⟩ (s.data.toList.headD 0) W
      have hip := HIP.out (Go.Lib.indexByte kinds (s.data.toList.headD 0))
      generalize Go.Lib.indexByte kinds (s.data.toList.headD 0) = KD at H hx hip
      have HX := Lib.hid hx
      have HIPK := Lib.hid hip
      clear hx hip hwd
      go_wp2_with fail
      refine (HX.out _).mono ?_
      rintro e _ ⟨rfl, rfl⟩
      clear HX
      by_cases p3 : KD < 2
      ·rw [if_pos p3] at H
       obtain rfl := Option.some.inj H
       clear H
       replace p3 := decide_eq_true p3
       go_wp2
       have I0 := (((HI.out.set 0 (.int .i64 KD) rfl).set 1 (.string ⟨#[]⟩) rfl).set 2 (.int .i64 0) rfl).set 3 (.int .i64 0) rfl
       go_ret
       exact ⟨rfl, I0.read⟩
      ·rw [if_neg p3] at H
       replace p3 := decide_eq_false p3
       obtain ⟨⟨ra, s2, l2⟩, A1, H⟩ := Option.bind_eq_some_iff.mp H
       dsimp only at H
       go_wp2_with fail
       have I0 := (((HI.out.set 0 (.int .i64 KD) rfl).set 1 (.string ⟨#[]⟩) rfl).set 2 (.int .i64 0) rfl).set 3 (.int .i64 0) rfl
       clear HI c0 c1 f0 f1 k0 k1 k2 k3 q0 q1 q2 q3
       refine (HIH.out g base _ v l _ _ I0.hG I0.ho I0.hvg hbg I0.hbw A1).mono ?_
       clear A1
       rintro e w2 ⟨rfl, hr2⟩
       obtain ⟨vx, I1⟩ := I0.play hr2
       clear hr2 I0
       have I0 := I1
       clear I1
       obtain ⟨c0, c1, f0, f1, k0, k1, k2, k3, q0, q1, q2, q3⟩ := I0.cells
       have HI := Lib.hid I0
       clear I0
       by_cases p4 : ra < 0
       ·rw [if_pos p4] at H
        obtain rfl := Option.some.inj H
        clear H
        replace p4 := decide_eq_true p4
        go_wp2
        have I0 := HI.out.set 2 (.int .i64 ra) rfl
        go_ret
        exact ⟨rfl, I0.read⟩
       rw [if_neg p4] at H
       replace p4 := decide_eq_false p4
       by_cases p5 : KD = 4 ∨ KD = 5
       ·rw [if_pos p5] at H
        have hip : ∀ W : World, Calls Try.prog 107 #[.int .i64 KD] W fun e w' => e = .returned (.bool true) ∧ dB W w' := fun W => by
         have h5 := HIPK.out W
         rw [decide_eq_true p5] at h5
         exact h5
        clear p5 HIPK
        have HIPK := Lib.hid hip
        clear hip
        go_wp2_with fail
        refine (HIPK.out _).mono ?_
        rintro e _ ⟨rfl, ⟨nd, rfl⟩⟩
        clear HIPK
        have I0 := (HI.out.set 2 (.int .i64 ra) rfl).drewN nd
        clear HI c0 c1 f0 f1 k0 k1 k2 k3 q0 q1 q2 q3
        generalize World.drewN _ nd = w3 at I0 ⊢
        obtain ⟨c0, c1, f0, f1, k0, k1, k2, k3, q0, q1, q2, q3⟩ := I0.cells
        have HI := Lib.hid I0
        clear I0
        go_wp2_with fail
        have I0 := HI.out
        clear HI
        clear c0 c1 f0 f1 k0 k1 k2 k3 q0 q1 q2 q3
        refine (ql g _ _ 44 _ I0.hG).mono ?_
        rintro e _ ⟨rfl, hG1, hb1⟩
        replace I0 := I0.take hG1 hb1
        clear hG1 hb1
        obtain ⟨c0, c1, f0, f1, k0, k1, k2, k3, q0, q1, q2, q3⟩ := I0.cells
        have HI := Lib.hid I0
        clear I0
        by_cases p6 : oG s2 44 = true
        rotate_left
        ·rw [if_neg p6] at H
         obtain rfl := Option.some.inj H
         clear H
         replace p6 := Bool.eq_false_iff.mpr p6
         go_wp2
         have I0 := HI.out
         go_ret
         exact ⟨rfl, I0.read⟩
        rw [if_pos p6] at H
        obtain ⟨⟨rb, s3, l3⟩, A2, H⟩ := Option.bind_eq_some_iff.mp H
        dsimp only at H
        go_wp2_with fail
        have I0 := HI.out
        clear HI c0 c1 f0 f1 k0 k1 k2 k3 q0 q1 q2 q3
        refine (HIH.out g base _ vx l2 _ _ I0.hG I0.ho I0.hvg hbg I0.hbw A2).mono ?_
        clear A2
        rintro e w4 ⟨rfl, hr2⟩
        obtain ⟨vy, I1⟩ := I0.play hr2
        clear hr2 I0
        have I0 := I1
        clear I1
        obtain ⟨c0, c1, f0, f1, k0, k1, k2, k3, q0, q1, q2, q3⟩ := I0.cells
        have HI := Lib.hid I0
        clear I0
        by_cases p7 : rb < 0
        ·rw [if_pos p7] at H
         obtain rfl := Option.some.inj H
         clear H
         replace p7 := decide_eq_true p7
         go_wp2
         have I0 := HI.out.set 3 (.int .i64 rb) rfl
         go_ret
         exact ⟨rfl, I0.read⟩
        rw [if_neg p7] at H
        replace p7 := decide_eq_false p7
        by_cases p9 : l3.length < 1000
        rotate_left
        ·rw [if_neg p9] at H
         cases H
        rw [if_pos p9] at H
        go_wp2_with fail
        have I0 := HI.out.set 3 (.int .i64 rb) rfl
        clear HI
        clear c0 c1 f0 f1 k0 k1 k2 k3 q0 q1 q2 q3
        refine (ql g _ _ 41 _ I0.hG).mono ?_
        rintro e _ ⟨rfl, hG1, hb1⟩
        replace I0 := I0.take hG1 hb1
        clear hG1 hb1
        obtain ⟨c0, c1, f0, f1, k0, k1, k2, k3, q0, q1, q2, q3⟩ := I0.cells
        have HI := Lib.hid I0
        clear I0
        by_cases p8 : oG s3 41 = true
        ·unfold fin at H
         rw [if_pos p8] at H
         obtain rfl := Option.some.inj H
         clear H
         go_wp2
         refine iJ (n := 11) (S := fun w' => w'.cell? ⟨g, 1, none⟩ = some (vy) ∧ w'.cell? ⟨gb, 0, none⟩ = some (.int .i64 (KD)) ∧ w'.cell? ⟨gb, 1, none⟩ = some (.string (⟨#[]⟩)) ∧ w'.cell? ⟨gb, 2, none⟩ = some (.int .i64 (ra)) ∧ w'.cell? ⟨gb, 3, none⟩ = some (.int .i64 (rb))) (ds := [10]) #[false, false, false, false, false, false, false, false, false, false, false] (by kernel_rfl) rfl rfl ⟨c1, k0, k1, k2, k3⟩ (fun hHeld => ?_)
         have I0 := HI.out.drew
         clear HI c0 c1 f0 f1 k0 k1 k2 k3 q0 q1 q2 q3
         generalize World.drew _ = W2 at I0 hHeld ⊢
         obtain ⟨gq, cap, w8, hr8, d1, e1, d2, d3, d4, d5, hread, d6⟩ := I0.push p9
         obtain ⟨c0, c1, f0, f1, k0, k1, k2, k3, q0, q1, q2, q3⟩ := (I0.alloc (.cells #[.int .i64 (KD), .string (⟨#[]⟩), .int .i64 (ra), .int .i64 (rb)] 110)).cells
         have HR8 := Lib.hid hr8
         have HREAD := Lib.hid hread
         clear hr8 hread I0 c0 f0 f1 q0 q1 q2 q3
         refine ig (i := 0) (N := some 73) (v := ?_) (a' := ?_) #[true, false, false, false, false, false, false, false, false, false, false] rfl rfl (by kernel_rfl) (fun _ _ _ h => h) (Or.inl ⟨by rfl, ?_⟩) ?_ ?_
         rotate_left
         ·intro w'
          go_simp
          with_reducible rfl
         rotate_left
         ·simp only [Act.put, List.setIfInBounds_toArray, List.set_cons_zero, List.set_cons_succ, bY, cu]
          rfl
         refine ig (i := 1) (N := some 74) (v := ?_) (a' := ?_) #[true, true, false, false, false, false, false, false, false, false, false] rfl rfl (by kernel_rfl) (fun _ _ _ h => h) (Or.inl ⟨by rfl, ?_⟩) ?_ ?_
         rotate_left
         ·intro w'
          go_simp
          with_reducible rfl
         rotate_left
         ·simp only [Act.put, List.setIfInBounds_toArray, List.set_cons_zero, List.set_cons_succ, bY, cu]
          rfl
         refine ig (i := 2) (N := some 75) (v := ?_) (a' := ?_) #[true, true, true, false, false, false, false, false, false, false, false] rfl rfl (by kernel_rfl) (fun _ _ _ h => h) (Or.inl ⟨by rfl, ?_⟩) ?_ ?_
         rotate_left
         ·intro w'
          go_simp
          with_reducible rfl
         rotate_left
         ·simp only [Act.put, List.setIfInBounds_toArray, List.set_cons_zero, List.set_cons_succ, bY, cu]
          rfl
         refine ig (i := 3) (N := some 76) (v := ?_) (a' := ?_) #[true, true, true, true, false, false, false, false, false, false, false] rfl rfl (by kernel_rfl) (fun _ _ _ h => h) (Or.inl ⟨by rfl, ?_⟩) ?_ ?_
         rotate_left
         ·intro w'
          go_simp
          with_reducible rfl
         rotate_left
         ·simp only [Act.put, List.setIfInBounds_toArray, List.set_cons_zero, List.set_cons_succ, bY, cu]
          rfl
         refine jy (i := 4) (N := some 77) (v := ?_) (a' := ?_) #[true, true, true, true, true, false, false, false, false, false, false] rfl rfl (by kernel_rfl) (fun _ _ _ h => h) (Or.inl ⟨by rfl, ?_⟩) hHeld ?_ ?_
         rotate_left
         ·rintro w' ⟨s0, s1, s2, s3, s4⟩
          go_simp
          with_reducible rfl
         rotate_left
         ·simp only [Act.put, List.setIfInBounds_toArray, List.set_cons_zero, List.set_cons_succ, bY, cu]
          rfl
         refine jy (i := 5) (N := some 78) (v := ?_) (a' := ?_) #[true, true, true, true, true, true, false, false, false, false, false] rfl rfl (by kernel_rfl) (fun _ _ _ h => h) (Or.inl ⟨by rfl, ?_⟩) hHeld ?_ ?_
         rotate_left
         ·rintro w' ⟨s0, s1, s2, s3, s4⟩
          go_simp
          with_reducible rfl
         rotate_left
         ·simp only [Act.put, List.setIfInBounds_toArray, List.set_cons_zero, List.set_cons_succ, bY, cu]
          rfl
         refine jm (i := 6) (N := some 79) #[true, true, true, true, true, true, true, false, false, false, false] rfl rfl (by kernel_rfl) (by decide) (fun K hK => ?_)
         refine lC (v := .slice (some ⟨W2.heap.size, 0, none⟩) 1 1) (w1 := W2.alloc (.cells #[.int .i64 (KD), .string (⟨#[]⟩), .int .i64 (ra), .int .i64 (rb)] 110)) (by rfl) (by rfl) (by first | (go_simp; done) | (go_simp; rfl)) ?_
         refine hK.out _ _ ⟨c1, k0, k1, k2, k3⟩ (fun hHeld => ?_)
         clear hK K
         refine jL (a' := ?_) ?_ ?_
         rotate_left
         ·show Act.put _ (some 79) _ = _
          simp only [Act.put, List.setIfInBounds_toArray, List.set_cons_zero, List.set_cons_succ, bY, cu]
          rfl
         refine jm (i := 7) (N := some 80) #[true, true, true, true, true, true, true, true, false, false, false] rfl rfl (by kernel_rfl) (by decide) (fun K hK => ?_)
         refine lC (v := .slice (some ⟨gq, 0, none⟩) (l3.length + 1) cap) (w1 := w8) (by rfl) (by rfl) (by simp [execOp, resolve, invoke, builtin, Act.eval, HR8.out]) ?_
         refine hK.out _ _ ⟨d1, d2, d3, d4, d5⟩ (fun hHeld => ?_)
         clear hK K
         refine jL (a' := ?_) ?_ ?_
         rotate_left
         ·show Act.put _ (some 80) _ = _
          simp only [Act.put, List.setIfInBounds_toArray, List.set_cons_zero, List.set_cons_succ, bY, cu]
          rfl
         refine ig (i := 8) (N := some 81) (v := ?_) (a' := ?_) #[true, true, true, true, true, true, true, true, true, false, false] rfl rfl (by kernel_rfl) (fun _ _ _ h => h) (Or.inl ⟨by rfl, ?_⟩) ?_ ?_
         rotate_left
         ·intro w'
          go_simp
          with_reducible rfl
         rotate_left
         ·simp only [Act.put, List.setIfInBounds_toArray, List.set_cons_zero, List.set_cons_succ, bY, cu]
          rfl
         refine ig (i := 9) (N := some 82) (v := ?_) (a' := ?_) #[true, true, true, true, true, true, true, true, true, true, false] rfl rfl (by kernel_rfl) (fun _ _ _ h => h) (Or.inl ⟨by rfl, ?_⟩) ?_ ?_
         rotate_left
         ·intro w'
          go_simp
          with_reducible rfl
         rotate_left
         ·simp only [Act.put, List.setIfInBounds_toArray, List.set_cons_zero, List.set_cons_succ, bY, cu]
          rfl
         refine qO (i := 10) (N := none) #[true, true, true, true, true, true, true, true, true, true, true] rfl rfl (by kernel_rfl) (by decide) (fun K hK => ?_)
         refine vG (w1 := w8.setCell ⟨g, 1, none⟩ (.slice (some ⟨gq, 0, none⟩) (l3.length + 1) cap)) (by rfl) (by rfl) (by first | (go_simp; done) | (go_simp; rfl)) ?_
         refine hK.out _ _ ?_
         clear hK K
         refine iN (by kernel_rfl) ?_
         clear d1 e1 d2 d3 d4 d5 hHeld
         go_wp2
         go_ret
         refine ⟨?_, HREAD.out⟩
         first | rfl | (congr 2; done) | (congr 2; omega)
        ·unfold fin at H
         rw [if_neg p8] at H
         obtain rfl := Option.some.inj H
         clear H
         replace p8 := Bool.eq_false_iff.mpr p8
         go_wp2
         have I0 := HI.out
         go_ret
         exact ⟨rfl, I0.read⟩
       ·rw [if_neg p5] at H
        have hip : ∀ W : World, Calls Try.prog 107 #[.int .i64 KD] W fun e w' => e = .returned (.bool false) ∧ dB W w' := fun W => by
         have h5 := HIPK.out W
         rw [decide_eq_false p5] at h5
         exact h5
        clear p5 HIPK
        have HIPK := Lib.hid hip
        clear hip
        go_wp2_with fail
        refine (HIPK.out _).mono ?_
        rintro e _ ⟨rfl, ⟨nd, rfl⟩⟩
        clear HIPK
        have I0 := (HI.out.set 2 (.int .i64 ra) rfl).drewN nd
        clear HI c0 c1 f0 f1 k0 k1 k2 k3 q0 q1 q2 q3
        generalize World.drewN _ nd = w3 at I0 ⊢
        obtain ⟨c0, c1, f0, f1, k0, k1, k2, k3, q0, q1, q2, q3⟩ := I0.cells
        have HI := Lib.hid I0
        clear I0
        by_cases p9 : l2.length < 1000
        rotate_left
        ·rw [if_neg p9] at H
         cases H
        rw [if_pos p9] at H
        go_wp2_with fail
        have I0 := HI.out
        clear HI
        clear c0 c1 f0 f1 k0 k1 k2 k3 q0 q1 q2 q3
        refine (ql g _ _ 41 _ I0.hG).mono ?_
        rintro e _ ⟨rfl, hG1, hb1⟩
        replace I0 := I0.take hG1 hb1
        clear hG1 hb1
        obtain ⟨c0, c1, f0, f1, k0, k1, k2, k3, q0, q1, q2, q3⟩ := I0.cells
        have HI := Lib.hid I0
        clear I0
        by_cases p8 : oG s2 41 = true
        ·unfold fin at H
         rw [if_pos p8] at H
         obtain rfl := Option.some.inj H
         clear H
         go_wp2
         refine iJ (n := 11) (S := fun w' => w'.cell? ⟨g, 1, none⟩ = some (vx) ∧ w'.cell? ⟨gb, 0, none⟩ = some (.int .i64 (KD)) ∧ w'.cell? ⟨gb, 1, none⟩ = some (.string (⟨#[]⟩)) ∧ w'.cell? ⟨gb, 2, none⟩ = some (.int .i64 (ra)) ∧ w'.cell? ⟨gb, 3, none⟩ = some (.int .i64 (0))) (ds := [10]) #[false, false, false, false, false, false, false, false, false, false, false] (by kernel_rfl) rfl rfl ⟨c1, k0, k1, k2, k3⟩ (fun hHeld => ?_)
         have I0 := HI.out.drew
         clear HI c0 c1 f0 f1 k0 k1 k2 k3 q0 q1 q2 q3
         generalize World.drew _ = W2 at I0 hHeld ⊢
         obtain ⟨gq, cap, w8, hr8, d1, e1, d2, d3, d4, d5, hread, d6⟩ := I0.push p9
         obtain ⟨c0, c1, f0, f1, k0, k1, k2, k3, q0, q1, q2, q3⟩ := (I0.alloc (.cells #[.int .i64 (KD), .string (⟨#[]⟩), .int .i64 (ra), .int .i64 (0)] 110)).cells
         have HR8 := Lib.hid hr8
         have HREAD := Lib.hid hread
         clear hr8 hread I0 c0 f0 f1 q0 q1 q2 q3
         refine ig (i := 0) (N := some 73) (v := ?_) (a' := ?_) #[true, false, false, false, false, false, false, false, false, false, false] rfl rfl (by kernel_rfl) (fun _ _ _ h => h) (Or.inl ⟨by rfl, ?_⟩) ?_ ?_
         rotate_left
         ·intro w'
          go_simp
          with_reducible rfl
         rotate_left
         ·simp only [Act.put, List.setIfInBounds_toArray, List.set_cons_zero, List.set_cons_succ, bY, cu]
          rfl
         refine ig (i := 1) (N := some 74) (v := ?_) (a' := ?_) #[true, true, false, false, false, false, false, false, false, false, false] rfl rfl (by kernel_rfl) (fun _ _ _ h => h) (Or.inl ⟨by rfl, ?_⟩) ?_ ?_
         rotate_left
         ·intro w'
          go_simp
          with_reducible rfl
         rotate_left
         ·simp only [Act.put, List.setIfInBounds_toArray, List.set_cons_zero, List.set_cons_succ, bY, cu]
          rfl
         refine ig (i := 2) (N := some 75) (v := ?_) (a' := ?_) #[true, true, true, false, false, false, false, false, false, false, false] rfl rfl (by kernel_rfl) (fun _ _ _ h => h) (Or.inl ⟨by rfl, ?_⟩) ?_ ?_
         rotate_left
         ·intro w'
          go_simp
          with_reducible rfl
         rotate_left
         ·simp only [Act.put, List.setIfInBounds_toArray, List.set_cons_zero, List.set_cons_succ, bY, cu]
          rfl
         refine ig (i := 3) (N := some 76) (v := ?_) (a' := ?_) #[true, true, true, true, false, false, false, false, false, false, false] rfl rfl (by kernel_rfl) (fun _ _ _ h => h) (Or.inl ⟨by rfl, ?_⟩) ?_ ?_
         rotate_left
         ·intro w'
          go_simp
          with_reducible rfl
         rotate_left
         ·simp only [Act.put, List.setIfInBounds_toArray, List.set_cons_zero, List.set_cons_succ, bY, cu]
          rfl
         refine jy (i := 4) (N := some 77) (v := ?_) (a' := ?_) #[true, true, true, true, true, false, false, false, false, false, false] rfl rfl (by kernel_rfl) (fun _ _ _ h => h) (Or.inl ⟨by rfl, ?_⟩) hHeld ?_ ?_
         rotate_left
         ·rintro w' ⟨s0, s1, s2, s3, s4⟩
          go_simp
          with_reducible rfl
         rotate_left
         ·simp only [Act.put, List.setIfInBounds_toArray, List.set_cons_zero, List.set_cons_succ, bY, cu]
          rfl
         refine jy (i := 5) (N := some 78) (v := ?_) (a' := ?_) #[true, true, true, true, true, true, false, false, false, false, false] rfl rfl (by kernel_rfl) (fun _ _ _ h => h) (Or.inl ⟨by rfl, ?_⟩) hHeld ?_ ?_
         rotate_left
         ·rintro w' ⟨s0, s1, s2, s3, s4⟩
          go_simp
          with_reducible rfl
         rotate_left
         ·simp only [Act.put, List.setIfInBounds_toArray, List.set_cons_zero, List.set_cons_succ, bY, cu]
          rfl
         refine jm (i := 6) (N := some 79) #[true, true, true, true, true, true, true, false, false, false, false] rfl rfl (by kernel_rfl) (by decide) (fun K hK => ?_)
         refine lC (v := .slice (some ⟨W2.heap.size, 0, none⟩) 1 1) (w1 := W2.alloc (.cells #[.int .i64 (KD), .string (⟨#[]⟩), .int .i64 (ra), .int .i64 (0)] 110)) (by rfl) (by rfl) (by first | (go_simp; done) | (go_simp; rfl)) ?_
         refine hK.out _ _ ⟨c1, k0, k1, k2, k3⟩ (fun hHeld => ?_)
         clear hK K
         refine jL (a' := ?_) ?_ ?_
         rotate_left
         ·show Act.put _ (some 79) _ = _
          simp only [Act.put, List.setIfInBounds_toArray, List.set_cons_zero, List.set_cons_succ, bY, cu]
          rfl
         refine jm (i := 7) (N := some 80) #[true, true, true, true, true, true, true, true, false, false, false] rfl rfl (by kernel_rfl) (by decide) (fun K hK => ?_)
         refine lC (v := .slice (some ⟨gq, 0, none⟩) (l2.length + 1) cap) (w1 := w8) (by rfl) (by rfl) (by simp [execOp, resolve, invoke, builtin, Act.eval, HR8.out]) ?_
         refine hK.out _ _ ⟨d1, d2, d3, d4, d5⟩ (fun hHeld => ?_)
         clear hK K
         refine jL (a' := ?_) ?_ ?_
         rotate_left
         ·show Act.put _ (some 80) _ = _
          simp only [Act.put, List.setIfInBounds_toArray, List.set_cons_zero, List.set_cons_succ, bY, cu]
          rfl
         refine ig (i := 8) (N := some 81) (v := ?_) (a' := ?_) #[true, true, true, true, true, true, true, true, true, false, false] rfl rfl (by kernel_rfl) (fun _ _ _ h => h) (Or.inl ⟨by rfl, ?_⟩) ?_ ?_
         rotate_left
         ·intro w'
          go_simp
          with_reducible rfl
         rotate_left
         ·simp only [Act.put, List.setIfInBounds_toArray, List.set_cons_zero, List.set_cons_succ, bY, cu]
          rfl
         refine ig (i := 9) (N := some 82) (v := ?_) (a' := ?_) #[true, true, true, true, true, true, true, true, true, true, false] rfl rfl (by kernel_rfl) (fun _ _ _ h => h) (Or.inl ⟨by rfl, ?_⟩) ?_ ?_
         rotate_left
         ·intro w'
          go_simp
          with_reducible rfl
         rotate_left
         ·simp only [Act.put, List.setIfInBounds_toArray, List.set_cons_zero, List.set_cons_succ, bY, cu]
          rfl
         refine qO (i := 10) (N := none) #[true, true, true, true, true, true, true, true, true, true, true] rfl rfl (by kernel_rfl) (by decide) (fun K hK => ?_)
         refine vG (w1 := w8.setCell ⟨g, 1, none⟩ (.slice (some ⟨gq, 0, none⟩) (l2.length + 1) cap)) (by rfl) (by rfl) (by first | (go_simp; done) | (go_simp; rfl)) ?_
         refine hK.out _ _ ?_
         clear hK K
         refine iN (by kernel_rfl) ?_
         clear d1 e1 d2 d3 d4 d5 hHeld
         go_wp2
         go_ret
         refine ⟨?_, HREAD.out⟩
         first | rfl | (congr 2; done) | (congr 2; omega)
        ·unfold fin at H
         rw [if_neg p8] at H
         obtain rfl := Option.some.inj H
         clear H
         replace p8 := Bool.eq_false_iff.mpr p8
         go_wp2
         have I0 := HI.out
         go_ret
         exact ⟨rfl, I0.read⟩
     ·rw [if_neg p2] at H
      obtain rfl := Option.some.inj H
      clear H
      go_wp2
      go_ret
      exact ⟨rfl, HI.out.read⟩
    ·rw [if_neg p1] at H
     obtain rfl := Option.some.inj H
     clear H
     replace p1 := Bool.eq_false_iff.mpr p1
     go_wp2
     refine iJ (n := 11) (S := fun w' => w'.cell? ⟨g, 1, none⟩ = some (v) ∧ w'.cell? ⟨gb, 0, none⟩ = some (.int .i64 (1)) ∧ w'.cell? ⟨gb, 1, none⟩ = some (.string (s.extract 0 i)) ∧ w'.cell? ⟨gb, 2, none⟩ = some (.int .i64 (0)) ∧ w'.cell? ⟨gb, 3, none⟩ = some (.int .i64 (0))) (ds := [10]) #[false, false, false, false, false, false, false, false, false, false, false] (by kernel_rfl) rfl rfl ⟨c1, k0, k1, k2, k3⟩ (fun hHeld => ?_)
     have I0 := HI.out.drew
     clear HI c0 c1 f0 f1 k0 k1 k2 k3 q0 q1 q2 q3
     generalize World.drew _ = W2 at I0 hHeld ⊢
     obtain ⟨gq, cap, w8, hr8, d1, e1, d2, d3, d4, d5, hread, d6⟩ := I0.push hl
     obtain ⟨c0, c1, f0, f1, k0, k1, k2, k3, q0, q1, q2, q3⟩ := (I0.alloc (.cells #[.int .i64 (1), .string (s.extract 0 i), .int .i64 (0), .int .i64 (0)] 110)).cells
     have HR8 := Lib.hid hr8
     have HREAD := Lib.hid hread
     clear hr8 hread I0 c0 f0 f1 q0 q1 q2 q3
     refine ig (i := 0) (N := some 73) (v := ?_) (a' := ?_) #[true, false, false, false, false, false, false, false, false, false, false] rfl rfl (by kernel_rfl) (fun _ _ _ h => h) (Or.inl ⟨by rfl, ?_⟩) ?_ ?_
     rotate_left
     ·intro w'
      go_simp
      with_reducible rfl
     rotate_left
     ·simp only [Act.put, List.setIfInBounds_toArray, List.set_cons_zero, List.set_cons_succ, bY, cu]
      rfl
     refine ig (i := 1) (N := some 74) (v := ?_) (a' := ?_) #[true, true, false, false, false, false, false, false, false, false, false] rfl rfl (by kernel_rfl) (fun _ _ _ h => h) (Or.inl ⟨by rfl, ?_⟩) ?_ ?_
     rotate_left
     ·intro w'
      go_simp
      with_reducible rfl
     rotate_left
     ·simp only [Act.put, List.setIfInBounds_toArray, List.set_cons_zero, List.set_cons_succ, bY, cu]
      rfl
     refine ig (i := 2) (N := some 75) (v := ?_) (a' := ?_) #[true, true, true, false, false, false, false, false, false, false, false] rfl rfl (by kernel_rfl) (fun _ _ _ h => h) (Or.inl ⟨by rfl, ?_⟩) ?_ ?_
     rotate_left
     ·intro w'
      go_simp
      with_reducible rfl
     rotate_left
     ·simp only [Act.put, List.setIfInBounds_toArray, List.set_cons_zero, List.set_cons_succ, bY, cu]
      rfl
     refine ig (i := 3) (N := some 76) (v := ?_) (a' := ?_) #[true, true, true, true, false, false, false, false, false, false, false] rfl rfl (by kernel_rfl) (fun _ _ _ h => h) (Or.inl ⟨by rfl, ?_⟩) ?_ ?_
     rotate_left
     ·intro w'
      go_simp
      with_reducible rfl
     rotate_left
     ·simp only [Act.put, List.setIfInBounds_toArray, List.set_cons_zero, List.set_cons_succ, bY, cu]
      rfl
     refine jy (i := 4) (N := some 77) (v := ?_) (a' := ?_) #[true, true, true, true, true, false, false, false, false, false, false] rfl rfl (by kernel_rfl) (fun _ _ _ h => h) (Or.inl ⟨by rfl, ?_⟩) hHeld ?_ ?_
     rotate_left
     ·rintro w' ⟨s0, s1, s2, s3, s4⟩
      go_simp
      with_reducible rfl
     rotate_left
     ·simp only [Act.put, List.setIfInBounds_toArray, List.set_cons_zero, List.set_cons_succ, bY, cu]
      rfl
     refine jy (i := 5) (N := some 78) (v := ?_) (a' := ?_) #[true, true, true, true, true, true, false, false, false, false, false] rfl rfl (by kernel_rfl) (fun _ _ _ h => h) (Or.inl ⟨by rfl, ?_⟩) hHeld ?_ ?_
     rotate_left
     ·rintro w' ⟨s0, s1, s2, s3, s4⟩
      go_simp
      with_reducible rfl
     rotate_left
     ·simp only [Act.put, List.setIfInBounds_toArray, List.set_cons_zero, List.set_cons_succ, bY, cu]
      rfl
     refine jm (i := 6) (N := some 79) #[true, true, true, true, true, true, true, false, false, false, false] rfl rfl (by kernel_rfl) (by decide) (fun K hK => ?_)
     refine lC (v := .slice (some ⟨W2.heap.size, 0, none⟩) 1 1) (w1 := W2.alloc (.cells #[.int .i64 (1), .string (s.extract 0 i), .int .i64 (0), .int .i64 (0)] 110)) (by rfl) (by rfl) (by first | (go_simp; done) | (go_simp; rfl)) ?_
     refine hK.out _ _ ⟨c1, k0, k1, k2, k3⟩ (fun hHeld => ?_)
     clear hK K
     refine jL (a' := ?_) ?_ ?_
     rotate_left
     ·show Act.put _ (some 79) _ = _
      simp only [Act.put, List.setIfInBounds_toArray, List.set_cons_zero, List.set_cons_succ, bY, cu]
      rfl
     refine jm (i := 7) (N := some 80) #[true, true, true, true, true, true, true, true, false, false, false] rfl rfl (by kernel_rfl) (by decide) (fun K hK => ?_)
     refine lC (v := .slice (some ⟨gq, 0, none⟩) (l.length + 1) cap) (w1 := w8) (by rfl) (by rfl) (by simp [execOp, resolve, invoke, builtin, Act.eval, HR8.out]) ?_
     refine hK.out _ _ ⟨d1, d2, d3, d4, d5⟩ (fun hHeld => ?_)
     clear hK K
     refine jL (a' := ?_) ?_ ?_
     rotate_left
     ·show Act.put _ (some 80) _ = _
      simp only [Act.put, List.setIfInBounds_toArray, List.set_cons_zero, List.set_cons_succ, bY, cu]
      rfl
     refine ig (i := 8) (N := some 81) (v := ?_) (a' := ?_) #[true, true, true, true, true, true, true, true, true, false, false] rfl rfl (by kernel_rfl) (fun _ _ _ h => h) (Or.inl ⟨by rfl, ?_⟩) ?_ ?_
     rotate_left
     ·intro w'
      go_simp
      with_reducible rfl
     rotate_left
     ·simp only [Act.put, List.setIfInBounds_toArray, List.set_cons_zero, List.set_cons_succ, bY, cu]
      rfl
     refine ig (i := 9) (N := some 82) (v := ?_) (a' := ?_) #[true, true, true, true, true, true, true, true, true, true, false] rfl rfl (by kernel_rfl) (fun _ _ _ h => h) (Or.inl ⟨by rfl, ?_⟩) ?_ ?_
     rotate_left
     ·intro w'
      go_simp
      with_reducible rfl
     rotate_left
     ·simp only [Act.put, List.setIfInBounds_toArray, List.set_cons_zero, List.set_cons_succ, bY, cu]
      rfl
     refine qO (i := 10) (N := none) #[true, true, true, true, true, true, true, true, true, true, true] rfl rfl (by kernel_rfl) (by decide) (fun K hK => ?_)
     refine vG (w1 := w8.setCell ⟨g, 1, none⟩ (.slice (some ⟨gq, 0, none⟩) (l.length + 1) cap)) (by rfl) (by rfl) (by first | (go_simp; done) | (go_simp; rfl)) ?_
     refine hK.out _ _ ?_
     clear hK K
     refine iN (by kernel_rfl) ?_
     clear d1 e1 d2 d3 d4 d5 hHeld
     go_wp2
     go_ret
     refine ⟨?_, HREAD.out⟩
     first | rfl | (congr 2; done) | (congr 2; omega)
end Go.Proofs.Ythjcicmmbmagbaa.HandRead
