/- Walks of functions: what each computes. -/
import Derived.Test.YtikmdgmnhbodjaaGreatProg
import Derived.Below
import Derived.Deep.Draws
import Derived.Deep.AppendLies
import Derived.Maps.AppendAt
import Derived.OwnWalk
import Derived.Laws.BytesArg
import Derived.Laws.MakeOwn
import Derived.Laws.OwnMore
import Derived.Deep.OwnRows
import Derived.Tactics
import Derived.Lib.ConvBytes
import Derived.Laws.Slices
import Derived.WalkKit
import Derived.KernelRfl
import Derived.RowKit3
import Derived.Deep.LoopGhost
import Derived.Deep.QuietTactic
import Derived.BigQuiet
import Derived.WideLaws
import Derived.Deep.DeepCutAuto
import Derived.Deep.CutBlock
import Derived.Deep.RegionHeld3
import Derived.Laws.Rows
import Derived.Lib.AppendStr
import Derived.ArgAppend
import Derived.Laws.IdiomCopy
import Derived.OrdersHeld
import Derived.Laws.BitsLemmas
import Derived.RowKit
import Derived.Test.YtikmdgmnhbodjaaGreatZClueDomainsW
import Derived.Test.YtikmdgmnhbodjaaGreatZClueDomainsShelf
import Derived.Test.YtikmdgmnhbodjaaGreatZClueDomainsHandSort
import Derived.Test.YtikmdgmnhbodjaaGreatZClueDomainsHandForm
import Derived.Test.YtikmdgmnhbodjaaGreatZClueDomainsHandAlone
import Derived.Test.YtikmdgmnhbodjaaGreatZClueDomainsHandReach
namespace Go.Proofs.YtikmdgmnhbodjaaGreat.PFnExactClueDomains
open Go.RowKit Go.Proofs.YtikmdgmnhbodjaaGreatW.PrintWords Go.Proofs.YtikmdgmnhbodjaaGreatW.PrintLast Go.Proofs.YtikmdgmnhbodjaaGreatW.PrintMore Go.Proofs.YtikmdgmnhbodjaaGreat.Sq
attribute [local go_sem] kW kY mH mI jU jV kX kZ
set_option linter.unusedVariables false
set_option linter.unusedSimpArgs false
set_option maxHeartbeats 8000000
set_option maxRecDepth 100000
def JC : Option Int → Value
 | none => .nilIface
 | some c => .iface 0 (.int .i64 c)
theorem nu : JC none = .nilIface := rfl
theorem ny (c : Int) : JC (some c) = .iface 0 (.int .i64 c) := rfl
theorem info3 : (Tryz.prog.info? 3).map (fun i => (i.zero, i.size, i.bytes)) = some (some (.int .i64 0), 1, 8) := by kernel_rfl
theorem Io : (Tryz.prog.info? 4).map (fun i => (i.zero, i.size, i.bytes)) = some (some (.bool false), 1, 1) := by kernel_rfl
theorem info5 : (Tryz.prog.info? 5).map (fun i => (i.zero, i.size, i.bytes)) = some (some (.int .u8 0), 1, 1) := by kernel_rfl
theorem Cz : (Tryz.prog.info? 9).map (fun i => (i.zero, i.size, i.bytes)) = some (some (.string ⟨#[]⟩), 1, 16) := by kernel_rfl
theorem Ja : (Tryz.prog.info? 25).map (fun i => (i.zero, i.size, i.bytes)) = some (some (.slice none 0 0), 1, 24) := by kernel_rfl
theorem FU : (Tryz.prog.info? 29).map (fun i => (i.zero, i.size, i.bytes)) = some (some (.slice none 0 0), 1, 24) := by kernel_rfl
theorem Jb : (Tryz.prog.info? 70).map (fun i => (i.zero, i.size, i.bytes)) = some (some (.agg #[(.int .i64 0), (.slice none 0 0)]), 2, 32) := by kernel_rfl
theorem Jc : (Tryz.prog.info? 73).map (fun i => (i.zero, i.size, i.bytes)) = some (some (.agg #[(.string ⟨#[]⟩), (.int .i64 0)]), 2, 24) := by kernel_rfl
theorem rQ : (Tryz.prog.info? 109).map (fun i => (i.zero, i.size, i.bytes)) = some (some (.agg #[(.int .i64 0), (.bool false), (.int .i64 0), (.int .i64 0)]), 4, 32) := by kernel_rfl
theorem He : (Tryz.prog.info? 127).map (fun i => (i.zero, i.size, i.bytes)) = some (some (.agg #[(.int .i64 0), (.string ⟨#[]⟩), (.int .i64 0), (.int .i64 0)]), 4, 40) := by kernel_rfl
structure nQ where
 f0 : Int
 f1 : ByteArray
 f2 : Int
 f3 : Int
def z146 : nQ := ⟨(0 : Int), (⟨#[]⟩ : ByteArray), (0 : Int), (0 : Int)⟩
def Au : Kd nQ := Kd.iso (Kd.pair (Kd.int .i64) (Kd.pair Kd.string (Kd.pair (Kd.int .i64) (Kd.int .i64)))) (fun x : nQ => (x.f0, x.f1, x.f2, x.f3))
theorem EU {w : World} {x : nQ} {cs : List Value} (h : Au.K w x cs) : cs = [.int .i64 x.f0, .string x.f1, .int .i64 x.f2, .int .i64 x.f3] := by
 obtain ⟨_, _, rfl, rfl, ⟨_, _, rfl, rfl, ⟨_, _, rfl, rfl, rfl⟩⟩⟩ := h;exact rfl
def iD (xs : List nQ) (i : Int) : nQ := xs.getD i.toNat z146
theorem Em {w : World} {A : Option Addr} {n : Nat} {xs : List nQ} (h : Kd.C Au w A n xs) (i : Int) (h0 : 0 ≤ i) (h1 : i < n) : ∃ ad , A = some ad ∧ w.cell? (ad.add (i.toNat * 4)) = some (.int .i64 (iD xs i).f0) ∧ w.cell? ⟨(ad.add (i.toNat * 4)).block, (ad.add (i.toNat * 4)).off + 1, none⟩ = some (.string (iD xs i).f1) ∧ w.cell? ⟨(ad.add (i.toNat * 4)).block, (ad.add (i.toNat * 4)).off + 2, none⟩ = some (.int .i64 (iD xs i).f2) ∧ w.cell? ⟨(ad.add (i.toNat * 4)).block, (ad.add (i.toNat * 4)).off + 3, none⟩ = some (.int .i64 (iD xs i).f3) := by
 obtain ⟨ad, c, e, _, hK, a⟩ := Kd.sN h z146 i h0 h1;have hc : ∀ j u, c[j]? = some u → w.cell? (ad.add (i.toNat * 4 + j)) = some u := a;obtain rfl := EU hK;exact ⟨ad, e, hc 0 _ rfl, by rw [← jT _ _ 1 (by omega)]; exact hc 1 _ rfl, by rw [← jT _ _ 2 (by omega)]; exact hc 2 _ rfl, by rw [← jT _ _ 3 (by omega)]; exact hc 3 _ rfl⟩
structure S84 where
 f0 : Int
 f1 : (List nQ)
def z84 : S84 := ⟨(0 : Int), ([] : List nQ)⟩
def k84 : Kd S84 := Kd.iso (Kd.pair (Kd.int .i64) (Kd.slice 146 Au)) (fun x : S84 => (x.f0, x.f1))
theorem Gb {w : World} {x : S84} {cs : List Value} (h : k84.K w x cs) : ∃ a e, cs = [.int .i64 x.f0, .slice a x.f1.length e] ∧ x.f1.length ≤ e ∧ Au.C w a x.f1.length x.f1 := by
 obtain ⟨_, _, rfl, rfl, ⟨a, e, rfl, l1, g1⟩⟩ := h;exact ⟨a, e, rfl, l1, g1⟩
def lH (xs : List S84) (i : Int) : S84 := xs.getD i.toNat z84
theorem FC {w : World} {A : Option Addr} {n : Nat} {xs : List S84} (h : Kd.C k84 w A n xs) (i : Int) (h0 : 0 ≤ i) (h1 : i < n) : ∃ ad a l, A = some ad ∧ w.cell? (ad.add (i.toNat * 2)) = some (.int .i64 (lH xs i).f0) ∧ w.cell? ⟨(ad.add (i.toNat * 2)).block, (ad.add (i.toNat * 2)).off + 1, none⟩ = some (.slice a (lH xs i).f1.length l) ∧ (lH xs i).f1.length ≤ l ∧ Au.C w a (lH xs i).f1.length (lH xs i).f1 := by
 obtain ⟨ad, c, e, _, hK, m⟩ := Kd.sN h z84 i h0 h1;have hc : ∀ j u, c[j]? = some u → w.cell? (ad.add (i.toNat * 2 + j)) = some u := m;obtain ⟨a, l, rfl, l1, g1⟩ := Gb hK;exact ⟨ad, a, l, e, hc 0 _ rfl, by rw [← jT _ _ 1 (by omega)]; exact hc 1 _ rfl, l1, g1⟩
structure S64 where
 f0 : ByteArray
 f1 : Int
def z64 : S64 := ⟨(⟨#[]⟩ : ByteArray), (0 : Int)⟩
def k64 : Kd S64 := Kd.iso (Kd.pair Kd.string (Kd.int .i64)) (fun x : S64 => (x.f0, x.f1))
theorem FY {w : World} {x : S64} {cs : List Value} (h : k64.K w x cs) : cs = [.string x.f0, .int .i64 x.f1] := by
 obtain ⟨_, _, rfl, rfl, rfl⟩ := h;exact rfl
def mQ (xs : List S64) (i : Int) : S64 := xs.getD i.toNat z64
theorem FB {w : World} {A : Option Addr} {n : Nat} {xs : List S64} (h : Kd.C k64 w A n xs) (i : Int) (h0 : 0 ≤ i) (h1 : i < n) : ∃ ad , A = some ad ∧ w.cell? (ad.add (i.toNat * 2)) = some (.string (mQ xs i).f0) ∧ w.cell? ⟨(ad.add (i.toNat * 2)).block, (ad.add (i.toNat * 2)).off + 1, none⟩ = some (.int .i64 (mQ xs i).f1) := by
 obtain ⟨ad, c, e, _, hK, a⟩ := Kd.sN h z64 i h0 h1;have hc : ∀ j u, c[j]? = some u → w.cell? (ad.add (i.toNat * 2 + j)) = some u := a;obtain rfl := FY hK;exact ⟨ad, e, hc 0 _ rfl, by rw [← jT _ _ 1 (by omega)]; exact hc 1 _ rfl⟩
structure bW where
 f0 : Int
 f1 : ByteArray
 f2 : Int
 f3 : Int
def z127 : bW := ⟨(0 : Int), (⟨#[]⟩ : ByteArray), (0 : Int), (0 : Int)⟩
def iW : Kd bW := Kd.iso (Kd.pair (Kd.int .i64) (Kd.pair Kd.string (Kd.pair (Kd.int .i64) (Kd.int .i64)))) (fun x : bW => (x.f0, x.f1, x.f2, x.f3))
theorem ET {w : World} {x : bW} {cs : List Value} (h : iW.K w x cs) : cs = [.int .i64 x.f0, .string x.f1, .int .i64 x.f2, .int .i64 x.f3] := by
 obtain ⟨_, _, rfl, rfl, ⟨_, _, rfl, rfl, ⟨_, _, rfl, rfl, rfl⟩⟩⟩ := h;exact rfl
theorem kL {w : World} {base : Nat} {ok : Nat → Prop} {x : bW} {cs : List Value} (h : iW.M w base ok x cs) : cs = [.int .i64 x.f0, .string x.f1, .int .i64 x.f2, .int .i64 x.f3] := by
 obtain ⟨_, _, rfl, rfl, ⟨_, _, rfl, rfl, ⟨_, _, rfl, rfl, rfl⟩⟩⟩ := h;exact rfl
theorem qd (w : World) (base : Nat) (ok : Nat → Prop) (x : bW)  : iW.M w base ok x [.int .i64 x.f0, .string x.f1, .int .i64 x.f2, .int .i64 x.f3] := ⟨[.int .i64 x.f0], [.string x.f1, .int .i64 x.f2, .int .i64 x.f3], rfl, rfl, ⟨[.string x.f1], [.int .i64 x.f2, .int .i64 x.f3], rfl, rfl, ⟨[.int .i64 x.f2], [.int .i64 x.f3], rfl, rfl, rfl⟩⟩⟩
def aj (xs : List bW) (i : Int) : bW := xs.getD i.toNat z127
theorem kQ {w : World} {A : Option Addr} {n : Nat} {xs : List bW} (h : Kd.C iW w A n xs) (i : Int) (h0 : 0 ≤ i) (h1 : i < n) : ∃ ad , A = some ad ∧ w.cell? (ad.add (i.toNat * 4)) = some (.int .i64 (aj xs i).f0) ∧ w.cell? ⟨(ad.add (i.toNat * 4)).block, (ad.add (i.toNat * 4)).off + 1, none⟩ = some (.string (aj xs i).f1) ∧ w.cell? ⟨(ad.add (i.toNat * 4)).block, (ad.add (i.toNat * 4)).off + 2, none⟩ = some (.int .i64 (aj xs i).f2) ∧ w.cell? ⟨(ad.add (i.toNat * 4)).block, (ad.add (i.toNat * 4)).off + 3, none⟩ = some (.int .i64 (aj xs i).f3) := by
 obtain ⟨ad, c, e, _, hK, a⟩ := Kd.sN h z127 i h0 h1;have hc : ∀ j u, c[j]? = some u → w.cell? (ad.add (i.toNat * 4 + j)) = some u := a;obtain rfl := ET hK;exact ⟨ad, e, hc 0 _ rfl, by rw [← jT _ _ 1 (by omega)]; exact hc 1 _ rfl, by rw [← jT _ _ 2 (by omega)]; exact hc 2 _ rfl, by rw [← jT _ _ 3 (by omega)]; exact hc 3 _ rfl⟩
structure eZ where
 f0 : Int
 f1 : Bool
 f2 : Int
 f3 : Int
def z109 : eZ := ⟨(0 : Int), false, (0 : Int), (0 : Int)⟩
def mZ : Kd eZ := Kd.iso (Kd.pair (Kd.int .i64) (Kd.pair Kd.bool (Kd.pair (Kd.int .i64) (Kd.int .i64)))) (fun x : eZ => (x.f0, x.f1, x.f2, x.f3))
theorem ES {w : World} {x : eZ} {cs : List Value} (h : mZ.K w x cs) : cs = [.int .i64 x.f0, .bool x.f1, .int .i64 x.f2, .int .i64 x.f3] := by
 obtain ⟨_, _, rfl, rfl, ⟨_, _, rfl, rfl, ⟨_, _, rfl, rfl, rfl⟩⟩⟩ := h;exact rfl
theorem qc (w : World) (base : Nat) (ok : Nat → Prop) (x : eZ)  : mZ.M w base ok x [.int .i64 x.f0, .bool x.f1, .int .i64 x.f2, .int .i64 x.f3] := ⟨[.int .i64 x.f0], [.bool x.f1, .int .i64 x.f2, .int .i64 x.f3], rfl, rfl, ⟨[.bool x.f1], [.int .i64 x.f2, .int .i64 x.f3], rfl, rfl, ⟨[.int .i64 x.f2], [.int .i64 x.f3], rfl, rfl, rfl⟩⟩⟩
def aN (xs : List eZ) (i : Int) : eZ := xs.getD i.toNat z109
theorem oN {w : World} {A : Option Addr} {n : Nat} {xs : List eZ} (h : Kd.C mZ w A n xs) (i : Int) (h0 : 0 ≤ i) (h1 : i < n) : ∃ ad , A = some ad ∧ w.cell? (ad.add (i.toNat * 4)) = some (.int .i64 (aN xs i).f0) ∧ w.cell? ⟨(ad.add (i.toNat * 4)).block, (ad.add (i.toNat * 4)).off + 1, none⟩ = some (.bool (aN xs i).f1) ∧ w.cell? ⟨(ad.add (i.toNat * 4)).block, (ad.add (i.toNat * 4)).off + 2, none⟩ = some (.int .i64 (aN xs i).f2) ∧ w.cell? ⟨(ad.add (i.toNat * 4)).block, (ad.add (i.toNat * 4)).off + 3, none⟩ = some (.int .i64 (aN xs i).f3) := by
 obtain ⟨ad, c, e, _, hK, a⟩ := Kd.sN h z109 i h0 h1;have hc : ∀ j u, c[j]? = some u → w.cell? (ad.add (i.toNat * 4 + j)) = some u := a;obtain rfl := ES hK;exact ⟨ad, e, hc 0 _ rfl, by rw [← jT _ _ 1 (by omega)]; exact hc 1 _ rfl, by rw [← jT _ _ 2 (by omega)]; exact hc 2 _ rfl, by rw [← jT _ _ 3 (by omega)]; exact hc 3 _ rfl⟩
structure S70 where
 f0 : Int
 f1 : (List bW)
def z70 : S70 := ⟨(0 : Int), ([] : List bW)⟩
def k70 : Kd S70 := Kd.iso (Kd.pair (Kd.int .i64) (Kd.slice 127 iW)) (fun x : S70 => (x.f0, x.f1))
theorem FZ {w : World} {x : S70} {cs : List Value} (h : k70.K w x cs) : ∃ a e, cs = [.int .i64 x.f0, .slice a x.f1.length e] ∧ x.f1.length ≤ e ∧ iW.C w a x.f1.length x.f1 := by
 obtain ⟨_, _, rfl, rfl, ⟨a, e, rfl, l1, g1⟩⟩ := h;exact ⟨a, e, rfl, l1, g1⟩
theorem rR {w : World} {base : Nat} {ok : Nat → Prop} {x : S70} {cs : List Value} (h : k70.M w base ok x cs) : ∃ a, cs = [.int .i64 x.f0, a] ∧ iW.R 127 w base ok a x.f1 := by
 obtain ⟨_, _, rfl, rfl, ⟨a, rfl, g1⟩⟩ := h;exact ⟨a, rfl, g1⟩
theorem wD (w : World) (base : Nat) (ok : Nat → Prop) (x : S70) {a : Value} (g1 : iW.R 127 w base ok a x.f1) : k70.M w base ok x [.int .i64 x.f0, a] := ⟨[.int .i64 x.f0], [a], rfl, rfl, ⟨a, rfl, g1⟩⟩
def eU (xs : List S70) (i : Int) : S70 := xs.getD i.toNat z70
theorem uP {w : World} {A : Option Addr} {n : Nat} {xs : List S70} (h : Kd.C k70 w A n xs) (i : Int) (h0 : 0 ≤ i) (h1 : i < n) : ∃ ad a l, A = some ad ∧ w.cell? (ad.add (i.toNat * 2)) = some (.int .i64 (eU xs i).f0) ∧ w.cell? ⟨(ad.add (i.toNat * 2)).block, (ad.add (i.toNat * 2)).off + 1, none⟩ = some (.slice a (eU xs i).f1.length l) ∧ (eU xs i).f1.length ≤ l ∧ iW.C w a (eU xs i).f1.length (eU xs i).f1 := by
 obtain ⟨ad, c, e, _, hK, m⟩ := Kd.sN h z70 i h0 h1;have hc : ∀ j u, c[j]? = some u → w.cell? (ad.add (i.toNat * 2 + j)) = some u := m;obtain ⟨a, l, rfl, l1, g1⟩ := FZ hK;exact ⟨ad, a, l, e, hc 0 _ rfl, by rw [← jT _ _ 1 (by omega)]; exact hc 1 _ rfl, l1, g1⟩
structure S73 where
 f0 : ByteArray
 f1 : Int
def z73 : S73 := ⟨(⟨#[]⟩ : ByteArray), (0 : Int)⟩
def k73 : Kd S73 := Kd.iso (Kd.pair Kd.string (Kd.int .i64)) (fun x : S73 => (x.f0, x.f1))
theorem Ga {w : World} {x : S73} {cs : List Value} (h : k73.K w x cs) : cs = [.string x.f0, .int .i64 x.f1] := by
 obtain ⟨_, _, rfl, rfl, rfl⟩ := h;exact rfl
theorem oP {w : World} {base : Nat} {ok : Nat → Prop} {x : S73} {cs : List Value} (h : k73.M w base ok x cs) : cs = [.string x.f0, .int .i64 x.f1] := by
 obtain ⟨_, _, rfl, rfl, rfl⟩ := h;exact rfl
theorem wE (w : World) (base : Nat) (ok : Nat → Prop) (x : S73)  : k73.M w base ok x [.string x.f0, .int .i64 x.f1] := ⟨[.string x.f0], [.int .i64 x.f1], rfl, rfl, rfl⟩
def fF (xs : List S73) (i : Int) : S73 := xs.getD i.toNat z73
theorem wK {w : World} {A : Option Addr} {n : Nat} {xs : List S73} (h : Kd.C k73 w A n xs) (i : Int) (h0 : 0 ≤ i) (h1 : i < n) : ∃ ad , A = some ad ∧ w.cell? (ad.add (i.toNat * 2)) = some (.string (fF xs i).f0) ∧ w.cell? ⟨(ad.add (i.toNat * 2)).block, (ad.add (i.toNat * 2)).off + 1, none⟩ = some (.int .i64 (fF xs i).f1) := by
 obtain ⟨ad, c, e, _, hK, a⟩ := Kd.sN h z73 i h0 h1;have hc : ∀ j u, c[j]? = some u → w.cell? (ad.add (i.toNat * 2 + j)) = some u := a;obtain rfl := Ga hK;exact ⟨ad, e, hc 0 _ rfl, by rw [← jT _ _ 1 (by omega)]; exact hc 1 _ rfl⟩
def kg (xs : List (List ByteArray)) (i : Int) : (List ByteArray) := xs.getD i.toNat ([] : List ByteArray)
theorem Du {w : World} {A : Option Addr} {n : Nat} {xs : List (List ByteArray)} (h : Kd.C (Kd.slice 9 Kd.string) w A n xs) (i : Int) (h0 : 0 ≤ i) (h1 : i < n) : ∃ ad a l, A = some ad ∧ w.cell? (ad.add i.toNat) = some (.slice a (kg xs i).length l) ∧ (kg xs i).length ≤ l ∧ Kd.string.C w a (kg xs i).length (kg xs i) := by
 obtain ⟨ad, c, e, _, hK, m⟩ := Kd.sN h ([] : List ByteArray) i h0 h1;have hc : ∀ j u, c[j]? = some u → w.cell? (ad.add (i.toNat * 1 + j)) = some u := m;obtain ⟨a, l, rfl, l0, g0⟩ := hK;exact ⟨ad, a, l, e, by have hq := hc 0 _ rfl; rwa [Nat.mul_one, Nat.add_zero] at hq, l0, g0⟩
def jP (xs : List (List Int)) (i : Int) : (List Int) := xs.getD i.toNat ([] : List Int)
theorem Dv {w : World} {A : Option Addr} {n : Nat} {xs : List (List Int)} (h : Kd.C (Kd.slice 3 (Kd.int .i64)) w A n xs) (i : Int) (h0 : 0 ≤ i) (h1 : i < n) : ∃ ad a l, A = some ad ∧ w.cell? (ad.add i.toNat) = some (.slice a (jP xs i).length l) ∧ (jP xs i).length ≤ l ∧ (Kd.int .i64).C w a (jP xs i).length (jP xs i) := by
 obtain ⟨ad, c, e, _, hK, m⟩ := Kd.sN h ([] : List Int) i h0 h1;have hc : ∀ j u, c[j]? = some u → w.cell? (ad.add (i.toNat * 1 + j)) = some u := m;obtain ⟨a, l, rfl, l0, g0⟩ := hK;exact ⟨ad, a, l, e, by have hq := hc 0 _ rfl; rwa [Nat.mul_one, Nat.add_zero] at hq, l0, g0⟩
def lW.f (JW JX : Int) (JY : ByteArray) (a1 : Int) : Option (Int) := if (wrap64 (a1 - (JY.size : Int))) < 0 then (some (-1)) else (some (wrap64 (a1 - (JY.size : Int))))
theorem lW.calls (JW JX : Int) (JY : ByteArray) (a1 r : Int) (w : World) (h : lW.f JW JX JY a1 = some r) :
  Calls Tryz.prog 26 #[.agg #[.int .i64 JW, .int .i64 JX, .string JY], .int .i64 a1] w fun e w' => e = .returned (.int .i64 r) ∧ Below w.heap.size w w' := by
 have I := Tryz.underlying23;have HB := ah.mk (Below.refl w.heap.size w);unfold lW.f at h;have H := h;clear h;replace H := ah.mk H;go_enter Tryz.func26, Tryz.ntmps26;go_wp2_with (first | ((with_reducible refine aK (N := 2) rfl ?_); refine bA (N := 2) (cs := #[.int .i64 JW, .int .i64 JX, .string JY]) (t := 23) ?_; intro D hg E hbox hb; have a := ah.mk hbox; have l := SZ (w := w) hg; have G := l; replace HB := BS (w := w) hb; clear hb hbox hg; obtain ⟨m, o, u, x, y, z⟩ := cz3 a.out; refine dF ?_));refine Hide.mk ?_;replace H := H.out;replace H := ifD H; rcases H with ⟨A, H⟩ | ⟨A, H⟩
 ·obtain rfl := Option.some.inj H;(try go_wp2);go_ret;exact ⟨EWW, BL⟩
 ·obtain rfl := Option.some.inj H;(try go_wp2);go_ret;exact ⟨EWW, BL⟩
def lY.f (JW : Int) (JX : ByteArray) (JY a0_3 a1 : Int) : Option (Int) := if (wrap64 (a1 - (JX.size : Int))) < 0 then (some (-1)) else (some (wrap64 (a1 - (JX.size : Int))))
theorem lY.calls (JW : Int) (JX : ByteArray) (JY a : Int) (a1 r : Int) (w : World) (h : lY.f JW JX JY a a1 = some r) :
  Calls Tryz.prog 153 #[.agg #[.int .i64 JW, .string JX, .int .i64 JY, .int .i64 a], .int .i64 a1] w fun e w' => e = .returned (.int .i64 r) ∧ Below w.heap.size w w' := by
 have I := Tryz.underlying146;have HB := ah.mk (Below.refl w.heap.size w);unfold lY.f at h;have H := h;clear h;replace H := ah.mk H;go_enter Tryz.func153, Tryz.ntmps153;go_wp2_with (first | ((with_reducible refine aK (N := 2) rfl ?_); refine bA (N := 2) (cs := #[.int .i64 JW, .string JX, .int .i64 JY, .int .i64 a]) (t := 146) ?_; intro J hg K hbox hb; have l := ah.mk hbox; have m := SZ (w := w) hg; have L := m; replace HB := BS (w := w) hb; clear hb hbox hg; obtain ⟨o, u, x, y, z, A, D, E⟩ := cz4 l.out; refine dF ?_));refine Hide.mk ?_;replace H := H.out;replace H := ifD H; rcases H with ⟨G, H⟩ | ⟨G, H⟩
 ·obtain rfl := Option.some.inj H;(try go_wp2);go_ret;exact ⟨EWW, BL⟩
 ·obtain rfl := Option.some.inj H;(try go_wp2);go_ret;exact ⟨EWW, BL⟩
def gT.l0 : Nat → List (nQ) → Int → Int → Option (Int)
 | 0, _, _, _ => none
 | k + 1, a, b, c => if c < (a.length : Int) then (if 0 ≤ c then ((lY.f ((iD a c).f0) ((iD a c).f1) ((iD a c).f2) ((iD a c).f3) b).bind fun d => (if d < 0 then (some (-1)) else (gT.l0 k a d (wrap64 (c + 1))))) else (none)) else (some b)
def gT.f (k : Nat) (l0 : List (nQ)) (a1 : Int) : Option (Int) := if (wrap64 (a1 - (l0.length : Int))) < 0 then (some (-1)) else (gT.l0 k l0 (wrap64 (a1 - (l0.length : Int))) 0)
theorem gT.calls (k : Nat) (X : Option Addr) (Y : Nat) (l0 : List (nQ)) (a1 r : Int) (w : World) (D : Kd.C Au w X l0.length l0) (E : l0.length ≤ Y) (h : gT.f k l0 a1 = some r) :
  Calls Tryz.prog 104 #[.slice X l0.length Y, .int .i64 a1] w fun e w' => e = .returned (.int .i64 r) ∧ Below w.heap.size w w' := by
 have M := Tryz.underlying146;have O := ah.mk D;have xa := ah.mk E;clear D E;have HB := ah.mk (Below.refl w.heap.size w);unfold gT.f at h;have H := h;clear h;replace H := ah.mk H;go_enter Tryz.func104, Tryz.ntmps104;replace H := H.out;replace H := ifD H; rcases H with ⟨A, H⟩ | ⟨A, H⟩
 ·obtain rfl := Option.some.inj H;(try go_wp2);go_ret;exact ⟨EWW, BL⟩
 ·have H' := ah.mk H;clear H;try go_wp2
  go_loopg [1, 5] k (fun kq v1 v5 w' => ∃ (x : Int) (a : Int), v1 = .int .i64 x ∧ v5 = .int .i64 a ∧ ah (gT.l0 kq l0 x a = some r) ∧ ah (kq ≤ k) ∧ ah (Below w.heap.size w w'))
  case atStart => exact ⟨_, _, EQ, EQ, H', ⟨Nat.le_refl _⟩, ⟨BL⟩⟩
  case round =>
   clear H';(try clear c3);(try clear A);obtain ⟨x, a, rfl, rfl, HA, G, HB⟩ := hrel
   cases gk with
   | zero => exact absurd HA.out (by simp [gT.l0])
   | succ k1 =>
    have H := HA.out;clear HA;simp only [gT.l0] at H;replace H := ifD H; rcases H with ⟨I, H⟩ | ⟨I, H⟩
    ·replace H := ifN H; obtain ⟨Z, H⟩ := H;replace H := be H; obtain ⟨J, A6, H⟩ := H;have y : 0 ≤ (a : Int) := OD;have z : a < (l0.length : Int) := OD;obtain ⟨P, K, l, m, o, u⟩ := Em O.out a y z
     cases K
     (try replace l := (HB.out.cell (World.block_lt_of_cell? w _ l)).trans l);(try replace m := (HB.out.cell (World.block_lt_of_cell? w _ m)).trans m);(try replace o := (HB.out.cell (World.block_lt_of_cell? w _ o)).trans o);(try replace u := (HB.out.cell (World.block_lt_of_cell? w _ u)).trans u);replace y := eq_true y;replace z := eq_true z;replace H := ah.mk H;go_wp2_with (first | ((with_reducible refine aA (f := 153) rfl ?_); refine aY (some 23) Tryz.func153 #[.agg #[.int .i64 ((iD l0 a).f0), .string ((iD l0 a).f1), .int .i64 ((iD l0 a).f2), .int .i64 ((iD l0 a).f3)], .int .i64 x] ?_; (with_reducible refine (lY.calls ((iD l0 a).f0) ((iD l0 a).f1) ((iD l0 a).f2) ((iD l0 a).f3) x J _ A6.out).mono ?_); rintro e U ⟨rfl, hb⟩; refine ⟨_, rfl, ?_⟩; replace HB := BS (w := w) hb; (try clear hb); refine dF ?_));refine Hide.mk ?_;replace H := H.out;replace H := ifD H; rcases H with ⟨L, H⟩ | ⟨L, H⟩
     ·obtain rfl := Option.some.inj H;(try go_wp2);go_ret;exact ⟨EWW, BL⟩
     ·have H' := ah.mk H;clear H;(try go_wp2);go_roundg k1;case measure => have := G.out; omega
      case rel => exact ⟨_, _, EQ, EQ, H', ks G, ⟨BL⟩⟩
    ·obtain rfl := Option.some.inj H;go_wp2;go_ret;exact ⟨EWW, BL⟩
def lV.f (k : Nat) (JW : Int) (l0_1 : List (nQ)) (a1 : Int) : Option (Int) := (gT.f k l0_1 a1).bind fun t106 => (if t106 < 0 then (some (-1)) else (some t106))
theorem lV.calls (k : Nat) (JW : Int) (m : Option Addr) (o : Nat) (a : List (nQ)) (a1 r : Int) (w : World) (u : Kd.C Au w m a.length a) (x : a.length ≤ o) (h : lV.f k JW a a1 = some r) :
  Calls Tryz.prog 56 #[.agg #[.int .i64 JW, .slice m a.length o], .int .i64 a1] w fun e w' => e = .returned (.int .i64 r) ∧ Below w.heap.size w w' := by
 have U := Tryz.underlying84;have y := ah.mk u;have z := ah.mk x;clear u x;have HB := ah.mk (Below.refl w.heap.size w);unfold lV.f at h;have H := h;clear h;replace H := be H; obtain ⟨J, A3, H⟩ := H;replace H := ah.mk H;go_enter Tryz.func56, Tryz.ntmps56;go_wp2_with (first | ((with_reducible refine aK (N := 2) rfl ?_); refine bA (N := 2) (cs := #[.int .i64 JW, .slice m a.length o]) (t := 84) ?_; intro L hg M hbox hb; have l := ah.mk hbox; have A := SZ (w := w) hg; have O := A; replace HB := BS (w := w) hb; clear hb hbox hg; obtain ⟨D, E, G, I⟩ := cz2 l.out) | ((with_reducible refine aA (f := 104) rfl ?_); refine aY (some 8) Tryz.func104 #[.slice m a.length o, .int .i64 a1] ?_; (with_reducible refine (gT.calls k _ _ a a1 J _ ?side1 ?side2 A3.out).mono ?_); (case side1 => exact CB y); (case side2 => exact z.out); rintro e P ⟨rfl, hb⟩; refine ⟨_, rfl, ?_⟩; replace l := KB l hb; replace HB := BS (w := w) hb; (try clear hb); refine dF ?_));refine Hide.mk ?_;replace H := H.out;replace H := ifD H; rcases H with ⟨K, H⟩ | ⟨K, H⟩
 ·obtain rfl := Option.some.inj H;(try go_wp2);go_ret;exact ⟨EWW, BL⟩
 ·obtain rfl := Option.some.inj H;(try go_wp2);go_ret;exact ⟨EWW, BL⟩
def gQ.l0 : Nat → List (S84) → Int → Int → Option (Int)
 | 0, _, _, _ => none
 | k + 1, a, b, c => if c < (a.length : Int) then (if 0 ≤ c then ((lV.f k ((lH a c).f0) ((lH a c).f1) b).bind fun d => (if d < 0 then (some (-1)) else (gQ.l0 k a d (wrap64 (c + 1))))) else (none)) else (some b)
def gQ.f (k : Nat) (l0 : List (S84)) (a1 : Int) : Option (Int) := if (wrap64 (a1 - (l0.length : Int))) < 0 then (some (-1)) else (gQ.l0 k l0 (wrap64 (a1 - (l0.length : Int))) 0)
theorem gQ.calls (k : Nat) (Y : Option Addr) (Z : Nat) (l0 : List (S84)) (a1 r : Int) (w : World) (G : Kd.C k84 w Y l0.length l0) (I : l0.length ≤ Z) (h : gQ.f k l0 a1 = some r) :
  Calls Tryz.prog 27 #[.slice Y l0.length Z, .int .i64 a1] w fun e w' => e = .returned (.int .i64 r) ∧ Below w.heap.size w w' := by
 have xa := Tryz.underlying84;have P := ah.mk G;have xc := ah.mk I;clear G I;have HB := ah.mk (Below.refl w.heap.size w);unfold gQ.f at h;have H := h;clear h;replace H := ah.mk H;go_enter Tryz.func27, Tryz.ntmps27;replace H := H.out;replace H := ifD H; rcases H with ⟨E, H⟩ | ⟨E, H⟩
 ·obtain rfl := Option.some.inj H;(try go_wp2);go_ret;exact ⟨EWW, BL⟩
 ·have H' := ah.mk H;clear H;try go_wp2
  go_loopg [1, 5] k (fun kq v1 v5 w' => ∃ (o : Int) (a : Int), v1 = .int .i64 o ∧ v5 = .int .i64 a ∧ ah (gQ.l0 kq l0 o a = some r) ∧ ah (kq ≤ k) ∧ ah (Below w.heap.size w w'))
  case atStart => exact ⟨_, _, EQ, EQ, H', ⟨Nat.le_refl _⟩, ⟨BL⟩⟩
  case round =>
   clear H';(try clear c3);(try clear E);obtain ⟨o, a, rfl, rfl, HA, J, HB⟩ := hrel
   cases gk with
   | zero => exact absurd HA.out (by simp [gQ.l0])
   | succ k1 =>
    have H := HA.out;clear HA;simp only [gQ.l0] at H;replace H := ifD H; rcases H with ⟨K, H⟩ | ⟨K, H⟩
    ·replace H := ifN H; obtain ⟨xb, H⟩ := H;replace H := be H; obtain ⟨L, A6, H⟩ := H;have u : 0 ≤ (a : Int) := OD;have x : a < (l0.length : Int) := OD;obtain ⟨U, A, D, M, l, m, hl107_1, hi107_1⟩ := FC P.out a u x
     cases M
     (try replace l := (HB.out.cell (World.block_lt_of_cell? w _ l)).trans l);(try replace m := (HB.out.cell (World.block_lt_of_cell? w _ m)).trans m);have y := ah.mk hi107_1;have z := ah.mk hl107_1;clear hi107_1 hl107_1;replace u := eq_true u;replace x := eq_true x;replace H := ah.mk H;go_wp2_with (first | ((with_reducible refine aA (f := 56) rfl ?_); refine aY (some 23) Tryz.func56 #[.agg #[.int .i64 ((lH l0 a).f0), .slice A ((lH l0 a).f1).length D], .int .i64 o] ?_; (with_reducible refine (lV.calls k1 ((lH l0 a).f0) _ _ ((lH l0 a).f1) o L _ ?side1 ?side2 A6.out).mono ?_); (case side1 => exact CB y); (case side2 => exact z.out); rintro e X ⟨rfl, hb⟩; refine ⟨_, rfl, ?_⟩; replace HB := BS (w := w) hb; (try clear hb); refine dF ?_));refine Hide.mk ?_;replace H := H.out;replace H := ifD H; rcases H with ⟨O, H⟩ | ⟨O, H⟩
     ·obtain rfl := Option.some.inj H;(try go_wp2);go_ret;exact ⟨EWW, BL⟩
     ·have H' := ah.mk H;clear H;(try go_wp2);go_roundg k1;case measure => have := J.out; omega
      case rel => exact ⟨_, _, EQ, EQ, H', ks J, ⟨BL⟩⟩
    ·obtain rfl := Option.some.inj H;go_wp2;go_ret;exact ⟨EWW, BL⟩
def lX.f (l0 : List Int) (a1 : Int) : Option (Int) := if (wrap64 (a1 - (l0.length : Int))) < 0 then (some (-1)) else (some (wrap64 (a1 - (l0.length : Int))))
theorem lX.calls (o : Option Addr) (u : Nat) (l0 : List Int) (a1 r : Int) (w : World) (a : Kd.C (Kd.int .i64) w o l0.length l0) (l : l0.length ≤ u) (h : lX.f l0 a1 = some r) :
  Calls Tryz.prog 38 #[.slice o l0.length u, .int .i64 a1] w fun e w' => e = .returned (.int .i64 r) ∧ dM w w' := by
 have x := ah.mk a;have y := ah.mk l;clear a l;unfold lX.f at h;have H := h;clear h;replace H := ah.mk H;go_enter Tryz.func38, Tryz.ntmps38;replace H := H.out;replace H := ifD H; rcases H with ⟨m, H⟩ | ⟨m, H⟩
 ·obtain rfl := Option.some.inj H;(try go_wp2);go_ret;exact ⟨EQ, DR⟩
 ·obtain rfl := Option.some.inj H;(try go_wp2);go_ret;exact ⟨EQ, DR⟩
def kM.f (k : Nat) (JW JX : Int) (JY : ByteArray) (JZ : List (S84)) (Ka : List Int) (Ke a1 : Int) : Option (Int) := (lW.f JW JX JY a1).bind fun t110 => (if t110 < 0 then (some (-1)) else ((gQ.f k JZ t110).bind fun t111 => (if t111 < 0 then (some (-1)) else ((lX.f Ka t111).bind fun t112 => (if t112 < 0 then (some (-1)) else (some t112))))))
theorem kM.calls (k : Nat) (JW JX : Int) (JY : ByteArray) (A0_3 : Option Addr) (c0_3 : Nat) (JZ : List (S84)) (A0_4 : Option Addr) (c0_4 : Nat) (Ka : List Int) (Ke a1 r : Int) (w : World) (hr0_3 : Kd.C k84 w A0_3 JZ.length JZ) (hc0_3 : JZ.length ≤ c0_3) (hr0_4 : Kd.C (Kd.int .i64) w A0_4 Ka.length Ka) (hc0_4 : Ka.length ≤ c0_4) (h : kM.f k JW JX JY JZ Ka Ke a1 = some r) :
  Calls Tryz.prog 7 #[.agg #[.int .i64 JW, .int .i64 JX, .string JY, .slice A0_3 JZ.length c0_3, .slice A0_4 Ka.length c0_4, .int .i64 Ke], .int .i64 a1] w fun e w' => e = .returned (.int .i64 r) ∧ Below w.heap.size w w' := by
 have xF := Tryz.underlying27;have xG := Tryz.underlying23;have o := ah.mk hr0_3;have u := ah.mk hc0_3;clear hr0_3 hc0_3;have x := ah.mk hr0_4;have y := ah.mk hc0_4;clear hr0_4 hc0_4;have HB := ah.mk (Below.refl w.heap.size w);unfold kM.f at h;have H := h;clear h;replace H := be H; obtain ⟨l, A3, H⟩ := H;replace H := ah.mk H;go_enter Tryz.func7, Tryz.ntmps7;go_wp2_with (first | ((with_reducible refine aK (N := 2) rfl ?_); refine bA (N := 2) (cs := #[.int .i64 JW, .int .i64 JX, .string JY, .slice A0_3 JZ.length c0_3, .slice A0_4 Ka.length c0_4, .int .i64 Ke]) (t := 27) ?_; intro xz hg xA hbox hb; have a := ah.mk hbox; have z := SZ (w := w) hg; have xB := z; replace HB := BS (w := w) hb; clear hb hbox hg; obtain ⟨A, D, E, G, I, J, K, L, M, O, P, U⟩ := cz6 a.out) | ((with_reducible refine aA (f := 26) rfl ?_); refine aY (some 8) Tryz.func26 #[.agg #[.int .i64 JW, .int .i64 JX, .string JY], .int .i64 a1] ?_; (with_reducible refine (lW.calls JW JX JY a1 l _ A3.out).mono ?_); rintro e xC ⟨rfl, hb⟩; refine ⟨_, rfl, ?_⟩; replace a := KB a hb; replace HB := BS (w := w) hb; (try clear hb); obtain ⟨X, Y, Z, xa, xb, xc, xd, xe, xf, xg, xh, xi⟩ := cz6 a.out; refine dF ?_));refine Hide.mk ?_;replace H := H.out;replace H := ifD H; rcases H with ⟨xw, H⟩ | ⟨xw, H⟩
 ·obtain rfl := Option.some.inj H;(try go_wp2);go_ret;exact ⟨EWW, BL⟩
 ·replace H := be H; obtain ⟨m, A8, H⟩ := H;replace H := ah.mk H;go_wp2_with (first | ((with_reducible refine aA (f := 27) rfl ?_); refine aY (some 14) Tryz.func27 #[.slice A0_3 JZ.length c0_3, .int .i64 l] ?_; (with_reducible refine (gQ.calls k _ _ JZ l m _ ?side1 ?side2 A8.out).mono ?_); (case side1 => exact CB o); (case side2 => exact u.out); rintro e xD ⟨rfl, hb⟩; refine ⟨_, rfl, ?_⟩; replace a := KB a hb; replace HB := BS (w := w) hb; (try clear hb); obtain ⟨xj, xk, xl, xm, xn, xo, xp, xq, xr, xs, xt, xu⟩ := cz6 a.out; refine dF ?_));refine Hide.mk ?_;replace H := H.out;replace H := ifD H; rcases H with ⟨xx, H⟩ | ⟨xx, H⟩
  ·obtain rfl := Option.some.inj H;(try go_wp2);go_ret;exact ⟨EWW, BL⟩
  ·replace H := be H; obtain ⟨xy, xE, H⟩ := H;replace H := ah.mk H;go_wp2_with (first | ((with_reducible refine aA (f := 38) rfl ?_); refine aY (some 20) Tryz.func38 #[.slice A0_4 Ka.length c0_4, .int .i64 m] ?_; (with_reducible refine (lX.calls _ _ Ka m xy _ ?side1 ?side2 xE.out).mono ?_); (case side1 => exact CB x); (case side2 => exact y.out); rintro e w' ⟨rfl, ⟨nd, rfl⟩⟩; refine ⟨_, rfl, ?_⟩; refine dF ?_));refine Hide.mk ?_;replace H := H.out;replace H := ifD H; rcases H with ⟨xv, H⟩ | ⟨xv, H⟩
   ·obtain rfl := Option.some.inj H;(try go_wp2);go_ret;exact ⟨EWW, BL⟩
   ·obtain rfl := Option.some.inj H;(try go_wp2);go_ret;exact ⟨EWW, BL⟩
def jZ.f (JW : ByteArray) (JX a1 : Int) : Option (Int) := if (wrap64 (a1 - (JW.size : Int))) < 0 then (some (-1)) else (some (wrap64 (a1 - (JW.size : Int))))
theorem jZ.calls (JW : ByteArray) (JX a1 r : Int) (w : World) (h : jZ.f JW JX a1 = some r) :
  Calls Tryz.prog 39 #[.agg #[.string JW, .int .i64 JX], .int .i64 a1] w fun e w' => e = .returned (.int .i64 r) ∧ Below w.heap.size w w' := by
 have E := Tryz.underlying64;have HB := ah.mk (Below.refl w.heap.size w);unfold jZ.f at h;have H := h;clear h;replace H := ah.mk H;go_enter Tryz.func39, Tryz.ntmps39;go_wp2_with (first | ((with_reducible refine aK (N := 2) rfl ?_); refine bA (N := 2) (cs := #[.string JW, .int .i64 JX]) (t := 64) ?_; intro z hg A hbox hb; have a := ah.mk hbox; have l := SZ (w := w) hg; have D := l; replace HB := BS (w := w) hb; clear hb hbox hg; obtain ⟨m, o, u, x⟩ := cz2 a.out; refine dF ?_));refine Hide.mk ?_;replace H := H.out;replace H := ifD H; rcases H with ⟨y, H⟩ | ⟨y, H⟩
 ·obtain rfl := Option.some.inj H;(try go_wp2);go_ret;exact ⟨EWW, BL⟩
 ·obtain rfl := Option.some.inj H;(try go_wp2);go_ret;exact ⟨EWW, BL⟩
def fD.l0 : Nat → List (S64) → Int → Int → Option (Int)
 | 0, _, _, _ => none
 | k + 1, a, b, c => if c < (a.length : Int) then (if 0 ≤ c then ((jZ.f ((mQ a c).f0) ((mQ a c).f1) b).bind fun d => (if d < 0 then (some (-1)) else (fD.l0 k a d (wrap64 (c + 1))))) else (none)) else (some b)
def fD.f (k : Nat) (l0 : List (S64)) (a1 : Int) : Option (Int) := if (wrap64 (a1 - (l0.length : Int))) < 0 then (some (-1)) else (fD.l0 k l0 (wrap64 (a1 - (l0.length : Int))) 0)
theorem fD.calls (k : Nat) (O : Option Addr) (P : Nat) (l0 : List (S64)) (a1 r : Int) (w : World) (z : Kd.C k64 w O l0.length l0) (A : l0.length ≤ P) (h : fD.f k l0 a1 = some r) :
  Calls Tryz.prog 8 #[.slice O l0.length P, .int .i64 a1] w fun e w' => e = .returned (.int .i64 r) ∧ Below w.heap.size w w' := by
 have U := Tryz.underlying64;have K := ah.mk z;have Y := ah.mk A;clear z A;have HB := ah.mk (Below.refl w.heap.size w);unfold fD.f at h;have H := h;clear h;replace H := ah.mk H;go_enter Tryz.func8, Tryz.ntmps8;replace H := H.out;replace H := ifD H; rcases H with ⟨y, H⟩ | ⟨y, H⟩
 ·obtain rfl := Option.some.inj H;(try go_wp2);go_ret;exact ⟨EWW, BL⟩
 ·have H' := ah.mk H;clear H;try go_wp2
  go_loopg [1, 5] k (fun kq Z v5 w' => ∃ (o : Int) (a : Int), Z = .int .i64 o ∧ v5 = .int .i64 a ∧ ah (fD.l0 kq l0 o a = some r) ∧ ah (kq ≤ k) ∧ ah (Below w.heap.size w w'))
  case atStart => exact ⟨_, _, EQ, EQ, H', ⟨Nat.le_refl _⟩, ⟨BL⟩⟩
  case round =>
   clear H';(try clear c3);(try clear y);obtain ⟨o, a, rfl, rfl, HA, D, HB⟩ := hrel
   cases gk with
   | zero => exact absurd HA.out (by simp [fD.l0])
   | succ k1 =>
    have H := HA.out;clear HA;simp only [fD.l0] at H;replace H := ifD H; rcases H with ⟨E, H⟩ | ⟨E, H⟩
    ·replace H := ifN H; obtain ⟨X, H⟩ := H;replace H := be H; obtain ⟨G, A6, H⟩ := H;have u : 0 ≤ (a : Int) := OD;have x : a < (l0.length : Int) := OD;obtain ⟨L, I, l, m⟩ := FB K.out a u x
     cases I
     (try replace l := (HB.out.cell (World.block_lt_of_cell? w _ l)).trans l);(try replace m := (HB.out.cell (World.block_lt_of_cell? w _ m)).trans m);replace u := eq_true u;replace x := eq_true x;replace H := ah.mk H;go_wp2_with (first | ((with_reducible refine aA (f := 39) rfl ?_); refine aY (some 23) Tryz.func39 #[.agg #[.string ((mQ l0 a).f0), .int .i64 ((mQ l0 a).f1)], .int .i64 o] ?_; (with_reducible refine (jZ.calls ((mQ l0 a).f0) ((mQ l0 a).f1) o G _ A6.out).mono ?_); rintro e M ⟨rfl, hb⟩; refine ⟨_, rfl, ?_⟩; replace HB := BS (w := w) hb; (try clear hb); refine dF ?_));refine Hide.mk ?_;replace H := H.out;replace H := ifD H; rcases H with ⟨J, H⟩ | ⟨J, H⟩
     ·obtain rfl := Option.some.inj H;(try go_wp2);go_ret;exact ⟨EWW, BL⟩
     ·have H' := ah.mk H;clear H;(try go_wp2);go_roundg k1;case measure => have := D.out; omega
      case rel => exact ⟨_, _, EQ, EQ, H', ks D, ⟨BL⟩⟩
    ·obtain rfl := Option.some.inj H;go_wp2;go_ret;exact ⟨EWW, BL⟩
def fP.l0 : Nat → List ByteArray → Int → Int → Option (Int)
 | 0, _, _, _ => none
 | k + 1, a, b, c => if c < (a.length : Int) then (if 0 ≤ c then (if (wrap64 (b - ((gW ByteArray.empty a c).size : Int))) < 0 then (some (-1)) else (fP.l0 k a (wrap64 (b - ((gW ByteArray.empty a c).size : Int))) (wrap64 (c + 1)))) else (none)) else (some b)
def fP.f (k : Nat) (l0 : List ByteArray) (a1 : Int) : Option (Int) := if (wrap64 (a1 - (l0.length : Int))) < 0 then (some (-1)) else (fP.l0 k l0 (wrap64 (a1 - (l0.length : Int))) 0)
theorem fP.calls (k : Nat) (K : Option Addr) (L : Nat) (l0 : List ByteArray) (a1 r : Int) (w : World) (x : Kd.C Kd.string w K l0.length l0) (y : l0.length ≤ L) (h : fP.f k l0 a1 = some r) :
  Calls Tryz.prog 9 #[.slice K l0.length L, .int .i64 a1] w fun e w' => e = .returned (.int .i64 r) ∧ dM w w' := by
 have I := ah.mk x;have O := ah.mk y;clear x y;unfold fP.f at h;have H := h;clear h;replace H := ah.mk H;go_enter Tryz.func9, Tryz.ntmps9;replace H := H.out;replace H := ifD H; rcases H with ⟨u, H⟩ | ⟨u, H⟩
 ·obtain rfl := Option.some.inj H;(try go_wp2);go_ret;exact ⟨EQ, DR⟩
 ·have H' := ah.mk H;clear H;try go_wp2
  go_loopg [1, 5] k (fun kq P U w' => ∃ (l : Int) (a : Int), P = .int .i64 l ∧ U = .int .i64 a ∧ ah (fP.l0 kq l0 l a = some r) ∧ ah (kq ≤ k) ∧ dM w w')
  case atStart => exact ⟨_, _, EQ, EQ, H', ⟨Nat.le_refl _⟩, DR⟩
  case round =>
   clear H';(try clear c3);(try clear u);obtain ⟨l, a, rfl, rfl, HA, z, ⟨m1, rfl⟩⟩ := hrel
   cases gk with
   | zero => exact absurd HA.out (by simp [fP.l0])
   | succ k1 =>
    have H := HA.out;clear HA;simp only [fP.l0] at H;replace H := ifD H; rcases H with ⟨A, H⟩ | ⟨A, H⟩
    ·replace H := ifN H; obtain ⟨M, H⟩ := H;have m : 0 ≤ (a : Int) := OD;have o : a < (l0.length : Int) := OD;obtain ⟨J, D, E⟩ := Kd.kT I.out a m o
     cases D
     replace m := eq_true m;replace o := eq_true o;replace H := ifD H; rcases H with ⟨G, H⟩ | ⟨G, H⟩
     ·obtain rfl := Option.some.inj H;go_wp2;go_ret;exact ⟨EQ, DR⟩
     ·have H' := ah.mk H;clear H;go_wp2;go_roundg k1;case measure => have := z.out; omega
      case rel => exact ⟨_, _, EQ, EQ, H', ks z, DR⟩
    ·obtain rfl := Option.some.inj H;go_wp2;go_ret;exact ⟨EQ, DR⟩
def bF.f (a0 a1 a2 : Int) : Option (Bool) := if a0 ≥ a1 then (some (decide (a0 ≤ a2))) else (some false)
theorem bF.calls (a a1 m : Int) (r : Bool) (w : World) (h : bF.f a a1 m = some r) :
  Calls Tryz.prog 58 #[.int .i64 a, .int .i64 a1, .int .i64 m] w fun e w' => e = .returned (.bool r) ∧ dM w w' := by
 unfold bF.f at h;have H := h;clear h;replace H := ah.mk H;go_enter Tryz.func58, Tryz.ntmps58;replace H := H.out;by_cases c4 : a ≥ a1
 ·rw [if_pos c4] at H;have l : decide (a1 ≤ a) = true := decide_eq_true c4;clear c4;obtain rfl := Option.some.inj H;(try go_wp2);go_ret;exact ⟨EQ, DR⟩
 ·rw [if_neg c4] at H;have l : decide (a1 ≤ a) = false := decide_eq_false c4;clear c4;obtain rfl := Option.some.inj H;(try go_wp2);go_ret;exact ⟨EQ, DR⟩
def bH.l0 : Nat → ByteArray → Int → Option (Bool)
 | 0, _, _ => none
 | k + 1, a, b => if b < (a.size : Int) then (if 0 ≤ b then (if (bt a b) < 97 then (some false) else (if (bt a b) > 122 then (some false) else (bH.l0 k a (wrap64 (b + 1))))) else (none)) else (some true)
def bH.f (k : Nat) (a0 : ByteArray) : Option (Bool) := (bF.f (a0.size : Int) 1 8).bind fun t117 => (if t117 = true then (bH.l0 k a0 0) else (some false))
theorem bH.calls (k : Nat) (l : ByteArray) (r : Bool) (w : World) (h : bH.f k l = some r) :
  Calls Tryz.prog 97 #[.string l] w fun e w' => e = .returned (.bool r) ∧ dM w w' := by
 unfold bH.f at h;have H := h;clear h;replace H := be H; obtain ⟨y, A2, H⟩ := H;replace H := ah.mk H;go_enter Tryz.func97, Tryz.ntmps97;go_wp2_with (first | ((with_reducible refine aA (f := 58) rfl ?_); refine aY (some 6) Tryz.func58 #[.int .i64 (l.size : Int), .int .i64 1, .int .i64 8] ?_; (with_reducible refine (bF.calls (l.size : Int) 1 8 _ _ A2.out).mono ?_); rintro e w' ⟨rfl, ⟨nd, rfl⟩⟩; refine ⟨_, rfl, ?_⟩; refine dF ?_));refine Hide.mk ?_;replace H := H.out;replace H := ifB H; rcases H with ⟨rfl, H⟩ | ⟨rfl, H⟩
 ·have H' := ah.mk H;clear H;try go_wp2
  go_loopg [3] k (fun kq A w' => ∃ (a : Int), A = .int .i64 a ∧ ah (bH.l0 kq l a = some r) ∧ ah (kq ≤ k) ∧ dM w w')
  case atStart => exact ⟨_, EQ, H', ⟨Nat.le_refl _⟩, DR⟩
  case round =>
   clear H';(try clear c3);obtain ⟨a, rfl, HA, m, ⟨m1, rfl⟩⟩ := hrel
   cases gk with
   | zero => exact absurd HA.out (by simp [bH.l0])
   | succ k1 =>
    have H := HA.out;clear HA;simp only [bH.l0] at H;replace H := ifD H; rcases H with ⟨o, H⟩ | ⟨o, H⟩
    ·replace H := ifN H; obtain ⟨z, H⟩ := H;have D : (0 ≤ (a : Int)) = True := OT;have E : (a < (l.size : Int)) = True := OT;have hx6 := gX l a;replace H := ifD H; rcases H with ⟨u, H⟩ | ⟨u, H⟩
     ·obtain rfl := Option.some.inj H;go_wp2;go_ret;exact ⟨EQ, DR⟩
     ·have G : (0 ≤ (a : Int)) = True := OT;have I : (a < (l.size : Int)) = True := OT;have hx8 := gX l a;by_cases c9 : (bt l a) > 122
      ·rw [if_pos c9] at H;have x : decide (122 < (bt l a)) = true := decide_eq_true c9;clear c9;obtain rfl := Option.some.inj H;go_wp2;go_ret;exact ⟨EQ, DR⟩
      ·rw [if_neg c9] at H;have x : decide (122 < (bt l a)) = false := decide_eq_false c9;clear c9;have H' := ah.mk H;clear H;go_wp2;go_roundg k1;case measure => have := m.out; omega
       case rel => exact ⟨_, EQ, H', ks m, DR⟩
    ·obtain rfl := Option.some.inj H;go_wp2;go_ret;exact ⟨EQ, DR⟩
 ·obtain rfl := Option.some.inj H;(try go_wp2);go_ret;exact ⟨EQ, DR⟩
mutual
def fZ.j0 : Nat → List (bW) → Int → Bool → Int → ByteArray → Int → Int → Option (Bool)
 | 0, _, _, _, _, _, _, _ => none
 | k + 1, a, b, c, d, e, f, g => if c = true then (some false) else (if d = 4 then (fZ.j1 k a b true d e f g) else (fZ.j1 k a b (d == 5) d e f g))
def fZ.j1 : Nat → List (bW) → Int → Bool → Int → ByteArray → Int → Int → Option (Bool)
 | 0, _, _, _, _, _, _, _ => none
 | k + 1, a, b, c, d, e, f, g => if d = 1 then (if f = 0 then (some (g == 0)) else (some false)) else ((bF.f f 0 (wrap64 (b - 1))).bind fun h => (if h = true then (if c = true then ((bF.f g 0 (wrap64 (b - 1))).bind fun i => (if i = true then (some true) else (some false))) else (if g = 0 then (if d = 2 then (some true) else (if 0 ≤ f then (if f < (a.length : Int) then (some (((aj a f).f0) == 1)) else (none)) else (none))) else (some false))) else (some false)))
end
def fZ.f (k : Nat) (l0 : List (bW)) (a1 : Int) : Option (Bool) := if 0 ≤ a1 then (if a1 < (l0.length : Int) then ((bF.f ((aj l0 a1).f0) 1 9).bind fun t120 => (if t120 = true then ((bH.f k ((aj l0 a1).f1)).bind fun t121 => (if ((((aj l0 a1).f0) == 1) != t121) = true then (fZ.j0 k l0 a1 true ((aj l0 a1).f0) ((aj l0 a1).f1) ((aj l0 a1).f2) ((aj l0 a1).f3)) else (if ((aj l0 a1).f0) = 1 then (fZ.j0 k l0 a1 false ((aj l0 a1).f0) ((aj l0 a1).f1) ((aj l0 a1).f2) ((aj l0 a1).f3)) else (fZ.j0 k l0 a1 (((aj l0 a1).f1).toList != ([] : List UInt8)) ((aj l0 a1).f0) ((aj l0 a1).f1) ((aj l0 a1).f2) ((aj l0 a1).f3))))) else (fZ.j0 k l0 a1 true ((aj l0 a1).f0) ((aj l0 a1).f1) ((aj l0 a1).f2) ((aj l0 a1).f3)))) else (none)) else (none)
theorem fZ.calls (k : Nat) (A0 : Option Addr) (c0 : Nat) (l0 : List (bW)) (a1 : Int) (r : Bool) (w : World) (yg : Kd.C iW w A0 l0.length l0) (yh : l0.length ≤ c0) (h : fZ.f k l0 a1 = some r) :
  Calls Tryz.prog 171 #[.slice A0 l0.length c0, .int .i64 a1] w fun e w' => e = .returned (.bool r) ∧ Below w.heap.size w w' := by
 have yk := Tryz.underlying127;have xs := ah.mk yg;have yx := ah.mk yh;clear yg yh;have HB := ah.mk (Below.refl w.heap.size w);unfold fZ.f at h;have H := h;clear h;replace H := ifN H; obtain ⟨xt, H⟩ := H;replace H := ifN H; obtain ⟨xu, H⟩ := H;have xv := ah.mk H;clear H;have xb : 0 ≤ (a1 : Int) := OD;have xc : a1 < (l0.length : Int) := OD;obtain ⟨xi, yi, xd, xe, xf, xg⟩ := kQ xs.out a1 xb xc
 cases yi
 replace xb := eq_true xb;replace xc := eq_true xc;go_enter Tryz.func171, Tryz.ntmps171;go_upto_region 2 with (first | ((with_reducible refine aK (N := 5) rfl ?_); refine bA (N := 5) (cs := #[.int .i64 0, .string (⟨#[]⟩ : ByteArray), .int .i64 0, .int .i64 0]) (t := 127) ?_; intro Z hg xp hbox hb; have u := ah.mk hbox; have P := SZ (w := w) hg; have xq := P; replace HB := BS (w := w) hb; clear hb hbox hg; obtain ⟨y, z, A, D, E, G, I, J⟩ := cz4 u.out))
 repeat (go_quiet (first | ((with_reducible refine aK (N := 5) rfl ?_); refine bA (N := 5) (cs := #[.int .i64 0, .string (⟨#[]⟩ : ByteArray), .int .i64 0, .int .i64 0]) (t := 127) ?_; intro Z hg xp hbox hb; have u := ah.mk hbox; have P := SZ (w := w) hg; have xq := P; replace HB := BS (w := w) hb; clear hb hbox hg; obtain ⟨y, z, A, D, E, G, I, J⟩ := cz4 u.out)); go_upto_region 2 with (first | ((with_reducible refine aK (N := 5) rfl ?_); refine bA (N := 5) (cs := #[.int .i64 0, .string (⟨#[]⟩ : ByteArray), .int .i64 0, .int .i64 0]) (t := 127) ?_; intro Z hg xp hbox hb; have u := ah.mk hbox; have P := SZ (w := w) hg; have xq := P; replace HB := BS (w := w) hb; clear hb hbox hg; obtain ⟨y, z, A, D, E, G, I, J⟩ := cz4 u.out)))
 (try simp only [Act.put, List.setIfInBounds_toArray, List.set_cons_zero, List.set_cons_succ])
 go_cut [33] (fun yl wc => ∃ (kq : Nat) (xj : Bool), yl = .bool xj ∧ ah (fZ.j0 kq l0 a1 xj ((aj l0 a1).f0) ((aj l0 a1).f1) ((aj l0 a1).f2) ((aj l0 a1).f3) = some r) ∧ ah (kq ≤ k) ∧ ah (wc.heap[Z]? = some (.cells #[.int .i64 ((aj l0 a1).f0), .string ((aj l0 a1).f1), .int .i64 ((aj l0 a1).f2), .int .i64 ((aj l0 a1).f3)] 127 (0, 0))) ∧ ah (Below w.heap.size w wc))
 case first =>
  have H := xv.out;clear xv;replace H := be H; obtain ⟨ys, A8, H⟩ := H;obtain ⟨xw, xx, xy, xz, xA, xB, xC, xD⟩ := cz4 u.out;replace H := ifB H; rcases H with ⟨rfl, H⟩ | ⟨rfl, H⟩
  ·replace H := be H; obtain ⟨x, xa, H⟩ := H;by_cases U : ((((aj l0 a1).f0) == 1) != x) = true
   ·rw [if_pos U] at H;have O : ((((aj l0 a1).f0) == 1) != x) = true := U;(try (have xE : decide ((((aj l0 a1).f0) == 1) = x) = false := by simpa using U));(try (have xF : ((((aj l0 a1).f0) == 1) == x) = false := by simpa using U));(try (have ym : ¬ ((((aj l0 a1).f0) == 1) = x) := by simpa using U));clear U;(first | rw [O] | (simp only [iQ, jv]; rw [O]) | skip);have H' := ah.mk H;clear H
    repeat (go_wp2_with (first | (go_at_call 58; (with_reducible refine (bF.calls ((aj l0 a1).f0) 1 9 _ _ A8.out).mono ?_); rintro e w' ⟨rfl, ⟨nd, rfl⟩⟩; (try first | exact da | exact DD)) | (go_at_call 97; (with_reducible refine (bH.calls k ((aj l0 a1).f1) x _ xa.out).mono ?_); rintro e w' ⟨rfl, ⟨nd, rfl⟩⟩; (try first | exact da | exact DD))); go_quiet (first | (go_at_call 58; (with_reducible refine (bF.calls ((aj l0 a1).f0) 1 9 _ _ A8.out).mono ?_); rintro e w' ⟨rfl, ⟨nd, rfl⟩⟩; (try first | exact da | exact DD)) | (go_at_call 97; (with_reducible refine (bH.calls k ((aj l0 a1).f1) x _ xa.out).mono ?_); rintro e w' ⟨rfl, ⟨nd, rfl⟩⟩; (try first | exact da | exact DD))))
    go_wp2_with (first | (go_at_call 58; (with_reducible refine (bF.calls ((aj l0 a1).f0) 1 9 _ _ A8.out).mono ?_); rintro e w' ⟨rfl, ⟨nd, rfl⟩⟩; (try first | exact da | exact DD)) | (go_at_call 97; (with_reducible refine (bH.calls k ((aj l0 a1).f1) x _ xa.out).mono ?_); rintro e w' ⟨rfl, ⟨nd, rfl⟩⟩; (try first | exact da | exact DD)));go_meet;case rel => exact ⟨_, (true), (by first | rfl | (simp; done) | (simp [*]; rw [Bool.eq_iff_iff]; simp [bne, List.isEmpty_iff]; done) | (simp [*]; done)), H', ⟨by first | omega | exact Nat.le_refl _⟩, ⟨by (with_reducible repeat (first | refine aC ?_ _ | refine aD ?_ | refine ay ?_ _)); refine aR (cs := #[.int .i64 ((aj l0 a1).f0), .string ((aj l0 a1).f1), .int .i64 ((aj l0 a1).f2), .int .i64 0]) ?_ 3 _ rfl; (with_reducible repeat (first | refine aC ?_ _ | refine aD ?_ | refine ay ?_ _)); refine aR (cs := #[.int .i64 ((aj l0 a1).f0), .string ((aj l0 a1).f1), .int .i64 0, .int .i64 0]) ?_ 2 _ rfl; (with_reducible repeat (first | refine aC ?_ _ | refine aD ?_ | refine ay ?_ _)); refine aR (cs := #[.int .i64 ((aj l0 a1).f0), .string (⟨#[]⟩ : ByteArray), .int .i64 0, .int .i64 0]) ?_ 1 _ rfl; (with_reducible repeat (first | refine aC ?_ _ | refine aD ?_ | refine ay ?_ _)); refine aR (cs := #[.int .i64 0, .string (⟨#[]⟩ : ByteArray), .int .i64 0, .int .i64 0]) ?_ 0 _ rfl; (with_reducible repeat (first | refine aC ?_ _ | refine aD ?_ | refine ay ?_ _)); exact u.out⟩, ⟨BL⟩⟩
   ·rw [if_neg U] at H;have O : ((((aj l0 a1).f0) == 1) != x) = false := by simpa using U
    (try (have xE : decide ((((aj l0 a1).f0) == 1) = x) = true := by simpa using U));(try (have xF : ((((aj l0 a1).f0) == 1) == x) = true := by simpa using U));clear U;(first | rw [O] | (simp only [iQ, jv]; rw [O]) | skip);by_cases xk : ((aj l0 a1).f0) = 1
    ·rw [if_pos xk] at H;have xl : (((aj l0 a1).f0) == 1) = true := beq_iff_eq.mpr xk;have xG : (((aj l0 a1).f0) != 1) = false := bne_eq_false_iff_eq.mpr xk;have cw_ : x = true := by simpa [xl] using O   -- mended
     clear xk;have H' := ah.mk H;clear H
     repeat (go_wp2_with (first | (go_at_call 58; (with_reducible refine (bF.calls ((aj l0 a1).f0) 1 9 _ _ A8.out).mono ?_); rintro e w' ⟨rfl, ⟨nd, rfl⟩⟩; (try first | exact da | exact DD)) | (go_at_call 97; (with_reducible refine (bH.calls k ((aj l0 a1).f1) x _ xa.out).mono ?_); rintro e w' ⟨rfl, ⟨nd, rfl⟩⟩; (try first | exact da | exact DD))); go_quiet (first | (go_at_call 58; (with_reducible refine (bF.calls ((aj l0 a1).f0) 1 9 _ _ A8.out).mono ?_); rintro e w' ⟨rfl, ⟨nd, rfl⟩⟩; (try first | exact da | exact DD)) | (go_at_call 97; (with_reducible refine (bH.calls k ((aj l0 a1).f1) x _ xa.out).mono ?_); rintro e w' ⟨rfl, ⟨nd, rfl⟩⟩; (try first | exact da | exact DD))))
     go_wp2_with (first | (go_at_call 58; (with_reducible refine (bF.calls ((aj l0 a1).f0) 1 9 _ _ A8.out).mono ?_); rintro e w' ⟨rfl, ⟨nd, rfl⟩⟩; (try first | exact da | exact DD)) | (go_at_call 97; (with_reducible refine (bH.calls k ((aj l0 a1).f1) x _ xa.out).mono ?_); rintro e w' ⟨rfl, ⟨nd, rfl⟩⟩; (try first | exact da | exact DD)));go_meet;case rel => exact ⟨_, (false), (by first | rfl | (simp; done) | (simp [*]; rw [Bool.eq_iff_iff]; simp [bne, List.isEmpty_iff]; done) | (simp [*]; done)), H', ⟨by first | omega | exact Nat.le_refl _⟩, ⟨by (with_reducible repeat (first | refine aC ?_ _ | refine aD ?_ | refine ay ?_ _)); refine aR (cs := #[.int .i64 ((aj l0 a1).f0), .string ((aj l0 a1).f1), .int .i64 ((aj l0 a1).f2), .int .i64 0]) ?_ 3 _ rfl; (with_reducible repeat (first | refine aC ?_ _ | refine aD ?_ | refine ay ?_ _)); refine aR (cs := #[.int .i64 ((aj l0 a1).f0), .string ((aj l0 a1).f1), .int .i64 0, .int .i64 0]) ?_ 2 _ rfl; (with_reducible repeat (first | refine aC ?_ _ | refine aD ?_ | refine ay ?_ _)); refine aR (cs := #[.int .i64 ((aj l0 a1).f0), .string (⟨#[]⟩ : ByteArray), .int .i64 0, .int .i64 0]) ?_ 1 _ rfl; (with_reducible repeat (first | refine aC ?_ _ | refine aD ?_ | refine ay ?_ _)); refine aR (cs := #[.int .i64 0, .string (⟨#[]⟩ : ByteArray), .int .i64 0, .int .i64 0]) ?_ 0 _ rfl; (with_reducible repeat (first | refine aC ?_ _ | refine aD ?_ | refine ay ?_ _)); exact u.out⟩, ⟨BL⟩⟩
    ·rw [if_neg xk] at H;have xl : (((aj l0 a1).f0) == 1) = false := beq_eq_false_iff_ne.mpr xk;have xG : (((aj l0 a1).f0) != 1) = true := bne_iff_ne.mpr xk;have cw_ : x = false := by simpa [xl] using O   -- mended
     have H' := ah.mk H;clear H
     repeat (go_wp2_with (first | (go_at_call 58; (with_reducible refine (bF.calls ((aj l0 a1).f0) 1 9 _ _ A8.out).mono ?_); rintro e w' ⟨rfl, ⟨nd, rfl⟩⟩; (try first | exact da | exact DD)) | (go_at_call 97; (with_reducible refine (bH.calls k ((aj l0 a1).f1) x _ xa.out).mono ?_); rintro e w' ⟨rfl, ⟨nd, rfl⟩⟩; (try first | exact da | exact DD))); go_quiet (first | (go_at_call 58; (with_reducible refine (bF.calls ((aj l0 a1).f0) 1 9 _ _ A8.out).mono ?_); rintro e w' ⟨rfl, ⟨nd, rfl⟩⟩; (try first | exact da | exact DD)) | (go_at_call 97; (with_reducible refine (bH.calls k ((aj l0 a1).f1) x _ xa.out).mono ?_); rintro e w' ⟨rfl, ⟨nd, rfl⟩⟩; (try first | exact da | exact DD))))
     go_wp2_with (first | (go_at_call 58; (with_reducible refine (bF.calls ((aj l0 a1).f0) 1 9 _ _ A8.out).mono ?_); rintro e w' ⟨rfl, ⟨nd, rfl⟩⟩; (try first | exact da | exact DD)) | (go_at_call 97; (with_reducible refine (bH.calls k ((aj l0 a1).f1) x _ xa.out).mono ?_); rintro e w' ⟨rfl, ⟨nd, rfl⟩⟩; (try first | exact da | exact DD)));go_meet;case rel => exact ⟨_, ((((aj l0 a1).f1).toList != ([] : List UInt8))), (by first | rfl | (simp; done) | (simp [*]; rw [Bool.eq_iff_iff]; simp [bne, List.isEmpty_iff]; done) | (simp [*]; done)), H', ⟨by first | omega | exact Nat.le_refl _⟩, ⟨by (with_reducible repeat (first | refine aC ?_ _ | refine aD ?_ | refine ay ?_ _)); refine aR (cs := #[.int .i64 ((aj l0 a1).f0), .string ((aj l0 a1).f1), .int .i64 ((aj l0 a1).f2), .int .i64 0]) ?_ 3 _ rfl; (with_reducible repeat (first | refine aC ?_ _ | refine aD ?_ | refine ay ?_ _)); refine aR (cs := #[.int .i64 ((aj l0 a1).f0), .string ((aj l0 a1).f1), .int .i64 0, .int .i64 0]) ?_ 2 _ rfl; (with_reducible repeat (first | refine aC ?_ _ | refine aD ?_ | refine ay ?_ _)); refine aR (cs := #[.int .i64 ((aj l0 a1).f0), .string (⟨#[]⟩ : ByteArray), .int .i64 0, .int .i64 0]) ?_ 1 _ rfl; (with_reducible repeat (first | refine aC ?_ _ | refine aD ?_ | refine ay ?_ _)); refine aR (cs := #[.int .i64 0, .string (⟨#[]⟩ : ByteArray), .int .i64 0, .int .i64 0]) ?_ 0 _ rfl; (with_reducible repeat (first | refine aC ?_ _ | refine aD ?_ | refine ay ?_ _)); exact u.out⟩, ⟨BL⟩⟩
  ·have H' := ah.mk H;clear H
   repeat (go_wp2_with (first | (go_at_call 58; (with_reducible refine (bF.calls ((aj l0 a1).f0) 1 9 _ _ A8.out).mono ?_); rintro e w' ⟨rfl, ⟨nd, rfl⟩⟩; (try first | exact da | exact DD))); go_quiet (first | (go_at_call 58; (with_reducible refine (bF.calls ((aj l0 a1).f0) 1 9 _ _ A8.out).mono ?_); rintro e w' ⟨rfl, ⟨nd, rfl⟩⟩; (try first | exact da | exact DD))))
   go_wp2_with (first | (go_at_call 58; (with_reducible refine (bF.calls ((aj l0 a1).f0) 1 9 _ _ A8.out).mono ?_); rintro e w' ⟨rfl, ⟨nd, rfl⟩⟩; (try first | exact da | exact DD)));go_meet;case rel => exact ⟨_, (true), (by first | rfl | (simp; done) | (simp [*]; rw [Bool.eq_iff_iff]; simp [bne, List.isEmpty_iff]; done) | (simp [*]; done)), H', ⟨by first | omega | exact Nat.le_refl _⟩, ⟨by (with_reducible repeat (first | refine aC ?_ _ | refine aD ?_ | refine ay ?_ _)); refine aR (cs := #[.int .i64 ((aj l0 a1).f0), .string ((aj l0 a1).f1), .int .i64 ((aj l0 a1).f2), .int .i64 0]) ?_ 3 _ rfl; (with_reducible repeat (first | refine aC ?_ _ | refine aD ?_ | refine ay ?_ _)); refine aR (cs := #[.int .i64 ((aj l0 a1).f0), .string ((aj l0 a1).f1), .int .i64 0, .int .i64 0]) ?_ 2 _ rfl; (with_reducible repeat (first | refine aC ?_ _ | refine aD ?_ | refine ay ?_ _)); refine aR (cs := #[.int .i64 ((aj l0 a1).f0), .string (⟨#[]⟩ : ByteArray), .int .i64 0, .int .i64 0]) ?_ 1 _ rfl; (with_reducible repeat (first | refine aC ?_ _ | refine aD ?_ | refine ay ?_ _)); refine aR (cs := #[.int .i64 0, .string (⟨#[]⟩ : ByteArray), .int .i64 0, .int .i64 0]) ?_ 0 _ rfl; (with_reducible repeat (first | refine aC ?_ _ | refine aD ?_ | refine ay ?_ _)); exact u.out⟩, ⟨BL⟩⟩
 case rest =>
  clear xv;(try clear c3);(try clear xt);(try clear c4);(try clear xu);(try clear y z A D E G I J);(try clear xd);(try clear xe);(try clear xf);(try clear xg);(try clear xb);(try clear xc);obtain ⟨kq, xj, rfl, HA, yj, u, HB⟩ := hcut
  cases kq with
  | zero => exact absurd HA.out (by simp [fZ.j0])
  | succ yn =>
   have H := HA.out;clear HA;simp only [fZ.j0] at H;replace H := ifB H; rcases H with ⟨rfl, H⟩ | ⟨rfl, H⟩
   ·obtain rfl := Option.some.inj H;go_wp2
    repeat (go_quiet (fail); try go_wp2)
    go_ret;exact ⟨EWW, BL⟩
   ·have xr := ah.mk H;clear H;go_upto_region 4 with (fail)
    repeat (go_quiet (fail); go_upto_region 4 with (fail))
    go_cut [6] (fun v6 wc => ∃ (kq : Nat) (xm : Bool), v6 = .bool xm ∧ ah (fZ.j1 kq l0 a1 xm ((aj l0 a1).f0) ((aj l0 a1).f1) ((aj l0 a1).f2) ((aj l0 a1).f3) = some r) ∧ ah (kq ≤ yn) ∧ ah (wc.heap[Z]? = some (.cells #[.int .i64 ((aj l0 a1).f0), .string ((aj l0 a1).f1), .int .i64 ((aj l0 a1).f2), .int .i64 ((aj l0 a1).f3)] 127 (0, 0))) ∧ ah (Below w.heap.size w wc))
    case first =>
     have H := xr.out;clear xr;obtain ⟨xH, xI, xJ, xK, xL, xM, xN, xO⟩ := cz4 u.out;replace H := ifE H; rcases H with ⟨X, xP, H⟩ | ⟨yz, X, xP, H⟩
     ·(first | rw [X] | (simp only [iQ, jv]; rw [X]) | skip);have H' := ah.mk H;clear H;go_wp2
      repeat (go_quiet (fail); try go_wp2)
      go_meet;case rel => exact ⟨_, (true), (by first | rfl | (simp; done) | (simp [*]; rw [Bool.eq_iff_iff]; simp [bne, List.isEmpty_iff]; done) | (simp [*]; done)), H', ⟨by have := yj.out; first | omega | exact Nat.le_refl _⟩, ⟨BK⟩, ⟨BL⟩⟩
     ·(first | rw [X] | (simp only [iQ, jv]; rw [X]) | skip);have H' := ah.mk H;clear H;go_wp2
      repeat (go_quiet (fail); try go_wp2)
      go_meet;case rel => exact ⟨_, ((((aj l0 a1).f0) == 5)), (by first | rfl | (simp; done) | (simp [*]; rw [Bool.eq_iff_iff]; simp [bne, List.isEmpty_iff]; done) | (simp [*]; done)), H', ⟨by have := yj.out; first | omega | exact Nat.le_refl _⟩, ⟨BK⟩, ⟨BL⟩⟩
    case rest =>
     clear xr;(try clear c3);(try clear xt);(try clear c4);(try clear xu);(try clear yA);(try clear y z A D E G I J);(try clear xd);(try clear xe);(try clear xf);(try clear xg);(try clear xb);(try clear xc);obtain ⟨kq, xm, rfl, HA, yt, u, HB⟩ := hcut
     cases kq with
     | zero => exact absurd HA.out (by simp [fZ.j1])
     | succ yu =>
      have H := HA.out;clear HA;simp only [fZ.j1] at H;obtain ⟨xQ, xR, xS, xT, xU, xV, xW, xX⟩ := cz4 u.out;replace H := ifE H; rcases H with ⟨xY, xZ, H⟩ | ⟨yB, xY, xZ, H⟩
      ·replace H := ifE H; rcases H with ⟨ya, yb, H⟩ | ⟨yC, ya, yb, H⟩
       ·obtain rfl := Option.some.inj H;go_wp2
        repeat (go_quiet (fail); try go_wp2)
        go_ret;exact ⟨EWW, BL⟩
       ·obtain rfl := Option.some.inj H;go_wp2
        repeat (go_quiet (fail); try go_wp2)
        go_ret;exact ⟨EWW, BL⟩
      ·replace H := be H; obtain ⟨yv, K, H⟩ := H;replace H := ifB H; rcases H with ⟨rfl, H⟩ | ⟨rfl, H⟩
       ·replace H := ifB H; rcases H with ⟨rfl, H⟩ | ⟨rfl, H⟩
        ·replace H := be H; obtain ⟨yw, xn, H⟩ := H;replace H := ifB H; rcases H with ⟨rfl, H⟩ | ⟨rfl, H⟩
         ·obtain rfl := Option.some.inj H
          repeat (go_wp2_with (first | (go_at_call 58; (with_reducible refine (bF.calls ((aj l0 a1).f2) 0 (wrap64 (a1 - 1)) _ _ K.out).mono ?_); rintro e w' ⟨rfl, ⟨nd, rfl⟩⟩; (try first | exact da | exact DD)) | (go_at_call 58; (with_reducible refine (bF.calls ((aj l0 a1).f3) 0 (wrap64 (a1 - 1)) _ _ xn.out).mono ?_); rintro e w' ⟨rfl, ⟨nd, rfl⟩⟩; (try first | exact da | exact DD))); go_quiet (first | (go_at_call 58; (with_reducible refine (bF.calls ((aj l0 a1).f2) 0 (wrap64 (a1 - 1)) _ _ K.out).mono ?_); rintro e w' ⟨rfl, ⟨nd, rfl⟩⟩; (try first | exact da | exact DD)) | (go_at_call 58; (with_reducible refine (bF.calls ((aj l0 a1).f3) 0 (wrap64 (a1 - 1)) _ _ xn.out).mono ?_); rintro e w' ⟨rfl, ⟨nd, rfl⟩⟩; (try first | exact da | exact DD))))
          go_wp2_with (first | (go_at_call 58; (with_reducible refine (bF.calls ((aj l0 a1).f2) 0 (wrap64 (a1 - 1)) _ _ K.out).mono ?_); rintro e w' ⟨rfl, ⟨nd, rfl⟩⟩; (try first | exact da | exact DD)) | (go_at_call 58; (with_reducible refine (bF.calls ((aj l0 a1).f3) 0 (wrap64 (a1 - 1)) _ _ xn.out).mono ?_); rintro e w' ⟨rfl, ⟨nd, rfl⟩⟩; (try first | exact da | exact DD)));go_ret;exact ⟨EWW, BL⟩
         ·obtain rfl := Option.some.inj H
          repeat (go_wp2_with (first | (go_at_call 58; (with_reducible refine (bF.calls ((aj l0 a1).f2) 0 (wrap64 (a1 - 1)) _ _ K.out).mono ?_); rintro e w' ⟨rfl, ⟨nd, rfl⟩⟩; (try first | exact da | exact DD)) | (go_at_call 58; (with_reducible refine (bF.calls ((aj l0 a1).f3) 0 (wrap64 (a1 - 1)) _ _ xn.out).mono ?_); rintro e w' ⟨rfl, ⟨nd, rfl⟩⟩; (try first | exact da | exact DD))); go_quiet (first | (go_at_call 58; (with_reducible refine (bF.calls ((aj l0 a1).f2) 0 (wrap64 (a1 - 1)) _ _ K.out).mono ?_); rintro e w' ⟨rfl, ⟨nd, rfl⟩⟩; (try first | exact da | exact DD)) | (go_at_call 58; (with_reducible refine (bF.calls ((aj l0 a1).f3) 0 (wrap64 (a1 - 1)) _ _ xn.out).mono ?_); rintro e w' ⟨rfl, ⟨nd, rfl⟩⟩; (try first | exact da | exact DD))))
          go_wp2_with (first | (go_at_call 58; (with_reducible refine (bF.calls ((aj l0 a1).f2) 0 (wrap64 (a1 - 1)) _ _ K.out).mono ?_); rintro e w' ⟨rfl, ⟨nd, rfl⟩⟩; (try first | exact da | exact DD)) | (go_at_call 58; (with_reducible refine (bF.calls ((aj l0 a1).f3) 0 (wrap64 (a1 - 1)) _ _ xn.out).mono ?_); rintro e w' ⟨rfl, ⟨nd, rfl⟩⟩; (try first | exact da | exact DD)));go_ret;exact ⟨EWW, BL⟩
        ·replace H := ifE H; rcases H with ⟨yc, yd, H⟩ | ⟨yD, yc, yd, H⟩
         ·replace H := ifE H; rcases H with ⟨ye, yf, H⟩ | ⟨yE, ye, yf, H⟩
          ·obtain rfl := Option.some.inj H
           repeat (go_wp2_with (first | (go_at_call 58; (with_reducible refine (bF.calls ((aj l0 a1).f2) 0 (wrap64 (a1 - 1)) _ _ K.out).mono ?_); rintro e w' ⟨rfl, ⟨nd, rfl⟩⟩; (try first | exact da | exact DD))); go_quiet (first | (go_at_call 58; (with_reducible refine (bF.calls ((aj l0 a1).f2) 0 (wrap64 (a1 - 1)) _ _ K.out).mono ?_); rintro e w' ⟨rfl, ⟨nd, rfl⟩⟩; (try first | exact da | exact DD))))
           go_wp2_with (first | (go_at_call 58; (with_reducible refine (bF.calls ((aj l0 a1).f2) 0 (wrap64 (a1 - 1)) _ _ K.out).mono ?_); rintro e w' ⟨rfl, ⟨nd, rfl⟩⟩; (try first | exact da | exact DD)));go_ret;exact ⟨EWW, BL⟩
          ·replace H := ifN H; obtain ⟨yo, H⟩ := H;replace H := ifN H; obtain ⟨yp, H⟩ := H;obtain rfl := Option.some.inj H
           repeat (go_wp2_with (first | (go_at_call 58; (with_reducible refine (bF.calls ((aj l0 a1).f2) 0 (wrap64 (a1 - 1)) _ _ K.out).mono ?_); rintro e w' ⟨rfl, ⟨nd, rfl⟩⟩; (try first | exact da | exact DD); have L : 0 ≤ (((aj l0 a1).f2) : Int) := OD; have M : ((aj l0 a1).f2) < (l0.length : Int) := OD; obtain ⟨Y, xh, a, l, m, o⟩ := kQ xs.out ((aj l0 a1).f2) L M; obtain rfl : xi = Y := (by injection xh); replace a := (HB.out.cell (World.block_lt_of_cell? w _ a)).trans a; replace l := (HB.out.cell (World.block_lt_of_cell? w _ l)).trans l; replace m := (HB.out.cell (World.block_lt_of_cell? w _ m)).trans m; replace o := (HB.out.cell (World.block_lt_of_cell? w _ o)).trans o; replace L := eq_true L; replace M := eq_true M)); go_quiet (first | (go_at_call 58; (with_reducible refine (bF.calls ((aj l0 a1).f2) 0 (wrap64 (a1 - 1)) _ _ K.out).mono ?_); rintro e w' ⟨rfl, ⟨nd, rfl⟩⟩; (try first | exact da | exact DD); have L : 0 ≤ (((aj l0 a1).f2) : Int) := OD; have M : ((aj l0 a1).f2) < (l0.length : Int) := OD; obtain ⟨Y, xh, a, l, m, o⟩ := kQ xs.out ((aj l0 a1).f2) L M; obtain rfl : xi = Y := (by injection xh); replace a := (HB.out.cell (World.block_lt_of_cell? w _ a)).trans a; replace l := (HB.out.cell (World.block_lt_of_cell? w _ l)).trans l; replace m := (HB.out.cell (World.block_lt_of_cell? w _ m)).trans m; replace o := (HB.out.cell (World.block_lt_of_cell? w _ o)).trans o; replace L := eq_true L; replace M := eq_true M)))
           go_wp2_with (first | (go_at_call 58; (with_reducible refine (bF.calls ((aj l0 a1).f2) 0 (wrap64 (a1 - 1)) _ _ K.out).mono ?_); rintro e w' ⟨rfl, ⟨nd, rfl⟩⟩; (try first | exact da | exact DD); have L : 0 ≤ (((aj l0 a1).f2) : Int) := OD; have M : ((aj l0 a1).f2) < (l0.length : Int) := OD; obtain ⟨Y, xh, a, l, m, o⟩ := kQ xs.out ((aj l0 a1).f2) L M; obtain rfl : xi = Y := (by injection xh); replace a := (HB.out.cell (World.block_lt_of_cell? w _ a)).trans a; replace l := (HB.out.cell (World.block_lt_of_cell? w _ l)).trans l; replace m := (HB.out.cell (World.block_lt_of_cell? w _ m)).trans m; replace o := (HB.out.cell (World.block_lt_of_cell? w _ o)).trans o; replace L := eq_true L; replace M := eq_true M));go_ret;exact ⟨EWW, BL⟩
         ·obtain rfl := Option.some.inj H
          repeat (go_wp2_with (first | (go_at_call 58; (with_reducible refine (bF.calls ((aj l0 a1).f2) 0 (wrap64 (a1 - 1)) _ _ K.out).mono ?_); rintro e w' ⟨rfl, ⟨nd, rfl⟩⟩; (try first | exact da | exact DD))); go_quiet (first | (go_at_call 58; (with_reducible refine (bF.calls ((aj l0 a1).f2) 0 (wrap64 (a1 - 1)) _ _ K.out).mono ?_); rintro e w' ⟨rfl, ⟨nd, rfl⟩⟩; (try first | exact da | exact DD))))
          go_wp2_with (first | (go_at_call 58; (with_reducible refine (bF.calls ((aj l0 a1).f2) 0 (wrap64 (a1 - 1)) _ _ K.out).mono ?_); rintro e w' ⟨rfl, ⟨nd, rfl⟩⟩; (try first | exact da | exact DD)));go_ret;exact ⟨EWW, BL⟩
       ·obtain rfl := Option.some.inj H
        repeat (go_wp2_with (first | (go_at_call 58; (with_reducible refine (bF.calls ((aj l0 a1).f2) 0 (wrap64 (a1 - 1)) _ _ K.out).mono ?_); rintro e w' ⟨rfl, ⟨nd, rfl⟩⟩; (try first | exact da | exact DD))); go_quiet (first | (go_at_call 58; (with_reducible refine (bF.calls ((aj l0 a1).f2) 0 (wrap64 (a1 - 1)) _ _ K.out).mono ?_); rintro e w' ⟨rfl, ⟨nd, rfl⟩⟩; (try first | exact da | exact DD))))
        go_wp2_with (first | (go_at_call 58; (with_reducible refine (bF.calls ((aj l0 a1).f2) 0 (wrap64 (a1 - 1)) _ _ K.out).mono ?_); rintro e w' ⟨rfl, ⟨nd, rfl⟩⟩; (try first | exact da | exact DD)));go_ret;exact ⟨EWW, BL⟩
mutual
def dU.l0 : Nat → List (bW) → Int → Option (Bool)
 | 0, _, _ => none
 | k + 1, a, b => if b < (a.length : Int) then (dU.j1 k a b (decide ((a.length : Int) ≤ 9))) else (dU.j1 k a b false)
def dU.j1 : Nat → List (bW) → Int → Bool → Option (Bool)
 | 0, _, _, _ => none
 | k + 1, a, b, c => if c = true then ((fZ.f k a b).bind fun d => (if d = true then (dU.l0 k a (wrap64 (b + 1))) else (some false))) else ((bF.f (a.length : Int) 1 9).bind fun e => (some e))
end
def dU.f (k : Nat) (l0 : List (bW)) : Option (Bool) := dU.l0 k l0 0
theorem dU.calls (k : Nat) (E : Option Addr) (G : Nat) (l0 : List (bW)) (r : Bool) (w : World) (x : Kd.C iW w E l0.length l0) (y : l0.length ≤ G) (h : dU.f k l0 = some r) :
  Calls Tryz.prog 129 #[.slice E l0.length G] w fun e w' => e = .returned (.bool r) ∧ Below w.heap.size w w' := by
 have I := ah.mk x;have J := ah.mk y;clear x y;have HB := ah.mk (Below.refl w.heap.size w);have H : (dU.l0 k l0 0) = some r := h;clear h;have H' := ah.mk H;clear H;go_enter Tryz.func129, Tryz.ntmps129;go_wp2
 go_loopg [3] k (fun kq O w' => ∃ (a : Int), O = .int .i64 a ∧ ah (dU.l0 kq l0 a = some r) ∧ ah (kq ≤ k) ∧ ah (Below w.heap.size w w'))
 case atStart => exact ⟨_, EQ, H', ⟨Nat.le_refl _⟩, ⟨BL⟩⟩
 case round =>
  clear H';obtain ⟨a, rfl, HA, o, HB⟩ := hrel
  cases gk with
  | zero => exact absurd HA.out (by simp [dU.l0])
  | succ k1 =>
   have H := HA.out;clear HA;simp only [dU.l0] at H;have u := ah.mk H;clear H;go_upto_region 2 with (fail)
   go_cut [12] (fun K wc => ∃ (kq : Nat) (m : Bool), K = .bool m ∧ ah (dU.j1 kq l0 a m = some r) ∧ ah (kq ≤ k1) ∧ ah (Below w.heap.size w wc))
   case first =>
    have H := u.out;clear u;replace H := ifD H; rcases H with ⟨l, H⟩ | ⟨l, H⟩
    ·(first | rw [l] | (simp only [iQ, jv]; rw [l]) | skip);have H' := ah.mk H;clear H;go_wp2;go_meet;case rel => exact ⟨_, _, EQ, H', ⟨by have := o.out; first | omega | exact Nat.le_refl _⟩, ⟨BL⟩⟩
    ·(first | rw [l] | (simp only [iQ, jv]; rw [l]) | skip);have H' := ah.mk H;clear H;go_wp2;go_meet;case rel => exact ⟨_, _, EQ, H', ⟨by have := o.out; first | omega | exact Nat.le_refl _⟩, ⟨BL⟩⟩
   case rest =>
    clear u;obtain ⟨kq, m, rfl, HA, z, HB⟩ := hcut
    cases kq with
    | zero => exact absurd HA.out (by simp [dU.j1])
    | succ A =>
     have H := HA.out;clear HA;simp only [dU.j1] at H;replace H := ifB H; rcases H with ⟨rfl, H⟩ | ⟨rfl, H⟩
     ·replace H := be H; obtain ⟨M, P, H⟩ := H;replace H := ah.mk H;go_wp2_with (first | ((with_reducible refine aA (f := 171) rfl ?_); refine aY (some 17) Tryz.func171 #[.slice E l0.length G, .int .i64 a] ?_; (with_reducible refine (fZ.calls A _ _ l0 a _ _ ?side1 ?side2 P.out).mono ?_); (case side1 => exact CB I); (case side2 => exact J.out); rintro e L ⟨rfl, hb⟩; refine ⟨_, rfl, ?_⟩; replace HB := BS (w := w) hb; (try clear hb); refine dF ?_));refine Hide.mk ?_;replace H := H.out;replace H := ifB H; rcases H with ⟨rfl, H⟩ | ⟨rfl, H⟩
      ·have H' := ah.mk H;clear H;(try go_wp2);go_roundg A;case measure => have := o.out; have := z.out; omega
       case rel => exact ⟨_, EQ, H', kt o z, ⟨BL⟩⟩
      ·obtain rfl := Option.some.inj H;(try go_wp2);go_ret;exact ⟨EWW, BL⟩
     ·replace H := be H; obtain ⟨D, U, H⟩ := H;obtain rfl := Option.some.inj H;go_wp2_with (first | ((with_reducible refine aA (f := 58) rfl ?_); refine aY (some 21) Tryz.func58 #[.int .i64 (l0.length : Int), .int .i64 1, .int .i64 9] ?_; (with_reducible refine (bF.calls (l0.length : Int) 1 9 D _ U.out).mono ?_); rintro e w' ⟨rfl, ⟨nd, rfl⟩⟩; refine ⟨_, rfl, ?_⟩));go_ret;exact ⟨EWW, BL⟩
def mo.f (k : Nat) (JW : Int) (l0_1 : List (bW)) : Option (Bool) := (bF.f JW 1 99).bind fun t128 => (if t128 = true then ((dU.f k l0_1).bind fun t129 => (some t129)) else (some false))
theorem mo.calls (k : Nat) (JW : Int) (m : Option Addr) (o : Nat) (a : List (bW)) (r : Bool) (w : World) (u : Kd.C iW w m a.length a) (x : a.length ≤ o) (h : mo.f k JW a = some r) :
  Calls Tryz.prog 74 #[.agg #[.int .i64 JW, .slice m a.length o]] w fun e w' => e = .returned (.bool r) ∧ Below w.heap.size w w' := by
 have P := Tryz.underlying70;have y := ah.mk u;have z := ah.mk x;clear u x;have HB := ah.mk (Below.refl w.heap.size w);unfold mo.f at h;have H := h;clear h;replace H := be H; obtain ⟨U, A2, H⟩ := H;replace H := ah.mk H;go_enter Tryz.func74, Tryz.ntmps74;go_wp2_with (first | ((with_reducible refine aK (N := 1) rfl ?_); refine bA (N := 1) (cs := #[.int .i64 JW, .slice m a.length o]) (t := 70) ?_; intro K hg L hbox hb; have l := ah.mk hbox; have A := SZ (w := w) hg; have M := A; replace HB := BS (w := w) hb; clear hb hbox hg; obtain ⟨D, E, G, I⟩ := cz2 l.out) | ((with_reducible refine aA (f := 58) rfl ?_); refine aY (some 5) Tryz.func58 #[.int .i64 JW, .int .i64 1, .int .i64 99] ?_; (with_reducible refine (bF.calls JW 1 99 _ _ A2.out).mono ?_); rintro e w' ⟨rfl, ⟨nd, rfl⟩⟩; refine ⟨_, rfl, ?_⟩; refine dF ?_));refine Hide.mk ?_;replace H := H.out;replace H := ifB H; rcases H with ⟨rfl, H⟩ | ⟨rfl, H⟩
 ·replace H := be H; obtain ⟨J, X, H⟩ := H;obtain rfl := Option.some.inj H;(try go_wp2_with (first | (go_at_call 129; (with_reducible refine (dU.calls k _ _ a J _ ?side1 ?side2 X.out).mono ?_); (case side1 => repeat (first | exact (Kd.fJ y.out BL) | (with_reducible refine Kd.dh ?_ _) | (with_reducible refine Kd.dn ?_ _) | (with_reducible refine Kd.dY ?_))); (case side2 => exact z.out); rintro e O ⟨rfl, hb⟩; replace l := KB l hb; replace HB := BS (w := w) hb; (try clear hb))));go_ret;exact ⟨EWW, BL⟩
 ·obtain rfl := Option.some.inj H;(try go_wp2);go_ret;exact ⟨EWW, BL⟩
mutual
def bP.j0 : Nat → Bool → Int → Int → ByteArray → Option (Bool)
 | 0, _, _, _, _ => none
 | k + 1, a, b, c, d => if a = true then (some false) else (bP.l0 k 0 b c d)
def bP.l0 : Nat → Int → Int → Int → ByteArray → Option (Bool)
 | 0, _, _, _, _ => none
 | k + 1, a, b, c, d => if a < (d.size : Int) then (if 0 ≤ a then (if (bt d a) = 35 then (bP.l0 k (wrap64 (a + 1)) b c d) else (if (bt d a) = 46 then (bP.l0 k (wrap64 (a + 1)) b c d) else (some false))) else (none)) else (some true)
end
def bP.f (k : Nat) (JW JX : Int) (JY : ByteArray) : Option (Bool) := (bF.f JW 2 6).bind fun t131 => (if t131 = true then ((bF.f JX 2 6).bind fun t132 => (if t132 = true then (bP.j0 k ((JY.size : Int) != (wrap64 (JW * JX))) JW JX JY) else (bP.j0 k true JW JX JY))) else (bP.j0 k true JW JX JY))
theorem bP.calls (k : Nat) (JW JX : Int) (JY : ByteArray) (r : Bool) (w : World) (h : bP.f k JW JX JY = some r) :
  Calls Tryz.prog 77 #[.agg #[.int .i64 JW, .int .i64 JX, .string JY]] w fun e w' => e = .returned (.bool r) ∧ Below w.heap.size w w' := by
 have xg := Tryz.underlying35;have HB := ah.mk (Below.refl w.heap.size w);unfold bP.f at h;have H := h;clear h;have y := ah.mk H;clear H;go_enter Tryz.func77, Tryz.ntmps77;go_upto_region 1 with (first | ((with_reducible refine aK (N := 1) rfl ?_); (try (refine jW (by rfl) ?_; dsimp only)); refine bA (N := 1) (cs := #[.int .i64 JW, .int .i64 JX, .string JY]) (t := 35) ?_; intro o hg w3 hbox hb; have l := ah.mk hbox; have z := SZ (w := w) hg; have xd := z; replace HB := BS (w := w) hb; clear hb hbox hg));(try simp only [Act.put, List.setIfInBounds_toArray, List.set_cons_zero, List.set_cons_succ])
 go_cut [24] (fun xe wc => ∃ (kq : Nat) (m : Bool), xe = .bool m ∧ ah (bP.j0 kq m JW JX JY = some r) ∧ ah (kq ≤ k) ∧ ah (wc.heap[o]? = some (.cells #[.int .i64 JW, .int .i64 JX, .string JY] 35 (0, 0))) ∧ ah (Below w.heap.size w wc))
 case first =>
  have H := y.out;clear y;replace H := be H; obtain ⟨xh, A4, H⟩ := H;obtain ⟨A, D, E, G, I, J⟩ := cz3 l.out;replace H := ah.mk H;go_wp2_with (first | ((with_reducible refine aA (f := 58) rfl ?_); refine aY (some 6) Tryz.func58 #[.int .i64 JW, .int .i64 2, .int .i64 6] ?_; (with_reducible refine (bF.calls JW 2 6 _ _ A4.out).mono ?_); rintro e w' ⟨rfl, ⟨nd, rfl⟩⟩; refine ⟨_, rfl, ?_⟩; refine dF ?_));refine Hide.mk ?_;replace H := H.out;replace H := ifB H; rcases H with ⟨rfl, H⟩ | ⟨rfl, H⟩
  ·replace H := be H; obtain ⟨xi, A6, H⟩ := H;replace H := ah.mk H;go_wp2_with (first | (go_at_call 58; (with_reducible refine (bF.calls JX 2 6 _ _ A6.out).mono ?_); rintro e w' ⟨rfl, ⟨nd, rfl⟩⟩; refine dF ?_));refine Hide.mk ?_;replace H := H.out;replace H := ifB H; rcases H with ⟨rfl, H⟩ | ⟨rfl, H⟩
   ·have H' := ah.mk H;clear H;(try go_wp2);go_meet;case rel => exact ⟨_, _, EQ, H', ⟨by first | omega | exact Nat.le_refl _⟩, ⟨BK⟩, ⟨BL⟩⟩
   ·have H' := ah.mk H;clear H;(try go_wp2);go_meet;case rel => exact ⟨_, _, EQ, H', ⟨by first | omega | exact Nat.le_refl _⟩, ⟨BK⟩, ⟨BL⟩⟩
  ·have H' := ah.mk H;clear H;(try go_wp2);go_meet;case rel => exact ⟨_, _, EQ, H', ⟨by first | omega | exact Nat.le_refl _⟩, ⟨BK⟩, ⟨BL⟩⟩
 case rest =>
  clear y;obtain ⟨kq, m, rfl, HA, u, l, HB⟩ := hcut
  cases kq with
  | zero => exact absurd HA.out (by simp [bP.j0])
  | succ xc =>
   have H := HA.out;clear HA;simp only [bP.j0] at H;replace H := ifB H; rcases H with ⟨rfl, H⟩ | ⟨rfl, H⟩
   ·obtain rfl := Option.some.inj H;go_wp2;go_ret;exact ⟨EWW, BL⟩
   ·have H' := ah.mk H;clear H;go_wp2
    go_loopg [3] xc (fun kq v3 w' => ∃ (a : Int), v3 = .int .i64 a ∧ ah (bP.l0 kq a JW JX JY = some r) ∧ ah (kq ≤ xc) ∧ ah (w'.heap[o]? = some (.cells #[.int .i64 JW, .int .i64 JX, .string JY] 35 (0, 0))) ∧ ah (Below w.heap.size w w'))
    case atStart => exact ⟨_, EQ, H', ⟨Nat.le_refl _⟩, ⟨BK⟩, ⟨BL⟩⟩
    case round =>
     clear H';(try clear xm);obtain ⟨a, rfl, HA, x, l, HB⟩ := hrel
     cases gk with
     | zero => exact absurd HA.out (by simp [bP.l0])
     | succ k2 =>
      have H := HA.out;clear HA;simp only [bP.l0] at H;obtain ⟨K, L, M, O, P, U⟩ := cz3 l.out;replace H := ifD H; rcases H with ⟨X, H⟩ | ⟨X, H⟩
      ·replace H := ifN H; obtain ⟨xf, H⟩ := H;have xn : (0 ≤ (a : Int)) = True := OT;have xo : (a < (JY.size : Int)) = True := OT;have hx14 := gX JY a;replace H := ifE H; rcases H with ⟨Y, Z, H⟩ | ⟨xp, Y, Z, H⟩
       ·have H' := ah.mk H;clear H;go_wp2;go_roundg k2;case measure => have := u.out; have := x.out; omega
        case rel => exact ⟨_, EQ, H', ⟨by have := u.out; have := x.out; omega⟩, ⟨BK⟩, ⟨BL⟩⟩
       ·have xq : (0 ≤ (a : Int)) = True := OT;have xr : (a < (JY.size : Int)) = True := OT;have hx17 := gX JY a;replace H := ifE H; rcases H with ⟨xa, xb, H⟩ | ⟨xs, xa, xb, H⟩
        ·have H' := ah.mk H;clear H;go_wp2;go_roundg k2;case measure => have := u.out; have := x.out; omega
         case rel => exact ⟨_, EQ, H', ⟨by have := u.out; have := x.out; omega⟩, ⟨BK⟩, ⟨BL⟩⟩
        ·obtain rfl := Option.some.inj H;go_wp2;go_ret;exact ⟨EWW, BL⟩
      ·obtain rfl := Option.some.inj H;go_wp2;go_ret;exact ⟨EWW, BL⟩
mutual
def bC.j0 : Nat → Int → Int → Int → Int → Int → Int → ByteArray → Option (Int)
 | 0, _, _, _, _, _, _, _ => none
 | k + 1, a, b, c, d, e, f, g => if 0 ≤ a then (if a < (g.size : Int) then (if (bt g a) = 46 then (if c > 0 then (if 0 ≤ (wrap64 (a - b)) then (if (wrap64 (a - b)) < (g.size : Int) then (bC.j1 k a b c d ((bt g (wrap64 (a - b))) == 46) e f g) else (none)) else (none)) else (bC.j1 k a b c d false e f g)) else (bC.j1 k a b c d true e f g)) else (none)) else (none)
def bC.j1 : Nat → Int → Int → Int → Int → Bool → Int → Int → ByteArray → Option (Int)
 | 0, _, _, _, _, _, _, _, _ => none
 | k + 1, a, b, c, d, e, f, g, h => if e = true then (some 0) else (bC.l0 k a b c d 0 f g h)
def bC.l0 : Nat → Int → Int → Int → Int → Int → Int → Int → ByteArray → Option (Int)
 | 0, _, _, _, _, _, _, _, _ => none
 | k + 1, a, b, c, d, e, f, g, h => if (wrap64 (c + e)) < d then (if 0 ≤ (wrap64 (a + (wrap64 (e * b)))) then (if (wrap64 (a + (wrap64 (e * b)))) < (h.size : Int) then (if (bt h (wrap64 (a + (wrap64 (e * b))))) = 46 then (bC.l0 k a b c d (wrap64 (e + 1)) f g h) else (some e)) else (none)) else (none)) else (some e)
end
def bC.f (k : Nat) (JW JX : Int) (JY : ByteArray) (a1 : Int) (a2 : Bool) : Option (Int) := if JX = 0 then (none) else (if a2 = true then (bC.j0 k a1 JX (wrap64 (Int.tdiv a1 JX)) JW JW JX JY) else (bC.j0 k a1 1 (Int.tmod a1 JX) JX JW JX JY))
theorem bC.calls (k : Nat) (JW JX : Int) (JY : ByteArray) (a1 : Int) (a2 : Bool) (r : Int) (w : World) (h : bC.f k JW JX JY a1 a2 = some r) :
  Calls Tryz.prog 130 #[.agg #[.int .i64 JW, .int .i64 JX, .string JY], .int .i64 a1, .bool a2] w fun e w' => e = .returned (.int .i64 r) ∧ Below w.heap.size w w' := by
 have xK := Tryz.underlying35;have HB := ah.mk (Below.refl w.heap.size w);unfold bC.f at h;have H := h;clear h;by_cases c4 : JX = 0
 ·rw [if_pos c4] at H;exact absurd H (by simp)
 ·rw [if_neg c4] at H;have K : (JX == 0) = false := beq_eq_false_iff_ne.mpr c4;have L : (JX != 0) = true := bne_iff_ne.mpr c4;have U := ah.mk H;clear H;go_enter Tryz.func130, Tryz.ntmps130;go_upto_if 17 with (first | ((with_reducible refine aK (N := 3) rfl ?_); refine bA (N := 3) (cs := #[.int .i64 JW, .int .i64 JX, .string JY]) (t := 35) ?_; intro G hg xB hbox hb; have m := ah.mk hbox; have X := SZ (w := w) hg; have xC := X; replace HB := BS (w := w) hb; clear hb hbox hg; obtain ⟨o, u, x, y, z, A⟩ := cz3 m.out));(try simp only [Act.put, List.setIfInBounds_toArray, List.set_cons_zero, List.set_cons_succ])
  go_cut [7, 8, 9] (fun v7 v8 v9 wc => ∃ (kq : Nat) (a : Int) (l : Int) (E : Int), v7 = .int .i64 a ∧ v8 = .int .i64 l ∧ v9 = .int .i64 E ∧ ah (bC.j0 kq a1 a l E JW JX JY = some r) ∧ ah (kq ≤ k) ∧ ah (wc.heap[G]? = some (.cells #[.int .i64 JW, .int .i64 JX, .string JY] 35 (0, 0))) ∧ ah (Below w.heap.size w wc))
  case first =>
   have H := U.out;clear U;by_cases c8 : a2 = true
   ·subst c8;rw [if_pos rfl] at H;have H' := ah.mk H;clear H;obtain ⟨Y, Z, xa, xb, xc, xd⟩ := cz3 m.out;go_wp2;go_meet;case rel => exact ⟨_, _, _, _, EQ, EQ, EQ, H', ⟨by first | omega | exact Nat.le_refl _⟩, ⟨BK⟩, ⟨BL⟩⟩
   ·replace c8 := Bool.eq_false_iff.mpr c8;subst c8;rw [if_neg Bool.false_ne_true] at H;have H' := ah.mk H;clear H;go_wp2;go_meet;case rel => exact ⟨_, _, _, _, EQ, EQ, EQ, H', ⟨by first | omega | exact Nat.le_refl _⟩, ⟨BK⟩, ⟨BL⟩⟩
  case rest =>
   clear U;(try clear c4);(try clear K);(try clear L);(try clear o u x y z A);obtain ⟨kq, a, l, E, rfl, rfl, rfl, HA, M, m, HB⟩ := hcut
   cases kq with
   | zero => exact absurd HA.out (by simp [bC.j0])
   | succ xw =>
    have H := HA.out;clear HA;simp only [bC.j0] at H;have O := ah.mk H;clear H;go_upto_region 8 with (fail)
    go_cut [43] (fun xD wc => ∃ (kq : Nat) (I : Bool), xD = .bool I ∧ ah (bC.j1 kq a1 a l E I JW JX JY = some r) ∧ ah (kq ≤ xw) ∧ ah (wc.heap[G]? = some (.cells #[.int .i64 JW, .int .i64 JX, .string JY] 35 (0, 0))) ∧ ah (Below w.heap.size w wc))
    case first =>
     have H := O.out;clear O;replace H := ifN H; obtain ⟨P, H⟩ := H;(first | rw [P] | (simp only [iQ, jv]; rw [P]) | skip);replace H := ifN H; obtain ⟨xE, H⟩ := H;obtain ⟨xe, xf, xg, xh, xi, xj⟩ := cz3 m.out;have xO : (0 ≤ (a1 : Int)) = True := OT;have xP : (a1 < (JY.size : Int)) = True := OT;have hx13 := gX JY a1;replace H := ifE H; rcases H with ⟨xk, xl, H⟩ | ⟨xQ, xk, xl, H⟩
     ·by_cases J : l > 0
      ·rw [if_pos J] at H;have xm : decide (0 < l) = true := decide_eq_true J;clear J;obtain ⟨ji16, hji16⟩ : ∃ j_ : Int, (wrap64 (a1 - a)) = j_ := ⟨_, rfl⟩;replace H : (if 0 ≤ (ji16) then (if (ji16) < (JY.size : Int) then (bC.j1 xw a1 a l E ((bt JY (ji16)) == 46) JW JX JY) else (none)) else (none)) = some r := by first | (rw [hji16] at H; exact H) | (simp only [hji16] at H ⊢; exact H)
       have hji16w : (IntKind.i64.wrap (a1 - a)) = ji16 := (iQ _).trans hji16;replace H := ifN H; obtain ⟨xF, H⟩ := H;replace H := ifN H; obtain ⟨xG, H⟩ := H;have H' := ah.mk H;clear H;have xR : (0 ≤ ((ji16) : Int)) = True := OT;have xS : ((ji16) < (JY.size : Int)) = True := OT;have hx19 := gX JY (ji16);go_wp2;go_meet;case rel => exact ⟨_, (((bt JY (ji16)) == 46)), (by first | rfl | (simp; done) | (simp only [← hji16] <;> (first | rfl | simp)) | (simp [*]; done)), H', ⟨by have := M.out; first | omega | exact Nat.le_refl _⟩, ⟨BK⟩, ⟨BL⟩⟩
      ·rw [if_neg J] at H;have xm : decide (0 < l) = false := decide_eq_false J;clear J;have H' := ah.mk H;clear H;go_wp2;go_meet;case rel => exact ⟨_, _, EQ, H', ⟨by have := M.out; first | omega | exact Nat.le_refl _⟩, ⟨BK⟩, ⟨BL⟩⟩
     ·have H' := ah.mk H;clear H;go_wp2;go_meet;case rel => exact ⟨_, _, EQ, H', ⟨by have := M.out; first | omega | exact Nat.le_refl _⟩, ⟨BK⟩, ⟨BL⟩⟩
    case rest =>
     clear O;(try clear c4);(try clear K);(try clear L);(try clear o u x y z A);obtain ⟨kq, I, rfl, HA, xx, m, HB⟩ := hcut
     cases kq with
     | zero => exact absurd HA.out (by simp [bC.j1])
     | succ xy =>
      have H := HA.out;clear HA;simp only [bC.j1] at H;replace H := ifB H; rcases H with ⟨rfl, H⟩ | ⟨rfl, H⟩
      ·obtain rfl := Option.some.inj H;go_wp2;go_ret;exact ⟨EWW, BL⟩
      ·have H' := ah.mk H;clear H;go_wp2
       go_loopg [10] xy (fun kq xH w' => ∃ (D : Int), xH = .int .i64 D ∧ ah (bC.l0 kq a1 a l E D JW JX JY = some r) ∧ ah (kq ≤ xy) ∧ ah (w'.heap[G]? = some (.cells #[.int .i64 JW, .int .i64 JX, .string JY] 35 (0, 0))) ∧ ah (Below w.heap.size w w'))
       case atStart => exact ⟨_, EQ, H', ⟨Nat.le_refl _⟩, ⟨BK⟩, ⟨BL⟩⟩
       case round =>
        clear H';(try clear c4);(try clear K);(try clear L);(try clear xT);(try clear o u x y z A);obtain ⟨D, rfl, HA, xz, m, HB⟩ := hrel
        cases gk with
        | zero => exact absurd HA.out (by simp [bC.l0])
        | succ k3 =>
         have H := HA.out;clear HA;simp only [bC.l0] at H;replace H := ifD H; rcases H with ⟨xn, H⟩ | ⟨xn, H⟩
         ·obtain ⟨ji25, hji25⟩ : ∃ j_ : Int, (wrap64 (a1 + (wrap64 (D * a)))) = j_ := ⟨_, rfl⟩;replace H : (if 0 ≤ (ji25) then (if (ji25) < (JY.size : Int) then (if (bt JY (ji25)) = 46 then (bC.l0 k3 a1 a l E (wrap64 (D + 1)) JW JX JY) else (some D)) else (none)) else (none)) = some r := by first | (rw [hji25] at H; exact H) | (simp only [hji25] at H ⊢; exact H)
          have hji25w : (IntKind.i64.wrap (a1 + (wrap64 (D * a)))) = ji25 := (iQ _).trans hji25;replace H := ifN H; obtain ⟨xI, H⟩ := H;replace H := ifN H; obtain ⟨xJ, H⟩ := H;obtain ⟨xo, xp, xq, xr, xs, xt⟩ := cz3 m.out;have xU : (0 ≤ ((ji25) : Int)) = True := OT;have xV : ((ji25) < (JY.size : Int)) = True := OT;have hx28 := gX JY (ji25);replace H := ifE H; rcases H with ⟨xu, xv, H⟩ | ⟨xW, xu, xv, H⟩
          ·have H' := ah.mk H;clear H;go_wp2;go_roundg k3;case measure => have := M.out; have := xx.out; have := xz.out; omega
           case rel => exact ⟨_, EQ, H', ⟨by have := M.out; have := xx.out; have := xz.out; omega⟩, ⟨BK⟩, ⟨BL⟩⟩
          ·obtain rfl := Option.some.inj H;go_wp2;go_ret;exact ⟨by first | rfl | (simp [nu, ny] <;> rfl) | (simp only [← hji25]; first | rfl | (simp [nu, ny] <;> rfl)) | (simp [*, nu, ny] <;> rfl), BL⟩
         ·obtain rfl := Option.some.inj H;go_wp2;go_ret;exact ⟨EWW, BL⟩
theorem Im (d : Nat) (w : World) (x0 a : Int) (x1 e : Int) (x2 l : ByteArray) :
  (Op.equalIn (d + 2) 35 (.agg #[.int .i64 x0, .int .i64 x1, .string x2]) (.agg #[.int .i64 a, .int .i64 e, .string l])).run Tryz.prog w = .ok (x0 == a && (x1 == e && (x2.toList == l.toList))) w := by
 refine Dx Tryz.underlying35 (by kernel_rfl) ?_;refine pY (by rfl) (by go_simp; rfl) (by go_simp; rfl) (by go_simp) ?_;refine pY (by rfl) (by go_simp; rfl) (by go_simp; rfl) (by go_simp) ?_;exact wQ (by rfl) (by go_simp; rfl) (by go_simp; rfl) (by go_simp)
end Go.Proofs.YtikmdgmnhbodjaaGreat.PFnExactClueDomains
