/- Walks of functions: what each computes. -/
import Derived.Test.YtikmdgmnhbodjaaGreatProg
import Derived.Below
import Derived.Deep.Draws
import Derived.Deep.AppendLies
import Derived.Maps.AppendAt
import Derived.OwnWalk
import Derived.Laws.BytesArg
import Derived.Laws.MakeOwn
import Derived.Laws.OwnMore
import Derived.Deep.OwnRows
import Derived.Tactics
import Derived.Lib.ConvBytes
import Derived.Laws.Slices
import Derived.WalkKit
import Derived.KernelRfl
import Derived.RowKit3
import Derived.Deep.LoopGhost
import Derived.Deep.QuietTactic
import Derived.BigQuiet
import Derived.WideLaws
import Derived.Deep.DeepCutAuto
import Derived.Deep.CutBlock
import Derived.Deep.RegionHeld3
import Derived.Laws.Rows
import Derived.Lib.AppendStr
import Derived.ArgAppend
import Derived.Laws.IdiomCopy
import Derived.OrdersHeld
import Derived.Laws.BitsLemmas
import Derived.RowKit
import Derived.Lib.SliceRun
import Derived.Test.YtikmdgmnhbodjaaGreatZSoPuW
import Derived.Test.YtikmdgmnhbodjaaGreatZSoPuShelf
import Derived.Test.YtikmdgmnhbodjaaGreatZSoPuHandSort
import Derived.Test.YtikmdgmnhbodjaaGreatZSoPuHandForm
import Derived.Test.YtikmdgmnhbodjaaGreatZSoPuHandAlone
import Derived.Test.YtikmdgmnhbodjaaGreatZSoPuHandReach
import Derived.Test.YtikmdgmnhbodjaaGreatZSoPuHandPut
namespace Go.Proofs.YtikmdgmnhbodjaaGreat.PFnExactSolvePuzzle
open Go.RowKit Go.Proofs.Yw.PrintWords Go.Proofs.Yw.PrintLast Go.Proofs.Yw.PrintMore Go.Proofs.YtikmdgmnhbodjaaGreat.Sq
attribute [local go_sem] jk jm jP jQ iP iQ jl jo
set_option linter.unusedVariables false
set_option linter.unusedSimpArgs false
set_option maxHeartbeats 8000000
set_option maxRecDepth 100000
def CX : Option Int → Value
 | none => .nilIface
 | some c => .iface 0 (.int .i64 c)
theorem kU : CX none = .nilIface := rfl
theorem kV (c : Int) : CX (some c) = .iface 0 (.int .i64 c) := rfl
theorem info3 : (Tryz.prog.info? 3).map (fun i => (i.zero, i.size, i.bytes)) = some (some (.int .i64 0), 1, 8) := by kernel_rfl
theorem BF : (Tryz.prog.info? 4).map (fun i => (i.zero, i.size, i.bytes)) = some (some (.bool false), 1, 1) := by kernel_rfl
theorem info5 : (Tryz.prog.info? 5).map (fun i => (i.zero, i.size, i.bytes)) = some (some (.int .u8 0), 1, 1) := by kernel_rfl
theorem pQ : (Tryz.prog.info? 9).map (fun i => (i.zero, i.size, i.bytes)) = some (some (.string ⟨#[]⟩), 1, 16) := by kernel_rfl
theorem Ch : (Tryz.prog.info? 25).map (fun i => (i.zero, i.size, i.bytes)) = some (some (.slice none 0 0), 1, 24) := by kernel_rfl
theorem wQ : (Tryz.prog.info? 29).map (fun i => (i.zero, i.size, i.bytes)) = some (some (.slice none 0 0), 1, 24) := by kernel_rfl
theorem Ci : (Tryz.prog.info? 70).map (fun i => (i.zero, i.size, i.bytes)) = some (some (.agg #[(.int .i64 0), (.slice none 0 0)]), 2, 32) := by kernel_rfl
theorem Cj : (Tryz.prog.info? 73).map (fun i => (i.zero, i.size, i.bytes)) = some (some (.agg #[(.string ⟨#[]⟩), (.int .i64 0)]), 2, 24) := by kernel_rfl
theorem nW : (Tryz.prog.info? 109).map (fun i => (i.zero, i.size, i.bytes)) = some (some (.agg #[(.int .i64 0), (.bool false), (.int .i64 0), (.int .i64 0)]), 4, 32) := by kernel_rfl
theorem Ba : (Tryz.prog.info? 127).map (fun i => (i.zero, i.size, i.bytes)) = some (some (.agg #[(.int .i64 0), (.string ⟨#[]⟩), (.int .i64 0), (.int .i64 0)]), 4, 40) := by kernel_rfl
structure mX where
 f0 : Int
 f1 : Oo
 f2 : Int
 f3 : Int
def z146 : mX := ⟨(0 : Int), (⟨#[]⟩ : Oo), (0 : Int), (0 : Int)⟩
def qJ : Kd mX := Kd.iso (Kd.pair (Kd.int .i64) (Kd.pair Kd.string (Kd.pair (Kd.int .i64) (Kd.int .i64)))) (fun x : mX => (x.f0, x.f1, x.f2, x.f3))
theorem tO {w : World} {x : mX} {cs : List Value} (h : qJ.K w x cs) : cs = [.int .i64 x.f0, .string x.f1, .int .i64 x.f2, .int .i64 x.f3] := by
 obtain ⟨_, _, rfl, rfl, ⟨_, _, rfl, rfl, ⟨_, _, rfl, rfl, rfl⟩⟩⟩ := h;exact rfl
def gI (xs : List mX) (i : Int) : mX := xs.getD i.toNat z146
theorem sU {w : World} {A : Option Addr} {n : Nat} {xs : List mX} (h : Kd.C qJ w A n xs) (i : Int) (h0 : 0 ≤ i) (h1 : i < n) : ∃ ad , A = some ad ∧ w.cell? (ad.add (i.toNat * 4)) = some (.int .i64 (gI xs i).f0) ∧ w.cell? ⟨(ad.add (i.toNat * 4)).block, (ad.add (i.toNat * 4)).off + 1, none⟩ = some (.string (gI xs i).f1) ∧ w.cell? ⟨(ad.add (i.toNat * 4)).block, (ad.add (i.toNat * 4)).off + 2, none⟩ = some (.int .i64 (gI xs i).f2) ∧ w.cell? ⟨(ad.add (i.toNat * 4)).block, (ad.add (i.toNat * 4)).off + 3, none⟩ = some (.int .i64 (gI xs i).f3) := by
 obtain ⟨ad, c, e, _, hK, a⟩ := Kd.mQ h z146 i h0 h1;have hc : ∀ j u, c[j]? = some u → w.cell? (ad.add (i.toNat * 4 + j)) = some u := a;obtain rfl := tO hK;exact ⟨ad, e, hc 0 _ rfl, by rw [← iZ _ _ 1 (by omega)]; exact hc 1 _ rfl, by rw [← iZ _ _ 2 (by omega)]; exact hc 2 _ rfl, by rw [← iZ _ _ 3 (by omega)]; exact hc 3 _ rfl⟩
structure S84 where
 f0 : Int
 f1 : (List mX)
def z84 : S84 := ⟨(0 : Int), ([] : List mX)⟩
def k84 : Kd S84 := Kd.iso (Kd.pair (Kd.int .i64) (Kd.slice 146 qJ)) (fun x : S84 => (x.f0, x.f1))
theorem wX {w : World} {x : S84} {cs : List Value} (h : k84.K w x cs) : ∃ a e, cs = [.int .i64 x.f0, .slice a x.f1.length e] ∧ x.f1.length ≤ e ∧ qJ.C w a x.f1.length x.f1 := by
 obtain ⟨_, _, rfl, rfl, ⟨a, e, rfl, l1, g1⟩⟩ := h;exact ⟨a, e, rfl, l1, g1⟩
def kE (xs : List S84) (i : Int) : S84 := xs.getD i.toNat z84
theorem wE {w : World} {A : Option Addr} {n : Nat} {xs : List S84} (h : Kd.C k84 w A n xs) (i : Int) (h0 : 0 ≤ i) (h1 : i < n) : ∃ ad a m, A = some ad ∧ w.cell? (ad.add (i.toNat * 2)) = some (.int .i64 (kE xs i).f0) ∧ w.cell? ⟨(ad.add (i.toNat * 2)).block, (ad.add (i.toNat * 2)).off + 1, none⟩ = some (.slice a (kE xs i).f1.length m) ∧ (kE xs i).f1.length ≤ m ∧ qJ.C w a (kE xs i).f1.length (kE xs i).f1 := by
 obtain ⟨ad, c, e, _, hK, o⟩ := Kd.mQ h z84 i h0 h1;have hc : ∀ j u, c[j]? = some u → w.cell? (ad.add (i.toNat * 2 + j)) = some u := o;obtain ⟨a, m, rfl, l1, g1⟩ := wX hK;exact ⟨ad, a, m, e, hc 0 _ rfl, by rw [← iZ _ _ 1 (by omega)]; exact hc 1 _ rfl, l1, g1⟩
structure S64 where
 f0 : Oo
 f1 : Int
def z64 : S64 := ⟨(⟨#[]⟩ : Oo), (0 : Int)⟩
def k64 : Kd S64 := Kd.iso (Kd.pair Kd.string (Kd.int .i64)) (fun x : S64 => (x.f0, x.f1))
theorem wU {w : World} {x : S64} {cs : List Value} (h : k64.K w x cs) : cs = [.string x.f0, .int .i64 x.f1] := by
 obtain ⟨_, _, rfl, rfl, rfl⟩ := h;exact rfl
def lF (xs : List S64) (i : Int) : S64 := xs.getD i.toNat z64
theorem wD {w : World} {A : Option Addr} {n : Nat} {xs : List S64} (h : Kd.C k64 w A n xs) (i : Int) (h0 : 0 ≤ i) (h1 : i < n) : ∃ ad , A = some ad ∧ w.cell? (ad.add (i.toNat * 2)) = some (.string (lF xs i).f0) ∧ w.cell? ⟨(ad.add (i.toNat * 2)).block, (ad.add (i.toNat * 2)).off + 1, none⟩ = some (.int .i64 (lF xs i).f1) := by
 obtain ⟨ad, c, e, _, hK, a⟩ := Kd.mQ h z64 i h0 h1;have hc : ∀ j u, c[j]? = some u → w.cell? (ad.add (i.toNat * 2 + j)) = some u := a;obtain rfl := wU hK;exact ⟨ad, e, hc 0 _ rfl, by rw [← iZ _ _ 1 (by omega)]; exact hc 1 _ rfl⟩
structure bY where
 f0 : Int
 f1 : Oo
 f2 : Int
 f3 : Int
def z127 : bY := ⟨(0 : Int), (⟨#[]⟩ : Oo), (0 : Int), (0 : Int)⟩
def gV : Kd bY := Kd.iso (Kd.pair (Kd.int .i64) (Kd.pair Kd.string (Kd.pair (Kd.int .i64) (Kd.int .i64)))) (fun x : bY => (x.f0, x.f1, x.f2, x.f3))
theorem tN {w : World} {x : bY} {cs : List Value} (h : gV.K w x cs) : cs = [.int .i64 x.f0, .string x.f1, .int .i64 x.f2, .int .i64 x.f3] := by
 obtain ⟨_, _, rfl, rfl, ⟨_, _, rfl, rfl, ⟨_, _, rfl, rfl, rfl⟩⟩⟩ := h;exact rfl
theorem jC {w : World} {base : Nat} {ok : Nat → Prop} {x : bY} {cs : List Value} (h : gV.M w base ok x cs) : cs = [.int .i64 x.f0, .string x.f1, .int .i64 x.f2, .int .i64 x.f3] := by
 obtain ⟨_, _, rfl, rfl, ⟨_, _, rfl, rfl, ⟨_, _, rfl, rfl, rfl⟩⟩⟩ := h;exact rfl
theorem ni (w : World) (base : Nat) (ok : Nat → Prop) (x : bY)  : gV.M w base ok x [.int .i64 x.f0, .string x.f1, .int .i64 x.f2, .int .i64 x.f3] := ⟨[.int .i64 x.f0], [.string x.f1, .int .i64 x.f2, .int .i64 x.f3], rfl, rfl, ⟨[.string x.f1], [.int .i64 x.f2, .int .i64 x.f3], rfl, rfl, ⟨[.int .i64 x.f2], [.int .i64 x.f3], rfl, rfl, rfl⟩⟩⟩
def aj (xs : List bY) (i : Int) : bY := xs.getD i.toNat z127
theorem jF {w : World} {A : Option Addr} {n : Nat} {xs : List bY} (h : Kd.C gV w A n xs) (i : Int) (h0 : 0 ≤ i) (h1 : i < n) : ∃ ad , A = some ad ∧ w.cell? (ad.add (i.toNat * 4)) = some (.int .i64 (aj xs i).f0) ∧ w.cell? ⟨(ad.add (i.toNat * 4)).block, (ad.add (i.toNat * 4)).off + 1, none⟩ = some (.string (aj xs i).f1) ∧ w.cell? ⟨(ad.add (i.toNat * 4)).block, (ad.add (i.toNat * 4)).off + 2, none⟩ = some (.int .i64 (aj xs i).f2) ∧ w.cell? ⟨(ad.add (i.toNat * 4)).block, (ad.add (i.toNat * 4)).off + 3, none⟩ = some (.int .i64 (aj xs i).f3) := by
 obtain ⟨ad, c, e, _, hK, a⟩ := Kd.mQ h z127 i h0 h1;have hc : ∀ j u, c[j]? = some u → w.cell? (ad.add (i.toNat * 4 + j)) = some u := a;obtain rfl := tN hK;exact ⟨ad, e, hc 0 _ rfl, by rw [← iZ _ _ 1 (by omega)]; exact hc 1 _ rfl, by rw [← iZ _ _ 2 (by omega)]; exact hc 2 _ rfl, by rw [← iZ _ _ 3 (by omega)]; exact hc 3 _ rfl⟩
structure S70 where
 f0 : Int
 f1 : (List bY)
def z70 : S70 := ⟨(0 : Int), ([] : List bY)⟩
def k70 : Kd S70 := Kd.iso (Kd.pair (Kd.int .i64) (Kd.slice 127 gV)) (fun x : S70 => (x.f0, x.f1))
theorem wV {w : World} {x : S70} {cs : List Value} (h : k70.K w x cs) : ∃ a e, cs = [.int .i64 x.f0, .slice a x.f1.length e] ∧ x.f1.length ≤ e ∧ gV.C w a x.f1.length x.f1 := by
 obtain ⟨_, _, rfl, rfl, ⟨a, e, rfl, l1, g1⟩⟩ := h;exact ⟨a, e, rfl, l1, g1⟩
theorem nX {w : World} {base : Nat} {ok : Nat → Prop} {x : S70} {cs : List Value} (h : k70.M w base ok x cs) : ∃ a, cs = [.int .i64 x.f0, a] ∧ gV.R 127 w base ok a x.f1 := by
 obtain ⟨_, _, rfl, rfl, ⟨a, rfl, g1⟩⟩ := h;exact ⟨a, rfl, g1⟩
theorem qd (w : World) (base : Nat) (ok : Nat → Prop) (x : S70) {a : Value} (g1 : gV.R 127 w base ok a x.f1) : k70.M w base ok x [.int .i64 x.f0, a] := ⟨[.int .i64 x.f0], [a], rfl, rfl, ⟨a, rfl, g1⟩⟩
def Oh (xs : List S70) (i : Int) : S70 := xs.getD i.toNat z70
theorem pE {w : World} {A : Option Addr} {n : Nat} {xs : List S70} (h : Kd.C k70 w A n xs) (i : Int) (h0 : 0 ≤ i) (h1 : i < n) : ∃ ad a m, A = some ad ∧ w.cell? (ad.add (i.toNat * 2)) = some (.int .i64 (Oh xs i).f0) ∧ w.cell? ⟨(ad.add (i.toNat * 2)).block, (ad.add (i.toNat * 2)).off + 1, none⟩ = some (.slice a (Oh xs i).f1.length m) ∧ (Oh xs i).f1.length ≤ m ∧ gV.C w a (Oh xs i).f1.length (Oh xs i).f1 := by
 obtain ⟨ad, c, e, _, hK, o⟩ := Kd.mQ h z70 i h0 h1;have hc : ∀ j u, c[j]? = some u → w.cell? (ad.add (i.toNat * 2 + j)) = some u := o;obtain ⟨a, m, rfl, l1, g1⟩ := wV hK;exact ⟨ad, a, m, e, hc 0 _ rfl, by rw [← iZ _ _ 1 (by omega)]; exact hc 1 _ rfl, l1, g1⟩
structure S73 where
 f0 : Oo
 f1 : Int
def z73 : S73 := ⟨(⟨#[]⟩ : Oo), (0 : Int)⟩
def k73 : Kd S73 := Kd.iso (Kd.pair Kd.string (Kd.int .i64)) (fun x : S73 => (x.f0, x.f1))
theorem wW {w : World} {x : S73} {cs : List Value} (h : k73.K w x cs) : cs = [.string x.f0, .int .i64 x.f1] := by
 obtain ⟨_, _, rfl, rfl, rfl⟩ := h;exact rfl
theorem mJ {w : World} {base : Nat} {ok : Nat → Prop} {x : S73} {cs : List Value} (h : k73.M w base ok x cs) : cs = [.string x.f0, .int .i64 x.f1] := by
 obtain ⟨_, _, rfl, rfl, rfl⟩ := h;exact rfl
theorem qg (w : World) (base : Nat) (ok : Nat → Prop) (x : S73)  : k73.M w base ok x [.string x.f0, .int .i64 x.f1] := ⟨[.string x.f0], [.int .i64 x.f1], rfl, rfl, rfl⟩
def dN (xs : List S73) (i : Int) : S73 := xs.getD i.toNat z73
theorem qo {w : World} {A : Option Addr} {n : Nat} {xs : List S73} (h : Kd.C k73 w A n xs) (i : Int) (h0 : 0 ≤ i) (h1 : i < n) : ∃ ad , A = some ad ∧ w.cell? (ad.add (i.toNat * 2)) = some (.string (dN xs i).f0) ∧ w.cell? ⟨(ad.add (i.toNat * 2)).block, (ad.add (i.toNat * 2)).off + 1, none⟩ = some (.int .i64 (dN xs i).f1) := by
 obtain ⟨ad, c, e, _, hK, a⟩ := Kd.mQ h z73 i h0 h1;have hc : ∀ j u, c[j]? = some u → w.cell? (ad.add (i.toNat * 2 + j)) = some u := a;obtain rfl := wW hK;exact ⟨ad, e, hc 0 _ rfl, by rw [← iZ _ _ 1 (by omega)]; exact hc 1 _ rfl⟩
structure gu where
 f0 : Int
 f1 : Bool
 f2 : Int
 f3 : Int
def z109 : gu := ⟨(0 : Int), false, (0 : Int), (0 : Int)⟩
def kT : Kd gu := Kd.iso (Kd.pair (Kd.int .i64) (Kd.pair Kd.bool (Kd.pair (Kd.int .i64) (Kd.int .i64)))) (fun x : gu => (x.f0, x.f1, x.f2, x.f3))
theorem tL {w : World} {x : gu} {cs : List Value} (h : kT.K w x cs) : cs = [.int .i64 x.f0, .bool x.f1, .int .i64 x.f2, .int .i64 x.f3] := by
 obtain ⟨_, _, rfl, rfl, ⟨_, _, rfl, rfl, ⟨_, _, rfl, rfl, rfl⟩⟩⟩ := h;exact rfl
theorem ng (w : World) (base : Nat) (ok : Nat → Prop) (x : gu)  : kT.M w base ok x [.int .i64 x.f0, .bool x.f1, .int .i64 x.f2, .int .i64 x.f3] := ⟨[.int .i64 x.f0], [.bool x.f1, .int .i64 x.f2, .int .i64 x.f3], rfl, rfl, ⟨[.bool x.f1], [.int .i64 x.f2, .int .i64 x.f3], rfl, rfl, ⟨[.int .i64 x.f2], [.int .i64 x.f3], rfl, rfl, rfl⟩⟩⟩
def aH (xs : List gu) (i : Int) : gu := xs.getD i.toNat z109
theorem lJ {w : World} {A : Option Addr} {n : Nat} {xs : List gu} (h : Kd.C kT w A n xs) (i : Int) (h0 : 0 ≤ i) (h1 : i < n) : ∃ ad , A = some ad ∧ w.cell? (ad.add (i.toNat * 4)) = some (.int .i64 (aH xs i).f0) ∧ w.cell? ⟨(ad.add (i.toNat * 4)).block, (ad.add (i.toNat * 4)).off + 1, none⟩ = some (.bool (aH xs i).f1) ∧ w.cell? ⟨(ad.add (i.toNat * 4)).block, (ad.add (i.toNat * 4)).off + 2, none⟩ = some (.int .i64 (aH xs i).f2) ∧ w.cell? ⟨(ad.add (i.toNat * 4)).block, (ad.add (i.toNat * 4)).off + 3, none⟩ = some (.int .i64 (aH xs i).f3) := by
 obtain ⟨ad, c, e, _, hK, a⟩ := Kd.mQ h z109 i h0 h1;have hc : ∀ j u, c[j]? = some u → w.cell? (ad.add (i.toNat * 4 + j)) = some u := a;obtain rfl := tL hK;exact ⟨ad, e, hc 0 _ rfl, by rw [← iZ _ _ 1 (by omega)]; exact hc 1 _ rfl, by rw [← iZ _ _ 2 (by omega)]; exact hc 2 _ rfl, by rw [← iZ _ _ 3 (by omega)]; exact hc 3 _ rfl⟩
def mF (xs : List (List Oo)) (i : Int) : (List Oo) := xs.getD i.toNat ([] : List Oo)
theorem sD {w : World} {A : Option Addr} {n : Nat} {xs : List (List Oo)} (h : Kd.C (Kd.slice 9 Kd.string) w A n xs) (i : Int) (h0 : 0 ≤ i) (h1 : i < n) : ∃ ad a m, A = some ad ∧ w.cell? (ad.add i.toNat) = some (.slice a (mF xs i).length m) ∧ (mF xs i).length ≤ m ∧ Kd.string.C w a (mF xs i).length (mF xs i) := by
 obtain ⟨ad, c, e, _, hK, o⟩ := Kd.mQ h ([] : List Oo) i h0 h1;have hc : ∀ j u, c[j]? = some u → w.cell? (ad.add (i.toNat * 1 + j)) = some u := o;obtain ⟨a, m, rfl, l0, g0⟩ := hK;exact ⟨ad, a, m, e, by have hq := hc 0 _ rfl; rwa [Nat.mul_one, Nat.add_zero] at hq, l0, g0⟩
def jr (xs : List (List Int)) (i : Int) : (List Int) := xs.getD i.toNat ([] : List Int)
theorem sF {w : World} {A : Option Addr} {n : Nat} {xs : List (List Int)} (h : Kd.C (Kd.slice 3 (Kd.int .i64)) w A n xs) (i : Int) (h0 : 0 ≤ i) (h1 : i < n) : ∃ ad a m, A = some ad ∧ w.cell? (ad.add i.toNat) = some (.slice a (jr xs i).length m) ∧ (jr xs i).length ≤ m ∧ (Kd.int .i64).C w a (jr xs i).length (jr xs i) := by
 obtain ⟨ad, c, e, _, hK, o⟩ := Kd.mQ h ([] : List Int) i h0 h1;have hc : ∀ j u, c[j]? = some u → w.cell? (ad.add (i.toNat * 1 + j)) = some u := o;obtain ⟨a, m, rfl, l0, g0⟩ := hK;exact ⟨ad, a, m, e, by have hq := hc 0 _ rfl; rwa [Nat.mul_one, Nat.add_zero] at hq, l0, g0⟩
def lV.f (Dp Dq : Int) (Dr : Oo) (a1 : Int) : Option (Int) := if (wrap64 (a1 - (Dr.size : Int))) < 0 then some (-1) else some (wrap64 (a1 - (Dr.size : Int)))
theorem lV.calls (Dp Dq : Int) (Dr : Oo) (a1 r : Int) (w : World) (h : lV.f Dp Dq Dr a1 = some r) :
  Calls Tryz.prog 26 #[.agg #[.int .i64 Dp, .int .i64 Dq, .string Dr], .int .i64 a1] w fun e w' => e = .returned (.int .i64 r) ∧ Below w.heap.size w w' := by
 have J := Tryz.underlying23;have HB := ah.mk (bR w.heap.size w);unfold lV.f at h;have H := h;clear h;replace H := ah.mk H;go_enter Tryz.func26, Tryz.ntmps26;go_wp2_with (first | ((with_reducible refine aG (N := 2) rfl ?_); refine aN (N := 2) (cs := #[.int .i64 Dp, .int .i64 Dq, .string Dr]) (t := 23) ?_; intro E hg G hbox hb; have a := ah.mk hbox; have m := SZ (w := w) hg; have I := m; replace HB := BS (w := w) hb; clear hb hbox hg; obtain ⟨o, u, x, y, z, A⟩ := cz3 a.out; refine bI ?_));refine Hide.mk ?_;replace H := H.out;replace H := ifD H; rcases H with ⟨D, H⟩ | ⟨D, H⟩
 ·obtain rfl := sI H;(try go_wp2);go_ret;exact ⟨EWW, BL⟩
 ·obtain rfl := sI H;(try go_wp2);go_ret;exact ⟨EWW, BL⟩
def lX.f (Dp : Int) (Dq : Oo) (Dr a0_3 a1 : Int) : Option (Int) := if (wrap64 (a1 - (Dq.size : Int))) < 0 then some (-1) else some (wrap64 (a1 - (Dq.size : Int)))
theorem lX.calls (Dp : Int) (Dq : Oo) (Dr a : Int) (a1 r : Int) (w : World) (h : lX.f Dp Dq Dr a a1 = some r) :
  Calls Tryz.prog 153 #[.agg #[.int .i64 Dp, .string Dq, .int .i64 Dr, .int .i64 a], .int .i64 a1] w fun e w' => e = .returned (.int .i64 r) ∧ Below w.heap.size w w' := by
 have J := Tryz.underlying146;have HB := ah.mk (bR w.heap.size w);unfold lX.f at h;have H := h;clear h;replace H := ah.mk H;go_enter Tryz.func153, Tryz.ntmps153;go_wp2_with (first | ((with_reducible refine aG (N := 2) rfl ?_); refine aN (N := 2) (cs := #[.int .i64 Dp, .string Dq, .int .i64 Dr, .int .i64 a]) (t := 146) ?_; intro K hg L hbox hb; have m := ah.mk hbox; have o := SZ (w := w) hg; have M := o; replace HB := BS (w := w) hb; clear hb hbox hg; obtain ⟨u, x, y, z, A, D, E, G⟩ := cz4 m.out; refine bI ?_));refine Hide.mk ?_;replace H := H.out;replace H := ifD H; rcases H with ⟨I, H⟩ | ⟨I, H⟩
 ·obtain rfl := sI H;(try go_wp2);go_ret;exact ⟨EWW, BL⟩
 ·obtain rfl := sI H;(try go_wp2);go_ret;exact ⟨EWW, BL⟩
def iH.l0 : Nat → List mX → Int → Int → Option (Int)
 | 0, _, _, _ => none
 | k + 1, a, b, c => if c < (a.length : Int) then if 0 ≤ c then (lX.f ((gI a c).f0) ((gI a c).f1) ((gI a c).f2) ((gI a c).f3) b).bind fun d => if d < 0 then some (-1) else iH.l0 k a d (wrap64 (c + 1)) else none else some b
def iH.f (k : Nat) (l0 : List mX) (a1 : Int) : Option (Int) := if (wrap64 (a1 - (l0.length : Int))) < 0 then some (-1) else iH.l0 k l0 (wrap64 (a1 - (l0.length : Int))) 0
theorem iH.calls (k : Nat) (Y : Option Addr) (Z : Nat) (l0 : List mX) (a1 r : Int) (w : World) (E : Kd.C qJ w Y l0.length l0) (G : l0.length ≤ Z) (h : iH.f k l0 a1 = some r) :
  Calls Tryz.prog 104 #[.slice Y l0.length Z, .int .i64 a1] w fun e w' => e = .returned (.int .i64 r) ∧ Below w.heap.size w w' := by
 have O := Tryz.underlying146;have P := ah.mk E;have xb := ah.mk G;clear E G;have HB := ah.mk (bR w.heap.size w);unfold iH.f at h;have H := h;clear h;replace H := ah.mk H;go_enter Tryz.func104, Tryz.ntmps104;replace H := H.out;replace H := ifD H; rcases H with ⟨D, H⟩ | ⟨D, H⟩
 ·obtain rfl := sI H;(try go_wp2);go_ret;exact ⟨EWW, BL⟩
 ·have H' := ah.mk H;clear H;try go_wp2
  go_loopg [1, 5] k (fun kq v1 v5 w' => ∃ (y : Int) (a : Int), v1 = .int .i64 y ∧ v5 = .int .i64 a ∧ ah (iH.l0 kq l0 y a = some r) ∧ ah (kq ≤ k) ∧ ah (Below w.heap.size w w'))
  case atStart => exact ⟨_, _, EQ, EQ, H', ⟨nR _⟩, ⟨BL⟩⟩
  case round =>
   clear H';(try clear D);obtain ⟨y, a, rfl, rfl, HA, I, HB⟩ := hrel
   cases gk with
   | zero => exact absurd HA.out (by simp [iH.l0])
   | succ k1 =>
    have H := HA.out;clear HA;simp only [iH.l0] at H;replace H := ifD H; rcases H with ⟨J, H⟩ | ⟨J, H⟩
    ·replace H := ifN H; obtain ⟨xa, H⟩ := H;replace H := be H; obtain ⟨K, A6, H⟩ := H;have z : 0 ≤ (a : Int) := OD;have A : a < (l0.length : Int) := OD;obtain ⟨U, L, m, o, u, x⟩ := sU P.out a z A
     cases L
     (try replace m := (HB.out.cell (wB w _ m)).trans m);(try replace o := (HB.out.cell (wB w _ o)).trans o);(try replace u := (HB.out.cell (wB w _ u)).trans u);(try replace x := (HB.out.cell (wB w _ x)).trans x);replace z := eq_true z;replace A := eq_true A;replace H := ah.mk H;go_wp2_with (first | ((with_reducible refine au (f := 153) rfl ?_); refine aK (some 23) Tryz.func153 #[.agg #[.int .i64 ((gI l0 a).f0), .string ((gI l0 a).f1), .int .i64 ((gI l0 a).f2), .int .i64 ((gI l0 a).f3)], .int .i64 y] ?_; (with_reducible refine (lX.calls ((gI l0 a).f0) ((gI l0 a).f1) ((gI l0 a).f2) ((gI l0 a).f3) y K _ A6.out).mono ?_); rintro e X ⟨rfl, hb⟩; refine ⟨_, rfl, ?_⟩; replace HB := BS (w := w) hb; (try clear hb); refine bI ?_));refine Hide.mk ?_;replace H := H.out;replace H := ifD H; rcases H with ⟨M, H⟩ | ⟨M, H⟩
     ·obtain rfl := sI H;(try go_wp2);go_ret;exact ⟨EWW, BL⟩
     ·have H' := ah.mk H;clear H;(try go_wp2);go_roundg k1;case measure => have := I.out; omega
      case rel => exact ⟨_, _, EQ, EQ, H', ks I, ⟨BL⟩⟩
    ·obtain rfl := sI H;go_wp2;go_ret;exact ⟨EWW, BL⟩
def lU.f (k : Nat) (Dp : Int) (l0_1 : List mX) (a1 : Int) : Option (Int) := (iH.f k l0_1 a1).bind fun t106 => if t106 < 0 then some (-1) else some t106
theorem lU.calls (k : Nat) (Dp : Int) (o : Option Addr) (u : Nat) (a : List mX) (a1 r : Int) (w : World) (x : Kd.C qJ w o a.length a) (y : a.length ≤ u) (h : lU.f k Dp a a1 = some r) :
  Calls Tryz.prog 56 #[.agg #[.int .i64 Dp, .slice o a.length u], .int .i64 a1] w fun e w' => e = .returned (.int .i64 r) ∧ Below w.heap.size w w' := by
 have X := Tryz.underlying84;have z := ah.mk x;have A := ah.mk y;clear x y;have HB := ah.mk (bR w.heap.size w);unfold lU.f at h;have H := h;clear h;replace H := be H; obtain ⟨K, A3, H⟩ := H;replace H := ah.mk H;go_enter Tryz.func56, Tryz.ntmps56;go_wp2_with (first | ((with_reducible refine aG (N := 2) rfl ?_); refine aN (N := 2) (cs := #[.int .i64 Dp, .slice o a.length u]) (t := 84) ?_; intro M hg O hbox hb; have m := ah.mk hbox; have D := SZ (w := w) hg; have P := D; replace HB := BS (w := w) hb; clear hb hbox hg; obtain ⟨E, G, I, J⟩ := cz2 m.out) | ((with_reducible refine au (f := 104) rfl ?_); refine aK (some 8) Tryz.func104 #[.slice o a.length u, .int .i64 a1] ?_; (with_reducible refine (iH.calls k _ _ a a1 K _ ?s1_ ?s2_ A3.out).mono ?_); (case s1_ => exact CB z); (case s2_ => exact A.out); rintro e U ⟨rfl, hb⟩; refine ⟨_, rfl, ?_⟩; replace m := KB m hb; replace HB := BS (w := w) hb; (try clear hb); refine bI ?_));refine Hide.mk ?_;replace H := H.out;replace H := ifD H; rcases H with ⟨L, H⟩ | ⟨L, H⟩
 ·obtain rfl := sI H;(try go_wp2);go_ret;exact ⟨EWW, BL⟩
 ·obtain rfl := sI H;(try go_wp2);go_ret;exact ⟨EWW, BL⟩
def iG.l0 : Nat → List S84 → Int → Int → Option (Int)
 | 0, _, _, _ => none
 | k + 1, a, b, c => if c < (a.length : Int) then if 0 ≤ c then (lU.f k ((kE a c).f0) ((kE a c).f1) b).bind fun d => if d < 0 then some (-1) else iG.l0 k a d (wrap64 (c + 1)) else none else some b
def iG.f (k : Nat) (l0 : List S84) (a1 : Int) : Option (Int) := if (wrap64 (a1 - (l0.length : Int))) < 0 then some (-1) else iG.l0 k l0 (wrap64 (a1 - (l0.length : Int))) 0
theorem iG.calls (k : Nat) (Z : Option Addr) (c0 : Nat) (l0 : List S84) (a1 r : Int) (w : World) (I : Kd.C k84 w Z l0.length l0) (J : l0.length ≤ c0) (h : iG.f k l0 a1 = some r) :
  Calls Tryz.prog 27 #[.slice Z l0.length c0, .int .i64 a1] w fun e w' => e = .returned (.int .i64 r) ∧ Below w.heap.size w w' := by
 have xb := Tryz.underlying84;have U := ah.mk I;have xd := ah.mk J;clear I J;have HB := ah.mk (bR w.heap.size w);unfold iG.f at h;have H := h;clear h;replace H := ah.mk H;go_enter Tryz.func27, Tryz.ntmps27;replace H := H.out;replace H := ifD H; rcases H with ⟨G, H⟩ | ⟨G, H⟩
 ·obtain rfl := sI H;(try go_wp2);go_ret;exact ⟨EWW, BL⟩
 ·have H' := ah.mk H;clear H;try go_wp2
  go_loopg [1, 5] k (fun kq v1 v5 w' => ∃ (u : Int) (a : Int), v1 = .int .i64 u ∧ v5 = .int .i64 a ∧ ah (iG.l0 kq l0 u a = some r) ∧ ah (kq ≤ k) ∧ ah (Below w.heap.size w w'))
  case atStart => exact ⟨_, _, EQ, EQ, H', ⟨nR _⟩, ⟨BL⟩⟩
  case round =>
   clear H';(try clear G);obtain ⟨u, a, rfl, rfl, HA, K, HB⟩ := hrel
   cases gk with
   | zero => exact absurd HA.out (by simp [iG.l0])
   | succ k1 =>
    have H := HA.out;clear HA;simp only [iG.l0] at H;replace H := ifD H; rcases H with ⟨L, H⟩ | ⟨L, H⟩
    ·replace H := ifN H; obtain ⟨xc, H⟩ := H;replace H := be H; obtain ⟨M, A6, H⟩ := H;have x : 0 ≤ (a : Int) := OD;have y : a < (l0.length : Int) := OD;obtain ⟨X, D, E, O, m, o, hl107_1, hi107_1⟩ := wE U.out a x y
     cases O
     (try replace m := (HB.out.cell (wB w _ m)).trans m);(try replace o := (HB.out.cell (wB w _ o)).trans o);have z := ah.mk hi107_1;have A := ah.mk hl107_1;clear hi107_1 hl107_1;replace x := eq_true x;replace y := eq_true y;replace H := ah.mk H;go_wp2_with (first | ((with_reducible refine au (f := 56) rfl ?_); refine aK (some 23) Tryz.func56 #[.agg #[.int .i64 ((kE l0 a).f0), .slice D ((kE l0 a).f1).length E], .int .i64 u] ?_; (with_reducible refine (lU.calls k1 ((kE l0 a).f0) _ _ ((kE l0 a).f1) u M _ ?s1_ ?s2_ A6.out).mono ?_); (case s1_ => exact CB z); (case s2_ => exact A.out); rintro e Y ⟨rfl, hb⟩; refine ⟨_, rfl, ?_⟩; replace HB := BS (w := w) hb; (try clear hb); refine bI ?_));refine Hide.mk ?_;replace H := H.out;replace H := ifD H; rcases H with ⟨P, H⟩ | ⟨P, H⟩
     ·obtain rfl := sI H;(try go_wp2);go_ret;exact ⟨EWW, BL⟩
     ·have H' := ah.mk H;clear H;(try go_wp2);go_roundg k1;case measure => have := K.out; omega
      case rel => exact ⟨_, _, EQ, EQ, H', ks K, ⟨BL⟩⟩
    ·obtain rfl := sI H;go_wp2;go_ret;exact ⟨EWW, BL⟩
def lW.f (l0 : List Int) (a1 : Int) : Option (Int) := if (wrap64 (a1 - (l0.length : Int))) < 0 then some (-1) else some (wrap64 (a1 - (l0.length : Int)))
theorem lW.calls (u : Option Addr) (x : Nat) (l0 : List Int) (a1 r : Int) (w : World) (a : Kd.C (Kd.int .i64) w u l0.length l0) (m : l0.length ≤ x) (h : lW.f l0 a1 = some r) :
  Calls Tryz.prog 38 #[.slice u l0.length x, .int .i64 a1] w fun e w' => e = .returned (.int .i64 r) ∧ bU w w' := by
 have y := ah.mk a;have z := ah.mk m;clear a m;unfold lW.f at h;have H := h;clear h;replace H := ah.mk H;go_enter Tryz.func38, Tryz.ntmps38;replace H := H.out;replace H := ifD H; rcases H with ⟨o, H⟩ | ⟨o, H⟩
 ·obtain rfl := sI H;(try go_wp2);go_ret;exact ⟨EQ, DR⟩
 ·obtain rfl := sI H;(try go_wp2);go_ret;exact ⟨EQ, DR⟩
def kP.f (k : Nat) (Dp Dq : Int) (Dr : Oo) (Dt : List S84) (Du : List Int) (Dv a1 : Int) : Option (Int) := (lV.f Dp Dq Dr a1).bind fun t110 => if t110 < 0 then some (-1) else (iG.f k Dt t110).bind fun t111 => if t111 < 0 then some (-1) else (lW.f Du t111).bind fun t112 => if t112 < 0 then some (-1) else some t112
theorem kP.calls (k : Nat) (Dp Dq : Int) (Dr : Oo) (A0_3 : Option Addr) (c0_3 : Nat) (Dt : List S84) (A0_4 : Option Addr) (c0_4 : Nat) (Du : List Int) (Dv a1 r : Int) (w : World) (hr0_3 : Kd.C k84 w A0_3 Dt.length Dt) (hc0_3 : Dt.length ≤ c0_3) (hr0_4 : Kd.C (Kd.int .i64) w A0_4 Du.length Du) (hc0_4 : Du.length ≤ c0_4) (h : kP.f k Dp Dq Dr Dt Du Dv a1 = some r) :
  Calls Tryz.prog 7 #[.agg #[.int .i64 Dp, .int .i64 Dq, .string Dr, .slice A0_3 Dt.length c0_3, .slice A0_4 Du.length c0_4, .int .i64 Dv], .int .i64 a1] w fun e w' => e = .returned (.int .i64 r) ∧ Below w.heap.size w w' := by
 have xG := Tryz.underlying27;have xH := Tryz.underlying23;have u := ah.mk hr0_3;have x := ah.mk hc0_3;clear hr0_3 hc0_3;have y := ah.mk hr0_4;have z := ah.mk hc0_4;clear hr0_4 hc0_4;have HB := ah.mk (bR w.heap.size w);unfold kP.f at h;have H := h;clear h;replace H := be H; obtain ⟨m, A3, H⟩ := H;replace H := ah.mk H;go_enter Tryz.func7, Tryz.ntmps7;go_wp2_with (first | ((with_reducible refine aG (N := 2) rfl ?_); refine aN (N := 2) (cs := #[.int .i64 Dp, .int .i64 Dq, .string Dr, .slice A0_3 Dt.length c0_3, .slice A0_4 Du.length c0_4, .int .i64 Dv]) (t := 27) ?_; intro xA hg xB hbox hb; have a := ah.mk hbox; have A := SZ (w := w) hg; have xC := A; replace HB := BS (w := w) hb; clear hb hbox hg; obtain ⟨D, E, G, I, J, K, L, M, O, P, U, X⟩ := cz6 a.out) | ((with_reducible refine au (f := 26) rfl ?_); refine aK (some 8) Tryz.func26 #[.agg #[.int .i64 Dp, .int .i64 Dq, .string Dr], .int .i64 a1] ?_; (with_reducible refine (lV.calls Dp Dq Dr a1 m _ A3.out).mono ?_); rintro e xD ⟨rfl, hb⟩; refine ⟨_, rfl, ?_⟩; replace a := KB a hb; replace HB := BS (w := w) hb; (try clear hb); obtain ⟨Y, Z, xa, xb, xc, xd, xe, xf, xg, xh, xi, xj⟩ := cz6 a.out; refine bI ?_));refine Hide.mk ?_;replace H := H.out;replace H := ifD H; rcases H with ⟨xx, H⟩ | ⟨xx, H⟩
 ·obtain rfl := sI H;(try go_wp2);go_ret;exact ⟨EWW, BL⟩
 ·replace H := be H; obtain ⟨o, A8, H⟩ := H;replace H := ah.mk H;go_wp2_with (first | ((with_reducible refine au (f := 27) rfl ?_); refine aK (some 14) Tryz.func27 #[.slice A0_3 Dt.length c0_3, .int .i64 m] ?_; (with_reducible refine (iG.calls k _ _ Dt m o _ ?s1_ ?s2_ A8.out).mono ?_); (case s1_ => exact CB u); (case s2_ => exact x.out); rintro e xE ⟨rfl, hb⟩; refine ⟨_, rfl, ?_⟩; replace a := KB a hb; replace HB := BS (w := w) hb; (try clear hb); obtain ⟨xk, xl, xm, xn, xo, xp, xq, xr, xs, xt, xu, xv⟩ := cz6 a.out; refine bI ?_));refine Hide.mk ?_;replace H := H.out;replace H := ifD H; rcases H with ⟨xy, H⟩ | ⟨xy, H⟩
  ·obtain rfl := sI H;(try go_wp2);go_ret;exact ⟨EWW, BL⟩
  ·replace H := be H; obtain ⟨xz, xF, H⟩ := H;replace H := ah.mk H;go_wp2_with (first | ((with_reducible refine au (f := 38) rfl ?_); refine aK (some 20) Tryz.func38 #[.slice A0_4 Du.length c0_4, .int .i64 o] ?_; (with_reducible refine (lW.calls _ _ Du o xz _ ?s1_ ?s2_ xF.out).mono ?_); (case s1_ => exact CB y); (case s2_ => exact z.out); rintro e w' ⟨rfl, ⟨nd, rfl⟩⟩; refine ⟨_, rfl, ?_⟩; refine bI ?_));refine Hide.mk ?_;replace H := H.out;replace H := ifD H; rcases H with ⟨xw, H⟩ | ⟨xw, H⟩
   ·obtain rfl := sI H;(try go_wp2);go_ret;exact ⟨EWW, BL⟩
   ·obtain rfl := sI H;(try go_wp2);go_ret;exact ⟨EWW, BL⟩
def kD.f (Dp : Oo) (Dq a1 : Int) : Option (Int) := if (wrap64 (a1 - (Dp.size : Int))) < 0 then some (-1) else some (wrap64 (a1 - (Dp.size : Int)))
theorem kD.calls (Dp : Oo) (Dq a1 r : Int) (w : World) (h : kD.f Dp Dq a1 = some r) :
  Calls Tryz.prog 39 #[.agg #[.string Dp, .int .i64 Dq], .int .i64 a1] w fun e w' => e = .returned (.int .i64 r) ∧ Below w.heap.size w w' := by
 have G := Tryz.underlying64;have HB := ah.mk (bR w.heap.size w);unfold kD.f at h;have H := h;clear h;replace H := ah.mk H;go_enter Tryz.func39, Tryz.ntmps39;go_wp2_with (first | ((with_reducible refine aG (N := 2) rfl ?_); refine aN (N := 2) (cs := #[.string Dp, .int .i64 Dq]) (t := 64) ?_; intro A hg D hbox hb; have a := ah.mk hbox; have m := SZ (w := w) hg; have E := m; replace HB := BS (w := w) hb; clear hb hbox hg; obtain ⟨o, u, x, y⟩ := cz2 a.out; refine bI ?_));refine Hide.mk ?_;replace H := H.out;replace H := ifD H; rcases H with ⟨z, H⟩ | ⟨z, H⟩
 ·obtain rfl := sI H;(try go_wp2);go_ret;exact ⟨EWW, BL⟩
 ·obtain rfl := sI H;(try go_wp2);go_ret;exact ⟨EWW, BL⟩
def gD.l0 : Nat → List S64 → Int → Int → Option (Int)
 | 0, _, _, _ => none
 | k + 1, a, b, c => if c < (a.length : Int) then if 0 ≤ c then (kD.f ((lF a c).f0) ((lF a c).f1) b).bind fun d => if d < 0 then some (-1) else gD.l0 k a d (wrap64 (c + 1)) else none else some b
def gD.f (k : Nat) (l0 : List S64) (a1 : Int) : Option (Int) := if (wrap64 (a1 - (l0.length : Int))) < 0 then some (-1) else gD.l0 k l0 (wrap64 (a1 - (l0.length : Int))) 0
theorem gD.calls (k : Nat) (P : Option Addr) (U : Nat) (l0 : List S64) (a1 r : Int) (w : World) (A : Kd.C k64 w P l0.length l0) (D : l0.length ≤ U) (h : gD.f k l0 a1 = some r) :
  Calls Tryz.prog 8 #[.slice P l0.length U, .int .i64 a1] w fun e w' => e = .returned (.int .i64 r) ∧ Below w.heap.size w w' := by
 have X := Tryz.underlying64;have L := ah.mk A;have Z := ah.mk D;clear A D;have HB := ah.mk (bR w.heap.size w);unfold gD.f at h;have H := h;clear h;replace H := ah.mk H;go_enter Tryz.func8, Tryz.ntmps8;replace H := H.out;replace H := ifD H; rcases H with ⟨z, H⟩ | ⟨z, H⟩
 ·obtain rfl := sI H;(try go_wp2);go_ret;exact ⟨EWW, BL⟩
 ·have H' := ah.mk H;clear H;try go_wp2
  go_loopg [1, 5] k (fun kq v1 v5 w' => ∃ (u : Int) (a : Int), v1 = .int .i64 u ∧ v5 = .int .i64 a ∧ ah (gD.l0 kq l0 u a = some r) ∧ ah (kq ≤ k) ∧ ah (Below w.heap.size w w'))
  case atStart => exact ⟨_, _, EQ, EQ, H', ⟨nR _⟩, ⟨BL⟩⟩
  case round =>
   clear H';(try clear z);obtain ⟨u, a, rfl, rfl, HA, E, HB⟩ := hrel
   cases gk with
   | zero => exact absurd HA.out (by simp [gD.l0])
   | succ k1 =>
    have H := HA.out;clear HA;simp only [gD.l0] at H;replace H := ifD H; rcases H with ⟨G, H⟩ | ⟨G, H⟩
    ·replace H := ifN H; obtain ⟨Y, H⟩ := H;replace H := be H; obtain ⟨I, A6, H⟩ := H;have x : 0 ≤ (a : Int) := OD;have y : a < (l0.length : Int) := OD;obtain ⟨M, J, m, o⟩ := wD L.out a x y
     cases J
     (try replace m := (HB.out.cell (wB w _ m)).trans m);(try replace o := (HB.out.cell (wB w _ o)).trans o);replace x := eq_true x;replace y := eq_true y;replace H := ah.mk H;go_wp2_with (first | ((with_reducible refine au (f := 39) rfl ?_); refine aK (some 23) Tryz.func39 #[.agg #[.string ((lF l0 a).f0), .int .i64 ((lF l0 a).f1)], .int .i64 u] ?_; (with_reducible refine (kD.calls ((lF l0 a).f0) ((lF l0 a).f1) u I _ A6.out).mono ?_); rintro e O ⟨rfl, hb⟩; refine ⟨_, rfl, ?_⟩; replace HB := BS (w := w) hb; (try clear hb); refine bI ?_));refine Hide.mk ?_;replace H := H.out;replace H := ifD H; rcases H with ⟨K, H⟩ | ⟨K, H⟩
     ·obtain rfl := sI H;(try go_wp2);go_ret;exact ⟨EWW, BL⟩
     ·have H' := ah.mk H;clear H;(try go_wp2);go_roundg k1;case measure => have := E.out; omega
      case rel => exact ⟨_, _, EQ, EQ, H', ks E, ⟨BL⟩⟩
    ·obtain rfl := sI H;go_wp2;go_ret;exact ⟨EWW, BL⟩
def gJ.l0 : Nat → List Oo → Int → Int → Option (Int)
 | 0, _, _, _ => none
 | k + 1, a, b, c => if c < (a.length : Int) then (if 0 ≤ c then (if (wrap64 (b - ((fB ByteArray.empty a c).size : Int))) < 0 then some (-1) else (gJ.l0 k a (wrap64 (b - ((fB ByteArray.empty a c).size : Int))) (wrap64 (c + 1)))) else none) else some b
def gJ.f (k : Nat) (l0 : List Oo) (a1 : Int) : Option (Int) := if (wrap64 (a1 - (l0.length : Int))) < 0 then some (-1) else gJ.l0 k l0 (wrap64 (a1 - (l0.length : Int))) 0
theorem gJ.calls (k : Nat) (L : Option Addr) (M : Nat) (l0 : List Oo) (a1 r : Int) (w : World) (y : Kd.C Kd.string w L l0.length l0) (z : l0.length ≤ M) (h : gJ.f k l0 a1 = some r) :
  Calls Tryz.prog 9 #[.slice L l0.length M, .int .i64 a1] w fun e w' => e = .returned (.int .i64 r) ∧ bU w w' := by
 have J := ah.mk y;have P := ah.mk z;clear y z;unfold gJ.f at h;have H := h;clear h;replace H := ah.mk H;go_enter Tryz.func9, Tryz.ntmps9;replace H := H.out;replace H := ifD H; rcases H with ⟨x, H⟩ | ⟨x, H⟩
 ·obtain rfl := sI H;(try go_wp2);go_ret;exact ⟨EQ, DR⟩
 ·have H' := ah.mk H;clear H;try go_wp2
  go_loopg [1, 5] k (fun kq U X w' => ∃ (m : Int) (a : Int), U = .int .i64 m ∧ X = .int .i64 a ∧ ah (gJ.l0 kq l0 m a = some r) ∧ ah (kq ≤ k) ∧ bU w w')
  case atStart => exact ⟨_, _, EQ, EQ, H', ⟨nR _⟩, DR⟩
  case round =>
   clear H';(try clear x);obtain ⟨m, a, rfl, rfl, HA, A, ⟨m1, rfl⟩⟩ := hrel
   cases gk with
   | zero => exact absurd HA.out (by simp [gJ.l0])
   | succ k1 =>
    have H := HA.out;clear HA;simp only [gJ.l0] at H;replace H := ifD H; rcases H with ⟨D, H⟩ | ⟨D, H⟩
    ·replace H := ifN H; obtain ⟨O, H⟩ := H;have o : 0 ≤ (a : Int) := OD;have u : a < (l0.length : Int) := OD;obtain ⟨K, E, G⟩ := Kd.iN J.out a o u
     cases E
     replace o := eq_true o;replace u := eq_true u;replace H := ifD H; rcases H with ⟨I, H⟩ | ⟨I, H⟩
     ·obtain rfl := sI H;go_wp2;go_ret;exact ⟨EQ, DR⟩
     ·have H' := ah.mk H;clear H;go_wp2;go_roundg k1;case measure => have := A.out; omega
      case rel => exact ⟨_, _, EQ, EQ, H', ks A, DR⟩
    ·obtain rfl := sI H;go_wp2;go_ret;exact ⟨EQ, DR⟩
def lZ.f (Dp Dq : Int) (Dr : Oo) : Option (Int × Int × Oo) := some (Dp, Dq, Dr)
theorem lZ.calls (Dp Dq : Int) (Dr : Oo) (r1 r2 : Int) (r3 : Oo) (w : World) (h : lZ.f Dp Dq Dr = some (r1, r2, r3)) :
  Calls Tryz.prog 29 #[.agg #[.int .i64 Dp, .int .i64 Dq, .string Dr]] w fun e w' => e = .returned (.agg #[.int .i64 r1, .int .i64 r2, .string r3]) ∧ Below w.heap.size w w' := by
 have xo := Tryz.underlying23;have xp := Tryz.underlying35;have HB := ah.mk (bR w.heap.size w);unfold lZ.f at h;have H := h;clear h;simp only [Option.some.injEq, Prod.mk.injEq] at H;obtain ⟨rfl, rfl, rfl⟩ := H;go_enter Tryz.func29, Tryz.ntmps29;go_wp2_with (first | ((with_reducible refine aG (N := 1) rfl ?_); refine aN (N := 1) (cs := #[.int .i64 Dp, .int .i64 Dq, .string Dr]) (t := 23) ?_; intro xj hg w2 hbox hb; have a := ah.mk hbox; have D := SZ (w := w) hg; have xk := D; replace HB := BS (w := w) hb; clear hb hbox hg) | ((with_reducible refine aG (N := 2) rfl ?_); refine aN (N := 2) (cs := #[.int .i64 0, .int .i64 0, .string (⟨#[]⟩ : Oo)]) (t := 35) ?_; intro E hg w3 hbox hb; have o := ah.mk (hbox); have G := SZ (w := w) hg; have xl := G; replace HB := BS (w := w) hb; have u := NL a hg; have x := NG a hg; replace a := KB a hb; clear hb hbox hg) | ((with_reducible refine aG (N := 3) rfl ?_); refine aN (N := 3) (cs := #[.int .i64 0, .int .i64 0, .string (⟨#[]⟩ : Oo)]) (t := 35) ?_; intro xm hg w4 hbox hb; have I := ah.mk (hbox); have J := SZ (w := w) hg; have xn := J; replace HB := BS (w := w) hb; have y := NL a hg; have z := NG a hg; replace a := KB a hb; have m := NL o hg; have A := NG o hg; replace o := KB o hb; clear hb hbox hg; have xq := u.out; have xr := x.out; have xs := y.out; have xt := z.out; obtain ⟨X, Y, Z, xa, xb, xc⟩ := cz3 a.out; have xu := A.out; have xv := m.out; obtain ⟨xd, xe, xf, xg, xh, xi⟩ := cz3 I.out; obtain ⟨K, L, M, O, P, U⟩ := cz3 o.out));refine bodyPost_ret (results_cell_row rfl _ _ E 35 #[.int .i64 Dp, .int .i64 Dq, .string Dr] (0, 0) _ rfl (by (with_reducible repeat (first | refine ay ?_ _ | refine aC ?_ | refine av ?_ _ | apply aI | apply bX (hp := m.out))); exact o.out; all_goals rfl) Tryz.underlying35 rfl (by kernel_rfl)) rfl ?_;exact ⟨EWW, BL⟩
def mg.f (Dp : Int) (Dq : Oo) (Dr a0_3 : Int) : Option (Int × Oo × Int × Int) := some (Dp, Dq, Dr, a0_3)
theorem mg.calls (Dp : Int) (Dq : Oo) (Dr D r1 : Int) (r2 : Oo) (r3 r4 : Int) (w : World) (h : mg.f Dp Dq Dr D = some (r1, r2, r3, r4)) :
  Calls Tryz.prog 159 #[.agg #[.int .i64 Dp, .string Dq, .int .i64 Dr, .int .i64 D]] w fun e w' => e = .returned (.agg #[.int .i64 r1, .string r2, .int .i64 r3, .int .i64 r4]) ∧ Below w.heap.size w w' := by
 have xq := Tryz.underlying146;have xr := Tryz.underlying127;have HB := ah.mk (bR w.heap.size w);unfold mg.f at h;have H := h;clear h;simp only [Option.some.injEq, Prod.mk.injEq] at H;obtain ⟨rfl, rfl, rfl, rfl⟩ := H;go_enter Tryz.func159, Tryz.ntmps159;go_wp2_with (first | ((with_reducible refine aG (N := 1) rfl ?_); refine aN (N := 1) (cs := #[.int .i64 Dp, .string Dq, .int .i64 Dr, .int .i64 D]) (t := 146) ?_; intro xs hg w2 hbox hb; have m := ah.mk hbox; have E := SZ (w := w) hg; have xt := E; replace HB := BS (w := w) hb; clear hb hbox hg) | ((with_reducible refine aG (N := 2) rfl ?_); refine aN (N := 2) (cs := #[.int .i64 0, .string (⟨#[]⟩ : Oo), .int .i64 0, .int .i64 0]) (t := 127) ?_; intro G hg w3 hbox hb; have o := ah.mk (hbox); have I := SZ (w := w) hg; have xu := I; replace HB := BS (w := w) hb; have u := NL m hg; have x := NG m hg; replace m := KB m hb; clear hb hbox hg) | ((with_reducible refine aG (N := 3) rfl ?_); refine aN (N := 3) (cs := #[.int .i64 0, .string (⟨#[]⟩ : Oo), .int .i64 0, .int .i64 0]) (t := 127) ?_; intro xv hg w4 hbox hb; have J := ah.mk (hbox); have K := SZ (w := w) hg; have xw := K; replace HB := BS (w := w) hb; have y := NL m hg; have z := NG m hg; replace m := KB m hb; have a := NL o hg; have A := NG o hg; replace o := KB o hb; clear hb hbox hg; have xx := u.out; have xy := x.out; have xz := y.out; have xA := z.out; obtain ⟨xa, xb, xc, xd, xe, xf, xg, xh⟩ := cz4 m.out; have xB := A.out; have xC := a.out; obtain ⟨xi, xj, xk, xl, xm, xn, xo, xp⟩ := cz4 J.out; obtain ⟨L, M, O, P, U, X, Y, Z⟩ := cz4 o.out));refine bodyPost_ret (results_cell_row rfl _ _ G 127 #[.int .i64 Dp, .string Dq, .int .i64 Dr, .int .i64 D] (0, 0) _ rfl (by (with_reducible repeat (first | refine ay ?_ _ | refine aC ?_ | refine av ?_ _ | apply aI | apply bX (hp := a.out))); exact o.out; all_goals rfl) Tryz.underlying127 rfl (by kernel_rfl)) rfl ?_;exact ⟨EWW, BL⟩
def gT.l0 : Nat → List mX → List bY → Int → Option ((List bY))
 | 0, _, _, _ => none
 | k + 1, a, b, c => if c < (a.length : Int) then if 0 ≤ c then (mg.f ((gI a c).f0) ((gI a c).f1) ((gI a c).f2) ((gI a c).f3)).bind fun d => if c < (b.length : Int) then gT.l0 k a (b.set (c : Int).toNat (⟨d.1, d.2.1, d.2.2.1, d.2.2.2⟩ : bY)) (wrap64 (c + 1)) else none else none else some b
def gT.f (k : Nat) (l0 : List mX) : Option ((List bY)) := if 0 ≤ (l0.length : Int) then (if ((l0.length : Int) : Int).toNat ≤ 7036874417766 then (gT.l0 k l0 (List.replicate ((l0.length : Int) : Int).toNat z127) 0) else none) else none
theorem gT.calls (k : Nat) (A0 : Option Addr) (c0 : Nat) (l0 : List mX) (r : List bY) (w : World) (xj : Kd.C qJ w A0 l0.length l0) (xk : l0.length ≤ c0) (h : gT.f k l0 = some r) :
  Calls Tryz.prog 111 #[.slice A0 l0.length c0] w fun e w' => ∃ v0_ : Value, e = .returned (v0_) ∧ Kd.R gV 127 w' w.heap.size (fun _ => True) v0_ r ∧ Below w.heap.size w w' := by
 have xy := Tryz.underlying146;have xz := Tryz.underlying127;have xA := ah.mk xj;have xH := ah.mk xk;clear xj xk;have HB := ah.mk (bR w.heap.size w);unfold gT.f at h;have H := h;clear h;replace H := ifP H; obtain ⟨c2, H⟩ := H;have xl := eq_true c2;have xm : decide (0 ≤ (l0.length : Int)) = true := dT c2;clear c2;replace H := ifP H; obtain ⟨c3, H⟩ := H;have xn := eq_true c3;have xo : decide (((l0.length : Int) : Int).toNat ≤ 7036874417766) = true := dT c3;clear c3;obtain ⟨xp, x⟩ : ∃ y_ : List bY, y_ = (List.replicate ((l0.length : Int) : Int).toNat z127) := ⟨_, rfl⟩;replace H : (gT.l0 k l0 xp 0) = some r := cW x H
 have P := ah.mk x;clear x;have H' := ah.mk H;clear H;go_enter Tryz.func111, Tryz.ntmps111;go_wp2_with (first | ((with_reducible refine aG (N := 7) rfl ?_); refine Kd.pz gV _ 127 rfl (N := 7) rfl 68 _ _ rfl (l0.length : Int) rfl rfl Tryz.underlying68 (.agg #[(.int .i64 0), (.string ⟨#[]⟩), (.int .i64 0), (.int .i64 0)]) 40 Ba rfl (by decide) (by omega) z127 (ok := fun _ => True) (okp := fun _ => True) (ni _ _ _ z127 ) (fun _ hk => hk) trivial (OD) (Nat.le_trans (Nat.mul_le_mul_right _ (OD : (l0.length : Int).toNat ≤ 7036874417766)) (by omega)) (bR _ _) (nR _) ?_; intro xq xB U hb hg_ hnew_; clear hg_ hnew_; (first | rw [← P.out] at U | (simp only [Int.reduceToNat] at U; rw [← P.out] at U)); have xf := ah.mk (Kd.bD U (aD BL)); replace HB := BS (w := w) hb; clear hb U))
 go_loopg [4] k (fun kq v4 w' => ∃ (o : List bY) (a : Int), v4 = .int .i64 a ∧ ah (gT.l0 kq l0 o a = some r) ∧ ah (kq ≤ k) ∧ ah (Kd.R gV 127 w' w.heap.size (fun _ => True) xq o) ∧ ah (Below w.heap.size w w'))
 case atStart => exact ⟨_, _, EQ, H', ⟨nR _⟩, ⟨(RR xf)⟩, ⟨BL⟩⟩
 case round =>
  clear H';(try clear c2);(try clear xl);(try clear xm);(try clear c3);(try clear xn);(try clear xo);obtain ⟨o, a, rfl, HA, xr, u, HB⟩ := hrel
  cases gk with
  | zero => exact absurd HA.out (by simp [gT.l0])
  | succ k1 =>
   have H := HA.out;clear HA;simp only [gT.l0] at H;replace H := ifD H; rcases H with ⟨xs, H⟩ | ⟨xs, H⟩
   ·replace H := ifN H; obtain ⟨xF, H⟩ := H;replace H := be H; obtain ⟨⟨G, I, J, K⟩, A8, H⟩ := H;dsimp only at H;replace H := ifN H; obtain ⟨xG, H⟩ := H;obtain ⟨xd, y⟩ : ∃ y_ : List bY, y_ = (o.set (a : Int).toNat (⟨G, I, J, K⟩ : bY)) := ⟨_, rfl⟩;replace H : (gT.l0 k1 l0 xd (wrap64 (a + 1))) = some r := cW y H
    have xg := ah.mk y;clear y;have H' := ah.mk H;clear H;have X : 0 ≤ (a : Int) := OD;have Y : a < (l0.length : Int) := OD;obtain ⟨xC, xt, z, A, D, E⟩ := sU xA.out a X Y
    cases xt
    (try replace z := (HB.out.cell (wB w _ z)).trans z);(try replace A := (HB.out.cell (wB w _ A)).trans A);(try replace D := (HB.out.cell (wB w _ D)).trans D);(try replace E := (HB.out.cell (wB w _ E)).trans E);replace X := eq_true X;replace Y := eq_true Y;go_wp2_with (first | ((with_reducible refine au (f := 159) rfl ?_); refine aK (some 20) Tryz.func159 #[.agg #[.int .i64 ((gI l0 a).f0), .string ((gI l0 a).f1), .int .i64 ((gI l0 a).f2), .int .i64 ((gI l0 a).f3)]] ?_; (with_reducible refine (mg.calls ((gI l0 a).f0) ((gI l0 a).f1) ((gI l0 a).f2) ((gI l0 a).f3) G I J K _ A8.out).mono ?_); rintro e m ⟨rfl, hb⟩; refine ⟨_, rfl, ?_⟩; replace u := RB u hb; replace HB := BS (w := w) hb; (try clear hb); (try clear hk); have xh : 0 ≤ (a : Int) := OD; have xi : (a : Int) < ((o.length : Int) : Int) := OD; obtain ⟨go10, M, O, xe, gl10, cl10, HG10⟩ := Kd.mE u.out (by omega); (first | cases O | (injection O with ea_ en_ ec_; (first | subst ea_ | (injection ea_ with ea_; subst ea_)); subst ec_; clear en_)); have GB10 := ah.mk xe; have GG10 := ah.mk HG10; clear xe gl10 HG10; obtain ⟨ce10, hcl10, hM10, hcc10, hfr10⟩ := Kd.jW u.out z127 (a : Int) xh xi; obtain rfl := jC hM10; have xu : m.cell? ⟨go10, (a : Int).toNat * 4, none⟩ = some (.int .i64 ((aj o a).f0)) := hcc10 0 _ rfl; have xv : m.cell? ⟨go10, (a : Int).toNat * 4 + 1, none⟩ = some (.string ((aj o a).f1)) := hcc10 1 _ rfl; have xw : m.cell? ⟨go10, (a : Int).toNat * 4 + 2, none⟩ = some (.int .i64 ((aj o a).f2)) := hcc10 2 _ rfl; have xx : m.cell? ⟨go10, (a : Int).toNat * 4 + 3, none⟩ = some (.int .i64 ((aj o a).f3)) := hcc10 3 _ rfl; have hf10_0 : m.frozen? ⟨go10, (a : Int).toNat * 4, none⟩ = false := hfr10 0; have hf10_1 : m.frozen? ⟨go10, (a : Int).toNat * 4 + 1, none⟩ = false := hfr10 1; have hf10_2 : m.frozen? ⟨go10, (a : Int).toNat * 4 + 2, none⟩ = false := hfr10 2; have hf10_3 : m.frozen? ⟨go10, (a : Int).toNat * 4 + 3, none⟩ = false := hfr10 3; clear hcl10 hcc10 hfr10 hM10; replace xh := eq_true xh; replace xi := eq_true xi; have HX12 := ah.mk (show Kd.R gV 127 m w.heap.size (fun _ => True) (.slice (some ⟨go10, 0, none⟩) o.length M) o from (RR u)); obtain ⟨ce12, hcl12, hM12, hcc12, hfr12⟩ := Kd.jW HX12.out z127 (a : Int) (OD) (by have h_ : (a : Int) < ((o.length : Int) : Int) := OD; first | exact h_ | (have e_ := (Kd.aQ u.out).1; omega) | simpa using h_); obtain rfl := jC hM12; have HP12 := Kd.oK HX12.out (a : Int) (OD) (by have h_ : (a : Int) < ((o.length : Int) : Int) := OD; first | exact h_ | (have e_ := (Kd.aQ u.out).1; omega) | simpa using h_) (seg := [.int .i64 G, .string I, .int .i64 J, .int .i64 K]) (j := 0) hcl12 hcc12 (show 4 ≤ 4 from by decide) (x' := (⟨G, I, J, K⟩ : bY)) (ni _ _ _ (⟨G, I, J, K⟩ : bY) ) (fun _ hk => hk); have Z := hcc12 0 _ rfl; (try simp only [show (gV).sz = 4 from rfl, Nat.mul_one, Nat.add_zero] at Z); have hf12_0 := hfr12 0; (try simp only [show (gV).sz = 4 from rfl, Nat.mul_one, Nat.add_zero] at hf12_0); have xa := hcc12 1 _ rfl; (try simp only [show (gV).sz = 4 from rfl, Nat.mul_one, Nat.add_zero] at xa); have hf12_1 := hfr12 1; (try simp only [show (gV).sz = 4 from rfl, Nat.mul_one, Nat.add_zero] at hf12_1); have xb := hcc12 2 _ rfl; (try simp only [show (gV).sz = 4 from rfl, Nat.mul_one, Nat.add_zero] at xb); have hf12_2 := hfr12 2; (try simp only [show (gV).sz = 4 from rfl, Nat.mul_one, Nat.add_zero] at hf12_2); have xc := hcc12 3 _ rfl; (try simp only [show (gV).sz = 4 from rfl, Nat.mul_one, Nat.add_zero] at xc); have hf12_3 := hfr12 3; (try simp only [show (gV).sz = 4 from rfl, Nat.mul_one, Nat.add_zero] at hf12_3); clear hcl12 hcc12 hfr12 hM12) | ((with_reducible refine fI (t := 127) (p := 21) rfl ?_); refine eU (t := 127) (p := 21) (v := ?vo_w13) (w1 := ((((m.setCell ⟨go10, (a : Int).toNat * 4, none⟩ (.int .i64 G)).setCell ⟨go10, (a : Int).toNat * 4 + 1, none⟩ (.string I)).setCell ⟨go10, (a : Int).toNat * 4 + 2, none⟩ (.int .i64 J)).setCell ⟨go10, (a : Int).toNat * 4 + 3, none⟩ (.int .i64 K))) ?hg ?ho ?hn ?hr ?_; (case ho => rfl); (case hg => rfl); (case hn => rfl); (case hr => first | (go_simp; done) | (go_simp; rfl)); intro L hw; have hg : m.grownBy L (some go10) := (by rw [hw]; exact HP12.2); have hp_ : Kd.R gV 127 L w.heap.size (fun _ => True) (.slice (some ⟨go10, 0, none⟩) o.length M) xd := (by rw [hw, xg.out]; exact HP12.1); clear HP12; replace u := ah.mk (hp_); replace HB := ah.mk ((by rw [hw]; exact dx (dx (dx (dx (HB.out) GB10.out) GB10.out) GB10.out) GB10.out : Below w.heap.size w L)); clear hg hw hp_));go_roundg k1;case measure => have := xr.out; omega
    case rel => exact ⟨_, _, EQ, H', ks xr, ⟨(RR u)⟩, ⟨BL⟩⟩
   ·obtain rfl := sI H;go_wp2;go_ret;exact ⟨_, EWW, (RR u), BL⟩
def lY.f (k : Nat) (Dp : Int) (l0_1 : List mX) : Option (Int × (List bY)) := (gT.f k l0_1).bind fun t135 => some (Dp, t135)
theorem lY.calls (k : Nat) (Dp : Int) (D : Option Addr) (E : Nat) (x : List mX) (r1 : Int) (r2 : List bY) (w : World) (M : Kd.C qJ w D x.length x) (O : x.length ≤ E) (h : lY.f k Dp x = some (r1, r2)) :
  Calls Tryz.prog 61 #[.agg #[.int .i64 Dp, .slice D x.length E]] w fun e w' => ∃ v1_ : Value, e = .returned (.agg #[.int .i64 r1, v1_]) ∧ Kd.R gV 127 w' w.heap.size (fun _ => True) v1_ r2 ∧ Below w.heap.size w w' := by
 have xA := Tryz.underlying84;have xB := Tryz.underlying70;have Z := ah.mk M;have xa := ah.mk O;clear M O;have HB := ah.mk (bR w.heap.size w);unfold lY.f at h;have H := h;clear h;replace H := be H; obtain ⟨L, A2, H⟩ := H;simp only [Option.some.injEq, Prod.mk.injEq] at H;obtain ⟨rfl, rfl⟩ := H;go_enter Tryz.func61, Tryz.ntmps61;go_wp2_with (first | ((with_reducible refine aG (N := 1) rfl ?_); refine aN (N := 1) (cs := #[.int .i64 Dp, .slice D x.length E]) (t := 84) ?_; intro xb hg w3 hbox hb; have a := ah.mk hbox; have xc := SZ (w := w) hg; have xx := xc; replace HB := BS (w := w) hb; clear hb hbox hg) | ((with_reducible refine aG (N := 2) rfl ?_); refine aN (N := 2) (cs := #[.int .i64 0, .slice none 0 0]) (t := 70) ?_; intro A hg w4 hbox hb; have m := ah.mk (hbox); have xd := SZ (w := w) hg; have xy := xd; replace HB := BS (w := w) hb; have G := NL a hg; have I := NG a hg; replace a := KB a hb; clear hb hbox hg) | ((with_reducible refine aG (N := 3) rfl ?_); refine aN (N := 3) (cs := #[.int .i64 0, .slice none 0 0]) (t := 70) ?_; intro P hg w5 hbox hb; have y := ah.mk (hbox); have xe := SZ (w := w) hg; have xz := xe; replace HB := BS (w := w) hb; have z := NL a hg; have J := NG a hg; replace a := KB a hb; have u := NL m hg; have K := NG m hg; replace m := KB m hb; clear hb hbox hg; have xC := G.out; have xD := I.out; have xE := z.out; have xF := J.out; obtain ⟨xt, xu, xv, xw⟩ := cz2 a.out; have xG := K.out; have xH := u.out; obtain ⟨xf, xg, xh, xi⟩ := cz2 y.out) | ((with_reducible refine au (f := 111) rfl ?_); refine aK (some 9) Tryz.func111 #[.slice D x.length E] ?_; (with_reducible refine (gT.calls k _ _ x L _ ?s1_ ?s2_ A2.out).mono ?_); (case s1_ => exact Kd.dz Z.out BL); (case s2_ => exact xa.out); rintro e xJ ⟨xI, rfl, xj, hb⟩; refine ⟨_, rfl, ?_⟩; have n0_ := ah.mk (Kd.bD xj (aD BL)); have n1_ := ah.mk (bA (g := xb) (o := .cells #[.int .i64 Dp, .slice D x.length E] 84 (0, 0)) (by (with_reducible repeat (first | refine ay ?_ _ | refine aC ?_ | refine av ?_ _ | apply bX (hp := z.out))); exact a.out) hb); have n2_ := ah.mk (bA (g := A) (o := .cells #[.int .i64 0, .slice none 0 0] 70 (0, 0)) (by (with_reducible repeat (first | refine ay ?_ _ | refine aC ?_ | refine av ?_ _ | apply bX (hp := u.out))); exact m.out) hb); have n3_ := ah.mk (bA (g := P) (o := .cells #[.int .i64 Dp, .slice none 0 0] 70 (0, 0)) (by (with_reducible repeat (first | refine ay ?_ _ | refine aC ?_ | refine av ?_ _)); refine aI (cs := #[.int .i64 0, .slice none 0 0]) ?_ 0 _ rfl; (with_reducible repeat (first | refine ay ?_ _ | refine aC ?_ | refine av ?_ _)); exact y.out) hb); replace HB := BS (w := w) hb; clear a m y; have U := n0_; have a := n1_; have m := n2_; have y := n3_; clear n0_ n1_ n2_ n3_; (try clear hb); (try clear xj); obtain ⟨X, Y, xk⟩ := Kd.bE U.out; subst xk; obtain ⟨xl, xm, xn, xo⟩ := cz2 y.out; obtain ⟨xp, xq, xr, xs⟩ := cz2 m.out));refine bodyPost_ret (results_cell_row rfl _ _ A 70 #[.int .i64 Dp, .slice X L.length Y] (0, 0) _ rfl (by (with_reducible repeat (first | refine ay ?_ _ | refine aC ?_ | refine av ?_ _ | apply aI | apply bX (hp := u.out))); exact m.out; all_goals rfl) Tryz.underlying70 rfl (by kernel_rfl)) rfl ?_;exact ⟨_, EWW, by (with_reducible repeat (first | apply Kd.bL | apply Kd.bn | apply Kd.bJ)); exact Kd.aU (Rf (Rf (Rf (Kd.kg (Kd.kg U.out y.out (by decide)) m.out (by decide))))) (fun _ hk => trivial), BL⟩
def gQ.l0 : Nat → List S84 → List S70 → Int → Option ((List S70))
 | 0, _, _, _ => none
 | k + 1, a, b, c => if c < (a.length : Int) then if 0 ≤ c then (lY.f k ((kE a c).f0) ((kE a c).f1)).bind fun d => if c < (b.length : Int) then gQ.l0 k a (b.set (c : Int).toNat (⟨d.1, d.2⟩ : S70)) (wrap64 (c + 1)) else none else none else some b
def gQ.f (k : Nat) (l0 : List S84) : Option ((List S70)) := if 0 ≤ (l0.length : Int) then (if ((l0.length : Int) : Int).toNat ≤ 8796093022208 then (gQ.l0 k l0 (List.replicate ((l0.length : Int) : Int).toNat z70) 0) else none) else none
theorem gQ.calls (k : Nat) (A0 : Option Addr) (c0 : Nat) (l0 : List S84) (r : List S70) (w : World) (xk : Kd.C k84 w A0 l0.length l0) (xl : l0.length ≤ c0) (h : gQ.f k l0 = some r) :
  Calls Tryz.prog 30 #[.slice A0 l0.length c0] w fun e w' => ∃ v0_ : Value, e = .returned (v0_) ∧ Kd.S k70 70 w' w.heap.size (fun _ => True) v0_ r ∧ Below w.heap.size w w' := by
 have xC := Tryz.underlying84;have xD := Tryz.underlying70;have xx := ah.mk xk;have xG := ah.mk xl;clear xk xl;have HB := ah.mk (bR w.heap.size w);unfold gQ.f at h;have H := h;clear h;replace H := ifP H; obtain ⟨c2, H⟩ := H;have xm := eq_true c2;have xn : decide (0 ≤ (l0.length : Int)) = true := dT c2;clear c2;replace H := ifP H; obtain ⟨c3, H⟩ := H;have xo := eq_true c3;have xp : decide (((l0.length : Int) : Int).toNat ≤ 8796093022208) = true := dT c3;clear c3;obtain ⟨xq, x⟩ : ∃ y_ : List S70, y_ = (List.replicate ((l0.length : Int) : Int).toNat z70) := ⟨_, rfl⟩;replace H : (gQ.l0 k l0 xq 0) = some r := cW x H
 have M := ah.mk x;clear x;have H' := ah.mk H;clear H;go_enter Tryz.func30, Tryz.ntmps30;go_wp2_with (first | ((with_reducible refine aG (N := 7) rfl ?_); refine Kd.BZ k70 _ 70 rfl (N := 7) rfl 36 _ _ rfl (l0.length : Int) rfl rfl Tryz.underlying36 (.agg #[(.int .i64 0), (.slice none 0 0)]) 32 Ci rfl (by decide) (by omega) z70 (ok := fun _ => True) (okp := fun _ => True) (qd _ _ _ z70 (Kd.kI _ _ _ _ _)) (fun _ hk => hk) trivial (OD) (Nat.le_trans (Nat.mul_le_mul_right _ (OD : (l0.length : Int).toNat ≤ 8796093022208)) (by omega)) (bR _ _) (nR _) ?_; intro xr xy O hb hg_ hnew_; clear hg_ hnew_; (first | rw [← M.out] at O | (simp only [Int.reduceToNat] at O; rw [← M.out] at O)); have xf := ah.mk (Kd.ko O (aD BL)); replace HB := BS (w := w) hb; clear hb O))
 go_loopg [4] k (fun kq v4 w' => ∃ (o : List S70) (a : Int), v4 = .int .i64 a ∧ ah (gQ.l0 kq l0 o a = some r) ∧ ah (kq ≤ k) ∧ ah (Kd.S k70 70 w' w.heap.size (fun _ => True) xr o) ∧ ah (Below w.heap.size w w'))
 case atStart => exact ⟨_, _, EQ, H', ⟨nR _⟩, ⟨(SR xf)⟩, ⟨BL⟩⟩
 case round =>
  clear H';(try clear c2);(try clear xm);(try clear xn);(try clear c3);(try clear xo);(try clear xp);obtain ⟨o, a, rfl, HA, xs, m, HB⟩ := hrel
  cases gk with
  | zero => exact absurd HA.out (by simp [gQ.l0])
  | succ k1 =>
   have H := HA.out;clear HA;simp only [gQ.l0] at H;replace H := ifD H; rcases H with ⟨xt, H⟩ | ⟨xt, H⟩
   ·replace H := ifN H; obtain ⟨xE, H⟩ := H;replace H := be H; obtain ⟨⟨D, J⟩, A8, H⟩ := H;dsimp only at H;replace H := ifN H; obtain ⟨xF, H⟩ := H;obtain ⟨xd, y⟩ : ∃ y_ : List S70, y_ = (o.set (a : Int).toNat (⟨D, J⟩ : S70)) := ⟨_, rfl⟩;replace H : (gQ.l0 k1 l0 xd (wrap64 (a + 1))) = some r := cW y H
    have xg := ah.mk y;clear y;have H' := ah.mk H;clear H;have P : 0 ≤ (a : Int) := OD;have U : a < (l0.length : Int) := OD;obtain ⟨xz, Z, xa, xu, z, A, hl141_1, hi141_1⟩ := wE xx.out a P U
    cases xu
    (try replace z := (HB.out.cell (wB w _ z)).trans z);(try replace A := (HB.out.cell (wB w _ A)).trans A);have X := ah.mk hi141_1;have Y := ah.mk hl141_1;clear hi141_1 hl141_1;replace P := eq_true P;replace U := eq_true U;go_wp2_with (first | ((with_reducible refine au (f := 61) rfl ?_); refine aK (some 20) Tryz.func61 #[.agg #[.int .i64 ((kE l0 a).f0), .slice Z ((kE l0 a).f1).length xa]] ?_; (with_reducible refine (lY.calls k1 ((kE l0 a).f0) _ _ ((kE l0 a).f1) D J _ ?s1_ ?s2_ A8.out).mono ?_); (case s1_ => exact CB X); (case s2_ => exact Y.out); rintro e u ⟨E, rfl, xh, hb⟩; refine ⟨_, rfl, ?_⟩; replace m := ah.mk (Kd.lM (SR m) (Kd.gX xh) hb); have G := ah.mk (Kd.bD xh (aD BL)); replace HB := BS (w := w) hb; (try clear hb); (try clear hk); (try clear xh); have xi : 0 ≤ (a : Int) := OD; have xj : (a : Int) < ((o.length : Int) : Int) := OD; obtain ⟨go10, K, L, xe, gl10, cl10, HG10⟩ := Kd.Om m.out (by omega); (first | cases L | (injection L with ea_ en_ ec_; (first | subst ea_ | (injection ea_ with ea_; subst ea_)); subst ec_; clear en_)); have GB10 := ah.mk xe; have GG10 := ah.mk HG10; clear xe gl10 HG10; obtain ⟨_, ce10, hcl10, hM10, hcc10, hfr10, _, _⟩ := Kd.qW m.out z70 (a : Int) xi xj; obtain ⟨ve10_1, rfl, ge10_1⟩ := nX hM10; have xv : u.cell? ⟨go10, (a : Int).toNat * 2, none⟩ = some (.int .i64 ((Oh o a).f0)) := hcc10 0 _ rfl; have xw : u.cell? ⟨go10, (a : Int).toNat * 2 + 1, none⟩ = some (ve10_1) := hcc10 1 _ rfl; have hf10_0 : u.frozen? ⟨go10, (a : Int).toNat * 2, none⟩ = false := hfr10 0; have hf10_1 : u.frozen? ⟨go10, (a : Int).toNat * 2 + 1, none⟩ = false := hfr10 1; clear hcl10 hcc10 hfr10 hM10; replace xi := eq_true xi; replace xj := eq_true xj; have n_ := ah.mk (Kd.jh (ok' := (fun k_ => some k_ ≠ (E : Value).ownBlock)) m.out (fun k_ hk => hk.2)); clear m; have m := n_; clear n_; have HX12 := ah.mk (show Kd.S k70 70 u w.heap.size (fun k_ => ((fun _ => True)) k_ ∧ ¬ ((fun k_ => some k_ = (E : Value).ownBlock)) k_) (.slice (some ⟨go10, 0, none⟩) o.length K) o from (by (with_reducible repeat (first | apply Kd.fZ | apply Kd.dJ | apply Kd.gY)); exact Kd.jh m.out (fun k_ hk => ⟨trivial, fun e_ => hk e_⟩))); obtain ⟨oki12, ce12, hcl12, hM12, hcc12, hfr12, hoki12, hH12⟩ := Kd.qW HX12.out z70 (a : Int) (OD) (by have h_ : (a : Int) < ((o.length : Int) : Int) := OD; first | exact h_ | (have e_ := (Kd.gU m.out).1; omega) | simpa using h_); obtain ⟨ve12_1, rfl, ge12_1⟩ := nX hM12; have HP12 := Kd.Bz hH12 (OD) (by have h_ : (a : Int) < ((o.length : Int) : Int) := OD; first | exact h_ | (have e_ := (Kd.gU m.out).1; omega) | simpa using h_) (seg := [.int .i64 D, E]) (j := 0) (show 2 ≤ 2 from by decide) (x' := (⟨D, J⟩ : S70)) (qd _ _ _ (⟨D, J⟩ : S70) (Kd.aU (Kd.jO rfl (Kd.aU (ok' := fun k_ => ((fun _ => True)) k_ ∧ k_ ≠ go10) (Kd.eH (G.out) (Kd.lI m.out) (by decide)) (fun k_ hk => ⟨trivial, fun e_ => (hk.2) (by rw [e_]; rfl)⟩))) (fun _ h_ => Or.inr (h_)))) (fun _ hk => hk) (fun k_ hk_ => ((Kd.aU (ok' := fun k_ => ((fun _ => True)) k_ ∧ k_ ≠ go10) (Kd.eH (G.out) (Kd.lI m.out) (by decide)) (fun k_ hk => ⟨trivial, fun e_ => (hk.2) (by rw [e_]; rfl)⟩))).1 k_ hk_.symm); have hs12_0 : ∀ (P_ : Program) (w_ : World) (a_ : Addr) (m_ : Mode), (store a_ E m_).run P_ w_ = stored P_ w_ a_ E m_ := fun P_ w_ a_ m_ => run_store P_ w_ a_ _ m_ (by obtain ⟨_, _, e_⟩ := Kd.bE G.out; rw [e_]; rfl); have xb := hcc12 0 _ rfl; (try simp only [show (k70).sz = 2 from rfl, Nat.mul_one, Nat.add_zero] at xb); have hf12_0 := hfr12 0; (try simp only [show (k70).sz = 2 from rfl, Nat.mul_one, Nat.add_zero] at hf12_0); have xc := hcc12 1 _ rfl; (try simp only [show (k70).sz = 2 from rfl, Nat.mul_one, Nat.add_zero] at xc); have hf12_1 := hfr12 1; (try simp only [show (k70).sz = 2 from rfl, Nat.mul_one, Nat.add_zero] at hf12_1); clear hcl12 hcc12 hfr12 hM12 hoki12 hH12) | ((with_reducible refine fI (t := 70) (p := 21) rfl ?_); refine eU (t := 70) (p := 21) (v := ?vo_w13) (w1 := ((u.setCell ⟨go10, (a : Int).toNat * 2, none⟩ (.int .i64 D)).setCell ⟨go10, (a : Int).toNat * 2 + 1, none⟩ (E))) ?hg ?ho ?hn ?hr ?_; (case ho => rfl); (case hg => rfl); (case hn => rfl); (case hr => first | (go_simp; done) | (go_simp; rfl)); intro I hw; have hg : u.grownBy I (some go10) := (by rw [hw]; exact HP12.2); have hp_ : Kd.S k70 70 I w.heap.size (fun _ => True) (.slice (some ⟨go10, 0, none⟩) o.length K) xd := (by rw [hw, xg.out]; exact HP12.1); clear HP12; replace m := ah.mk (hp_); replace HB := ah.mk ((by rw [hw]; exact dx (dx (HB.out) GB10.out) GB10.out : Below w.heap.size w I)); clear G; clear hg hw hp_));go_roundg k1;case measure => have := xs.out; omega
    case rel => exact ⟨_, _, EQ, H', ks xs, ⟨by (with_reducible repeat (first | apply Kd.fZ | apply Kd.dJ | apply Kd.gY)); exact m.out⟩, ⟨BL⟩⟩
   ·obtain rfl := sI H;go_wp2;go_ret;exact ⟨_, EWW, (SR m), BL⟩
end Go.Proofs.YtikmdgmnhbodjaaGreat.PFnExactSolvePuzzle
