/- Walks of functions: what each computes. -/
import Derived.Test.YtdbefmkcondbgaaGreatDoorProg
import Derived.Below
import Derived.Deep.Draws
import Derived.Deep.AppendLies
import Derived.Maps.AppendAt
import Derived.OwnWalk
import Derived.Laws.BytesArg
import Derived.Laws.MakeOwn
import Derived.Laws.OwnMore
import Derived.Deep.OwnRows
import Derived.Tactics
import Derived.Lib.ConvBytes
import Derived.Laws.Slices
import Derived.WalkKit
import Derived.KernelRfl
import Derived.RowKit3
import Derived.Deep.LoopGhost
import Derived.Deep.QuietTactic
import Derived.BigQuiet
import Derived.WideLaws
import Derived.Deep.DeepCutAuto
import Derived.Deep.CutBlock
import Derived.Deep.RegionHeld3
import Derived.Laws.Rows
import Derived.Lib.AppendStr
import Derived.ArgAppend
import Derived.Laws.IdiomCopy
import Derived.OrdersHeld
import Derived.Laws.BitsLemmas
import Derived.RowKit
import Derived.Lib.SliceRun
import Derived.Test.YtdbefmkcondbgaaGreatDoorZHaOnSoW
import Derived.Test.YtdbefmkcondbgaaGreatDoorZHaOnSoShelf
import Derived.Test.YtdbefmkcondbgaaGreatDoorZHaOnSoHandSort
import Derived.Test.YtdbefmkcondbgaaGreatDoorZHaOnSoHandForm
import Derived.Test.YtdbefmkcondbgaaGreatDoorZHaOnSoHandAlone
import Derived.Test.YtdbefmkcondbgaaGreatDoorZHaOnSoHandReach
import Derived.Test.YtdbefmkcondbgaaGreatDoorZHaOnSoHandPut
import Derived.Test.YtdbefmkcondbgaaGreatDoorZHaOnSoHandRepl
namespace Go.Proofs.YtdbefmkcondbgaaGreatDoor.PFnExactHasOneSolution
open Go.RowKit Go.Proofs.Yw.PrintWords Go.Proofs.Yw.PrintLast Go.Proofs.Yw.PrintMore Go.Proofs.YtdbefmkcondbgaaGreatDoor.Sq
attribute [local go_sem] kT kV mF mG jO jP kU kW
set_option linter.unusedVariables false
set_option linter.unusedSimpArgs false
set_option maxHeartbeats 8000000
set_option maxRecDepth 100000
def LG : Option Int → Value
 | none => .nilIface
 | some c => .iface 0 (.int .i64 c)
theorem mZ : LG none = .nilIface := rfl
theorem ng (c : Int) : LG (some c) = .iface 0 (.int .i64 c) := rfl
theorem info3 : (Tryz.prog.info? 3).map (fun i => (i.zero, i.size, i.bytes)) = some (some (.int .i64 0), 1, 8) := by kernel_rfl
theorem Kt : (Tryz.prog.info? 4).map (fun i => (i.zero, i.size, i.bytes)) = some (some (.bool false), 1, 1) := by kernel_rfl
theorem info5 : (Tryz.prog.info? 5).map (fun i => (i.zero, i.size, i.bytes)) = some (some (.int .u8 0), 1, 1) := by kernel_rfl
theorem wL : (Tryz.prog.info? 9).map (fun i => (i.zero, i.size, i.bytes)) = some (some (.string ⟨#[]⟩), 1, 16) := by kernel_rfl
theorem KT : (Tryz.prog.info? 25).map (fun i => (i.zero, i.size, i.bytes)) = some (some (.slice none 0 0), 1, 24) := by kernel_rfl
theorem II : (Tryz.prog.info? 29).map (fun i => (i.zero, i.size, i.bytes)) = some (some (.slice none 0 0), 1, 24) := by kernel_rfl
theorem KU : (Tryz.prog.info? 57).map (fun i => (i.zero, i.size, i.bytes)) = some (some (.agg #[(.string ⟨#[]⟩), (.int .i64 0)]), 2, 24) := by kernel_rfl
theorem KV : (Tryz.prog.info? 75).map (fun i => (i.zero, i.size, i.bytes)) = some (some (.agg #[(.int .i64 0), (.slice none 0 0)]), 2, 32) := by kernel_rfl
theorem vW : (Tryz.prog.info? 98).map (fun i => (i.zero, i.size, i.bytes)) = some (some (.agg #[(.int .i64 0), (.bool false), (.int .i64 0), (.int .i64 0)]), 4, 32) := by kernel_rfl
theorem JN : (Tryz.prog.info? 116).map (fun i => (i.zero, i.size, i.bytes)) = some (some (.agg #[(.int .i64 0), (.string ⟨#[]⟩), (.int .i64 0), (.int .i64 0)]), 4, 40) := by kernel_rfl
structure nU where
 f0 : Int
 f1 : aj
 f2 : Int
 f3 : Int
def LQ : nU := ⟨(0 : Int), (⟨#[]⟩ : aj), (0 : Int), (0 : Int)⟩
def Ci : Kd nU := Kd.iso (Kd.pair (Kd.int .i64) (Kd.pair Kd.string (Kd.pair (Kd.int .i64) (Kd.int .i64)))) (fun x : nU => (x.f0, x.f1, x.f2, x.f3))
theorem GZ {w : World} {x : nU} {cs : List Value} (h : Ci.K w x cs) : cs = [.int .i64 x.f0, .string x.f1, .int .i64 x.f2, .int .i64 x.f3] := by
 obtain ⟨_, _, rfl, rfl, ⟨_, _, rfl, rfl, ⟨_, _, rfl, rfl, rfl⟩⟩⟩ := h;exact rfl
def iy (xs : List nU) (i : Int) : nU := xs.getD i.toNat LQ
theorem FZ {w : World} {A : Option Addr} {n : Nat} {xs : List nU} (h : Kd.C Ci w A n xs) (i : Int) (h0 : 0 ≤ i) (h1 : i < n) : ∃ ad , A = some ad ∧ w.cell? (ad.add (i.toNat * 4)) = some (.int .i64 (iy xs i).f0) ∧ w.cell? ⟨(ad.add (i.toNat * 4)).block, (ad.add (i.toNat * 4)).off + 1, none⟩ = some (.string (iy xs i).f1) ∧ w.cell? ⟨(ad.add (i.toNat * 4)).block, (ad.add (i.toNat * 4)).off + 2, none⟩ = some (.int .i64 (iy xs i).f2) ∧ w.cell? ⟨(ad.add (i.toNat * 4)).block, (ad.add (i.toNat * 4)).off + 3, none⟩ = some (.int .i64 (iy xs i).f3) := by
 obtain ⟨ad, c, e, _, hK, a⟩ := Kd.pK h LQ i h0 h1;have hc : ∀ j u, c[j]? = some u → w.cell? (ad.add (i.toNat * 4 + j)) = some u := a;obtain rfl := GZ hK;exact ⟨ad, e, hc 0 _ rfl, by rw [← jN _ _ 1 (by omega)]; exact hc 1 _ rfl, by rw [← jN _ _ 2 (by omega)]; exact hc 2 _ rfl, by rw [← jN _ _ 3 (by omega)]; exact hc 3 _ rfl⟩
structure S66 where
 f0 : Int
 f1 : (List nU)
def z66 : S66 := ⟨(0 : Int), ([] : List nU)⟩
def k66 : Kd S66 := Kd.iso (Kd.pair (Kd.int .i64) (Kd.slice 111 Ci)) (fun x : S66 => (x.f0, x.f1))
theorem IV {w : World} {x : S66} {cs : List Value} (h : k66.K w x cs) : ∃ A1 c1, cs = [.int .i64 x.f0, .slice A1 x.f1.length c1] ∧ x.f1.length ≤ c1 ∧ Ci.C w A1 x.f1.length x.f1 := by
 obtain ⟨_, _, rfl, rfl, ⟨A1, c1, rfl, l1, g1⟩⟩ := h;exact ⟨A1, c1, rfl, l1, g1⟩
def lu (xs : List S66) (i : Int) : S66 := xs.getD i.toNat z66
theorem Ik {w : World} {A : Option Addr} {n : Nat} {xs : List S66} (h : Kd.C k66 w A n xs) (i : Int) (h0 : 0 ≤ i) (h1 : i < n) : ∃ ad A1 c1, A = some ad ∧ w.cell? (ad.add (i.toNat * 2)) = some (.int .i64 (lu xs i).f0) ∧ w.cell? ⟨(ad.add (i.toNat * 2)).block, (ad.add (i.toNat * 2)).off + 1, none⟩ = some (.slice A1 (lu xs i).f1.length c1) ∧ (lu xs i).f1.length ≤ c1 ∧ Ci.C w A1 (lu xs i).f1.length (lu xs i).f1 := by
 obtain ⟨ad, c, e, _, hK, a⟩ := Kd.pK h z66 i h0 h1;have hc : ∀ j u, c[j]? = some u → w.cell? (ad.add (i.toNat * 2 + j)) = some u := a;obtain ⟨A1, c1, rfl, l1, g1⟩ := IV hK;exact ⟨ad, A1, c1, e, hc 0 _ rfl, by rw [← jN _ _ 1 (by omega)]; exact hc 1 _ rfl, l1, g1⟩
structure S51 where
 f0 : aj
 f1 : Int
def z51 : S51 := ⟨(⟨#[]⟩ : aj), (0 : Int)⟩
def k51 : Kd S51 := Kd.iso (Kd.pair Kd.string (Kd.int .i64)) (fun x : S51 => (x.f0, x.f1))
theorem IQ {w : World} {x : S51} {cs : List Value} (h : k51.K w x cs) : cs = [.string x.f0, .int .i64 x.f1] := by
 obtain ⟨_, _, rfl, rfl, rfl⟩ := h;exact rfl
def mJ (xs : List S51) (i : Int) : S51 := xs.getD i.toNat z51
theorem Ij {w : World} {A : Option Addr} {n : Nat} {xs : List S51} (h : Kd.C k51 w A n xs) (i : Int) (h0 : 0 ≤ i) (h1 : i < n) : ∃ ad , A = some ad ∧ w.cell? (ad.add (i.toNat * 2)) = some (.string (mJ xs i).f0) ∧ w.cell? ⟨(ad.add (i.toNat * 2)).block, (ad.add (i.toNat * 2)).off + 1, none⟩ = some (.int .i64 (mJ xs i).f1) := by
 obtain ⟨ad, c, e, _, hK, a⟩ := Kd.pK h z51 i h0 h1;have hc : ∀ j u, c[j]? = some u → w.cell? (ad.add (i.toNat * 2 + j)) = some u := a;obtain rfl := IQ hK;exact ⟨ad, e, hc 0 _ rfl, by rw [← jN _ _ 1 (by omega)]; exact hc 1 _ rfl⟩
structure dU where
 f0 : Int
 f1 : aj
 f2 : Int
 f3 : Int
def z116 : dU := ⟨(0 : Int), (⟨#[]⟩ : aj), (0 : Int), (0 : Int)⟩
def jV : Kd dU := Kd.iso (Kd.pair (Kd.int .i64) (Kd.pair Kd.string (Kd.pair (Kd.int .i64) (Kd.int .i64)))) (fun x : dU => (x.f0, x.f1, x.f2, x.f3))
theorem He {w : World} {x : dU} {cs : List Value} (h : jV.K w x cs) : cs = [.int .i64 x.f0, .string x.f1, .int .i64 x.f2, .int .i64 x.f3] := by
 obtain ⟨_, _, rfl, rfl, ⟨_, _, rfl, rfl, ⟨_, _, rfl, rfl, rfl⟩⟩⟩ := h;exact rfl
theorem Bj {w : World} {base : Nat} {ok : Nat → Prop} {x : dU} {cs : List Value} (h : jV.M w base ok x cs) : cs = [.int .i64 x.f0, .string x.f1, .int .i64 x.f2, .int .i64 x.f3] := by
 obtain ⟨_, _, rfl, rfl, ⟨_, _, rfl, rfl, ⟨_, _, rfl, rfl, rfl⟩⟩⟩ := h;exact rfl
theorem Ew (w : World) (base : Nat) (ok : Nat → Prop) (x : dU)  : jV.M w base ok x [.int .i64 x.f0, .string x.f1, .int .i64 x.f2, .int .i64 x.f3] := ⟨[.int .i64 x.f0], [.string x.f1, .int .i64 x.f2, .int .i64 x.f3], rfl, rfl, ⟨[.string x.f1], [.int .i64 x.f2, .int .i64 x.f3], rfl, rfl, ⟨[.int .i64 x.f2], [.int .i64 x.f3], rfl, rfl, rfl⟩⟩⟩
def au (xs : List dU) (i : Int) : dU := xs.getD i.toNat z116
theorem kM {w : World} {A : Option Addr} {n : Nat} {xs : List dU} (h : Kd.C jV w A n xs) (i : Int) (h0 : 0 ≤ i) (h1 : i < n) : ∃ ad , A = some ad ∧ w.cell? (ad.add (i.toNat * 4)) = some (.int .i64 (au xs i).f0) ∧ w.cell? ⟨(ad.add (i.toNat * 4)).block, (ad.add (i.toNat * 4)).off + 1, none⟩ = some (.string (au xs i).f1) ∧ w.cell? ⟨(ad.add (i.toNat * 4)).block, (ad.add (i.toNat * 4)).off + 2, none⟩ = some (.int .i64 (au xs i).f2) ∧ w.cell? ⟨(ad.add (i.toNat * 4)).block, (ad.add (i.toNat * 4)).off + 3, none⟩ = some (.int .i64 (au xs i).f3) := by
 obtain ⟨ad, c, e, _, hK, a⟩ := Kd.pK h z116 i h0 h1;have hc : ∀ j u, c[j]? = some u → w.cell? (ad.add (i.toNat * 4 + j)) = some u := a;obtain rfl := He hK;exact ⟨ad, e, hc 0 _ rfl, by rw [← jN _ _ 1 (by omega)]; exact hc 1 _ rfl, by rw [← jN _ _ 2 (by omega)]; exact hc 2 _ rfl, by rw [← jN _ _ 3 (by omega)]; exact hc 3 _ rfl⟩
structure S98 where
 f0 : Int
 f1 : Bool
 f2 : Int
 f3 : Int
def z98 : S98 := ⟨(0 : Int), false, (0 : Int), (0 : Int)⟩
def k98 : Kd S98 := Kd.iso (Kd.pair (Kd.int .i64) (Kd.pair Kd.bool (Kd.pair (Kd.int .i64) (Kd.int .i64)))) (fun x : S98 => (x.f0, x.f1, x.f2, x.f3))
theorem IX {w : World} {x : S98} {cs : List Value} (h : k98.K w x cs) : cs = [.int .i64 x.f0, .bool x.f1, .int .i64 x.f2, .int .i64 x.f3] := by
 obtain ⟨_, _, rfl, rfl, ⟨_, _, rfl, rfl, ⟨_, _, rfl, rfl, rfl⟩⟩⟩ := h;exact rfl
theorem rW (w : World) (base : Nat) (ok : Nat → Prop) (x : S98)  : k98.M w base ok x [.int .i64 x.f0, .bool x.f1, .int .i64 x.f2, .int .i64 x.f3] := ⟨[.int .i64 x.f0], [.bool x.f1, .int .i64 x.f2, .int .i64 x.f3], rfl, rfl, ⟨[.bool x.f1], [.int .i64 x.f2, .int .i64 x.f3], rfl, rfl, ⟨[.int .i64 x.f2], [.int .i64 x.f3], rfl, rfl, rfl⟩⟩⟩
def aU (xs : List S98) (i : Int) : S98 := xs.getD i.toNat z98
theorem qh {w : World} {A : Option Addr} {n : Nat} {xs : List S98} (h : Kd.C k98 w A n xs) (i : Int) (h0 : 0 ≤ i) (h1 : i < n) : ∃ ad , A = some ad ∧ w.cell? (ad.add (i.toNat * 4)) = some (.int .i64 (aU xs i).f0) ∧ w.cell? ⟨(ad.add (i.toNat * 4)).block, (ad.add (i.toNat * 4)).off + 1, none⟩ = some (.bool (aU xs i).f1) ∧ w.cell? ⟨(ad.add (i.toNat * 4)).block, (ad.add (i.toNat * 4)).off + 2, none⟩ = some (.int .i64 (aU xs i).f2) ∧ w.cell? ⟨(ad.add (i.toNat * 4)).block, (ad.add (i.toNat * 4)).off + 3, none⟩ = some (.int .i64 (aU xs i).f3) := by
 obtain ⟨ad, c, e, _, hK, a⟩ := Kd.pK h z98 i h0 h1;have hc : ∀ j u, c[j]? = some u → w.cell? (ad.add (i.toNat * 4 + j)) = some u := a;obtain rfl := IX hK;exact ⟨ad, e, hc 0 _ rfl, by rw [← jN _ _ 1 (by omega)]; exact hc 1 _ rfl, by rw [← jN _ _ 2 (by omega)]; exact hc 2 _ rfl, by rw [← jN _ _ 3 (by omega)]; exact hc 3 _ rfl⟩
structure S75 where
 f0 : Int
 f1 : (List dU)
def z75 : S75 := ⟨(0 : Int), ([] : List dU)⟩
def k75 : Kd S75 := Kd.iso (Kd.pair (Kd.int .i64) (Kd.slice 116 jV)) (fun x : S75 => (x.f0, x.f1))
theorem IW {w : World} {x : S75} {cs : List Value} (h : k75.K w x cs) : ∃ A1 c1, cs = [.int .i64 x.f0, .slice A1 x.f1.length c1] ∧ x.f1.length ≤ c1 ∧ jV.C w A1 x.f1.length x.f1 := by
 obtain ⟨_, _, rfl, rfl, ⟨A1, c1, rfl, l1, g1⟩⟩ := h;exact ⟨A1, c1, rfl, l1, g1⟩
theorem CJ {w : World} {base : Nat} {ok : Nat → Prop} {x : S75} {cs : List Value} (h : k75.M w base ok x cs) : ∃ a, cs = [.int .i64 x.f0, a] ∧ jV.R 116 w base ok a x.f1 := by
 obtain ⟨_, _, rfl, rfl, ⟨a, rfl, g1⟩⟩ := h;exact ⟨a, rfl, g1⟩
theorem Gl (w : World) (base : Nat) (ok : Nat → Prop) (x : S75) {a : Value} (g1 : jV.R 116 w base ok a x.f1) : k75.M w base ok x [.int .i64 x.f0, a] := ⟨[.int .i64 x.f0], [a], rfl, rfl, ⟨a, rfl, g1⟩⟩
def fV (xs : List S75) (i : Int) : S75 := xs.getD i.toNat z75
theorem uZ {w : World} {A : Option Addr} {n : Nat} {xs : List S75} (h : Kd.C k75 w A n xs) (i : Int) (h0 : 0 ≤ i) (h1 : i < n) : ∃ ad A1 c1, A = some ad ∧ w.cell? (ad.add (i.toNat * 2)) = some (.int .i64 (fV xs i).f0) ∧ w.cell? ⟨(ad.add (i.toNat * 2)).block, (ad.add (i.toNat * 2)).off + 1, none⟩ = some (.slice A1 (fV xs i).f1.length c1) ∧ (fV xs i).f1.length ≤ c1 ∧ jV.C w A1 (fV xs i).f1.length (fV xs i).f1 := by
 obtain ⟨ad, c, e, _, hK, a⟩ := Kd.pK h z75 i h0 h1;have hc : ∀ j u, c[j]? = some u → w.cell? (ad.add (i.toNat * 2 + j)) = some u := a;obtain ⟨A1, c1, rfl, l1, g1⟩ := IW hK;exact ⟨ad, A1, c1, e, hc 0 _ rfl, by rw [← jN _ _ 1 (by omega)]; exact hc 1 _ rfl, l1, g1⟩
def nO (xs : List (List aj)) (i : Int) : (List aj) := xs.getD i.toNat ([] : List aj)
theorem Fb {w : World} {A : Option Addr} {n : Nat} {xs : List (List aj)} (h : Kd.C (Kd.slice 9 Kd.string) w A n xs) (i : Int) (h0 : 0 ≤ i) (h1 : i < n) : ∃ ad a m, A = some ad ∧ w.cell? (ad.add i.toNat) = some (.slice a (nO xs i).length m) ∧ (nO xs i).length ≤ m ∧ Kd.string.C w a (nO xs i).length (nO xs i) := by
 obtain ⟨ad, c, e, _, hK, o⟩ := Kd.pK h ([] : List aj) i h0 h1;have hc : ∀ j u, c[j]? = some u → w.cell? (ad.add (i.toNat * 1 + j)) = some u := o;obtain ⟨a, m, rfl, l0, g0⟩ := hK;exact ⟨ad, a, m, e, by have hq := hc 0 _ rfl; rwa [Nat.mul_one, Nat.add_zero] at hq, l0, g0⟩
structure S57 where
 f0 : aj
 f1 : Int
def z57 : S57 := ⟨(⟨#[]⟩ : aj), (0 : Int)⟩
def k57 : Kd S57 := Kd.iso (Kd.pair Kd.string (Kd.int .i64)) (fun x : S57 => (x.f0, x.f1))
theorem IU {w : World} {x : S57} {cs : List Value} (h : k57.K w x cs) : cs = [.string x.f0, .int .i64 x.f1] := by
 obtain ⟨_, _, rfl, rfl, rfl⟩ := h;exact rfl
theorem CG {w : World} {base : Nat} {ok : Nat → Prop} {x : S57} {cs : List Value} (h : k57.M w base ok x cs) : cs = [.string x.f0, .int .i64 x.f1] := by
 obtain ⟨_, _, rfl, rfl, rfl⟩ := h;exact rfl
theorem Gj (w : World) (base : Nat) (ok : Nat → Prop) (x : S57)  : k57.M w base ok x [.string x.f0, .int .i64 x.f1] := ⟨[.string x.f0], [.int .i64 x.f1], rfl, rfl, rfl⟩
def gP (xs : List S57) (i : Int) : S57 := xs.getD i.toNat z57
theorem Aw {w : World} {A : Option Addr} {n : Nat} {xs : List S57} (h : Kd.C k57 w A n xs) (i : Int) (h0 : 0 ≤ i) (h1 : i < n) : ∃ ad , A = some ad ∧ w.cell? (ad.add (i.toNat * 2)) = some (.string (gP xs i).f0) ∧ w.cell? ⟨(ad.add (i.toNat * 2)).block, (ad.add (i.toNat * 2)).off + 1, none⟩ = some (.int .i64 (gP xs i).f1) := by
 obtain ⟨ad, c, e, _, hK, a⟩ := Kd.pK h z57 i h0 h1;have hc : ∀ j u, c[j]? = some u → w.cell? (ad.add (i.toNat * 2 + j)) = some u := a;obtain rfl := IU hK;exact ⟨ad, e, hc 0 _ rfl, by rw [← jN _ _ 1 (by omega)]; exact hc 1 _ rfl⟩
def jL (xs : List (List Int)) (i : Int) : (List Int) := xs.getD i.toNat ([] : List Int)
theorem Fe {w : World} {A : Option Addr} {n : Nat} {xs : List (List Int)} (h : Kd.C (Kd.slice 3 (Kd.int .i64)) w A n xs) (i : Int) (h0 : 0 ≤ i) (h1 : i < n) : ∃ ad a m, A = some ad ∧ w.cell? (ad.add i.toNat) = some (.slice a (jL xs i).length m) ∧ (jL xs i).length ≤ m ∧ (Kd.int .i64).C w a (jL xs i).length (jL xs i) := by
 obtain ⟨ad, c, e, _, hK, o⟩ := Kd.pK h ([] : List Int) i h0 h1;have hc : ∀ j u, c[j]? = some u → w.cell? (ad.add (i.toNat * 1 + j)) = some u := o;obtain ⟨a, m, rfl, l0, g0⟩ := hK;exact ⟨ad, a, m, e, by have hq := hc 0 _ rfl; rwa [Nat.mul_one, Nat.add_zero] at hq, l0, g0⟩
def lS.f (Mc Md : Int) (Me : aj) (a1 : Int) : Option (Int) := if (wrap64 (a1 - (Me.size : Int))) < 0 then some (-1) else some (wrap64 (a1 - (Me.size : Int)))
theorem lS.calls (Mc Md : Int) (Me : aj) (J r : Int) (w : World) (h : lS.f Mc Md Me J = some r) :
  Calls Tryz.prog 15 #[.agg #[.int .i64 Mc, .int .i64 Md, .string Me], .int .i64 J] w fun e w' => e = .returned (.int .i64 r) ∧ Below w.heap.size w w' := by
 have K := Tryz.underlying23;have HB := ah.mk (bR w.heap.size w);unfold lS.f at h;have H := h;clear h;replace H := ah.mk H;go_enter Tryz.func15, Tryz.ntmps15;go_wp2_with (first | ((with_reducible refine aI (N := 2) rfl ?_); refine aZ (N := 2) (cs := #[.int .i64 Mc, .int .i64 Md, .string Me]) (t := 23) ?_; intro E hg G hbox hb; have a := ah.mk hbox; have m := SZ (w := w) hg; have I := m; replace HB := BS (w := w) hb; clear hb hbox hg; obtain ⟨o, u, x, y, z, A⟩ := cz3 a.out; refine dx ?_));refine Hide.mk ?_;replace H := H.out;replace H := ifD H; rcases H with ⟨D, H⟩ | ⟨D, H⟩
 ·obtain rfl := sI H;(try go_wp2);go_ret;exact ⟨EWW, BL⟩
 ·obtain rfl := sI H;(try go_wp2);go_ret;exact ⟨EWW, BL⟩
def lU.f (Mc : Int) (Md : aj) (Me a0_3 a1 : Int) : Option (Int) := if (wrap64 (a1 - (Md.size : Int))) < 0 then some (-1) else some (wrap64 (a1 - (Md.size : Int)))
theorem lU.calls (Mc : Int) (Md : aj) (Me a : Int) (O r : Int) (w : World) (h : lU.f Mc Md Me a O = some r) :
  Calls Tryz.prog 73 #[.agg #[.int .i64 Mc, .string Md, .int .i64 Me, .int .i64 a], .int .i64 O] w fun e w' => e = .returned (.int .i64 r) ∧ Below w.heap.size w w' := by
 have J := Tryz.underlying111;have HB := ah.mk (bR w.heap.size w);unfold lU.f at h;have H := h;clear h;replace H := ah.mk H;go_enter Tryz.func73, Tryz.ntmps73;go_wp2_with (first | ((with_reducible refine aI (N := 2) rfl ?_); refine aZ (N := 2) (cs := #[.int .i64 Mc, .string Md, .int .i64 Me, .int .i64 a]) (t := 111) ?_; intro K hg L hbox hb; have m := ah.mk hbox; have o := SZ (w := w) hg; have M := o; replace HB := BS (w := w) hb; clear hb hbox hg; obtain ⟨u, x, y, z, A, D, E, G⟩ := cz4 m.out; refine dx ?_));refine Hide.mk ?_;replace H := H.out;replace H := ifD H; rcases H with ⟨I, H⟩ | ⟨I, H⟩
 ·obtain rfl := sI H;(try go_wp2);go_ret;exact ⟨EWW, BL⟩
 ·obtain rfl := sI H;(try go_wp2);go_ret;exact ⟨EWW, BL⟩
def gK.l0 : Nat → List nU → Int → Int → Option (Int)
 | 0, _, _, _ => none
 | k + 1, a, b, c => if c < (a.length : Int) then if 0 ≤ c then (lU.f ((iy a c).f0) ((iy a c).f1) ((iy a c).f2) ((iy a c).f3) b).bind fun d => if d < 0 then some (-1) else gK.l0 k a d (wrap64 (c + 1)) else none else some b
def gK.f (k : Nat) (l0 : List nU) (a1 : Int) : Option (Int) := if (wrap64 (a1 - (l0.length : Int))) < 0 then some (-1) else gK.l0 k l0 (wrap64 (a1 - (l0.length : Int))) 0
theorem gK.calls (k : Nat) (Z : Option Addr) (c0 : Nat) (l0 : List nU) (a1 r : Int) (w : World) (E : Kd.C Ci w Z l0.length l0) (G : l0.length ≤ c0) (h : gK.f k l0 a1 = some r) :
  Calls Tryz.prog 46 #[.slice Z l0.length c0, .int .i64 a1] w fun e w' => e = .returned (.int .i64 r) ∧ Below w.heap.size w w' := by
 have O := Tryz.underlying111;have P := ah.mk E;have xd := ah.mk G;clear E G;have HB := ah.mk (bR w.heap.size w);unfold gK.f at h;have H := h;clear h;replace H := ah.mk H;go_enter Tryz.func46, Tryz.ntmps46;replace H := H.out;replace H := ifD H; rcases H with ⟨D, H⟩ | ⟨D, H⟩
 ·obtain rfl := sI H;(try go_wp2);go_ret;exact ⟨EWW, BL⟩
 ·have H' := ah.mk H;clear H;try go_wp2
  go_loopg [1, 5] k (fun kq v1 v5 w' => ∃ (y : Int) (a : Int), v1 = .int .i64 y ∧ v5 = .int .i64 a ∧ ah (gK.l0 kq l0 y a = some r) ∧ ah (kq ≤ k) ∧ ah (Below w.heap.size w w'))
  case atStart => exact ⟨_, _, EQ, EQ, H', ⟨nR _⟩, ⟨BL⟩⟩
  case round =>
   clear H';(try clear D);obtain ⟨y, a, rfl, rfl, HA, I, HB⟩ := hrel
   cases gk with
   | zero => exact absurd HA.out (by simp [gK.l0])
   | succ k1 =>
    have H := HA.out;clear HA;simp only [gK.l0] at H;replace H := ifD H; rcases H with ⟨J, H⟩ | ⟨J, H⟩
    ·replace H := ifN H; obtain ⟨xc, H⟩ := H;replace H := be H; obtain ⟨K, A6, H⟩ := H;have z : 0 ≤ (a : Int) := OD;have A : a < (l0.length : Int) := OD;obtain ⟨U, L, m, o, u, x⟩ := FZ P.out a z A
     cases L
     (try replace m := (HB.out.cell (wB w _ m)).trans m);(try replace o := (HB.out.cell (wB w _ o)).trans o);(try replace u := (HB.out.cell (wB w _ u)).trans u);(try replace x := (HB.out.cell (wB w _ x)).trans x);replace z := eq_true z;replace A := eq_true A;replace H := ah.mk H;go_wp2_with (first | ((with_reducible refine aA (f := 73) rfl ?_); refine bg (some 23) Tryz.func73 #[.agg #[.int .i64 ((iy l0 a).f0), .string ((iy l0 a).f1), .int .i64 ((iy l0 a).f2), .int .i64 ((iy l0 a).f3)], .int .i64 y] ?_; (with_reducible refine (lU.calls ((iy l0 a).f0) ((iy l0 a).f1) ((iy l0 a).f2) ((iy l0 a).f3) y K _ A6.out).mono ?_); rintro e Y ⟨rfl, hb⟩; refine ⟨_, rfl, ?_⟩; replace HB := BS (w := w) hb; (try clear hb); refine dx ?_));refine Hide.mk ?_;replace H := H.out;replace H := ifD H; rcases H with ⟨M, H⟩ | ⟨M, H⟩
     ·obtain rfl := sI H;(try go_wp2);go_ret;exact ⟨EWW, BL⟩
     ·have H' := ah.mk H;clear H;(try go_wp2);go_roundg k1;case measure => have := I.out; omega
      case rel => exact ⟨_, _, EQ, EQ, H', ks I, ⟨BL⟩⟩
    ·obtain rfl := sI H;go_wp2;go_ret;exact ⟨EWW, BL⟩
def lQ.f (k : Nat) (Mc : Int) (l0_1 : List nU) (a1 : Int) : Option (Int) := (gK.f k l0_1 a1).bind fun t106 => if t106 < 0 then some (-1) else some t106
theorem lQ.calls (k : Nat) (Mc : Int) (o : Option Addr) (u : Nat) (a : List nU) (M r : Int) (w : World) (x : Kd.C Ci w o a.length a) (y : a.length ≤ u) (h : lQ.f k Mc a M = some r) :
  Calls Tryz.prog 31 #[.agg #[.int .i64 Mc, .slice o a.length u], .int .i64 M] w fun e w' => e = .returned (.int .i64 r) ∧ Below w.heap.size w w' := by
 have Z := Tryz.underlying66;have z := ah.mk x;have A := ah.mk y;clear x y;have HB := ah.mk (bR w.heap.size w);unfold lQ.f at h;have H := h;clear h;replace H := be H; obtain ⟨K, A3, H⟩ := H;replace H := ah.mk H;go_enter Tryz.func31, Tryz.ntmps31;go_wp2_with (first | ((with_reducible refine aI (N := 2) rfl ?_); refine aZ (N := 2) (cs := #[.int .i64 Mc, .slice o a.length u]) (t := 66) ?_; intro O hg P hbox hb; have m := ah.mk hbox; have D := SZ (w := w) hg; have U := D; replace HB := BS (w := w) hb; clear hb hbox hg; obtain ⟨E, G, I, J⟩ := cz2 m.out) | ((with_reducible refine aA (f := 46) rfl ?_); refine bg (some 8) Tryz.func46 #[.slice o a.length u, .int .i64 M] ?_; (with_reducible refine (gK.calls k _ _ a M K _ ?s1_ ?s2_ A3.out).mono ?_); (case s1_ => exact CB z); (case s2_ => exact A.out); rintro e Y ⟨rfl, hb⟩; refine ⟨_, rfl, ?_⟩; replace m := KB m hb; replace HB := BS (w := w) hb; (try clear hb); refine dx ?_));refine Hide.mk ?_;replace H := H.out;replace H := ifD H; rcases H with ⟨L, H⟩ | ⟨L, H⟩
 ·obtain rfl := sI H;(try go_wp2);go_ret;exact ⟨EWW, BL⟩
 ·obtain rfl := sI H;(try go_wp2);go_ret;exact ⟨EWW, BL⟩
def gJ.l0 : Nat → List S66 → Int → Int → Option (Int)
 | 0, _, _, _ => none
 | k + 1, a, b, c => if c < (a.length : Int) then if 0 ≤ c then (lQ.f k ((lu a c).f0) ((lu a c).f1) b).bind fun d => if d < 0 then some (-1) else gJ.l0 k a d (wrap64 (c + 1)) else none else some b
def gJ.f (k : Nat) (l0 : List S66) (a1 : Int) : Option (Int) := if (wrap64 (a1 - (l0.length : Int))) < 0 then some (-1) else gJ.l0 k l0 (wrap64 (a1 - (l0.length : Int))) 0
theorem gJ.calls (k : Nat) (A0 : Option Addr) (c0 : Nat) (l0 : List S66) (a1 r : Int) (w : World) (I : Kd.C k66 w A0 l0.length l0) (J : l0.length ≤ c0) (h : gJ.f k l0 a1 = some r) :
  Calls Tryz.prog 16 #[.slice A0 l0.length c0, .int .i64 a1] w fun e w' => e = .returned (.int .i64 r) ∧ Below w.heap.size w w' := by
 have xd := Tryz.underlying66;have U := ah.mk I;have xf := ah.mk J;clear I J;have HB := ah.mk (bR w.heap.size w);unfold gJ.f at h;have H := h;clear h;replace H := ah.mk H;go_enter Tryz.func16, Tryz.ntmps16;replace H := H.out;replace H := ifD H; rcases H with ⟨G, H⟩ | ⟨G, H⟩
 ·obtain rfl := sI H;(try go_wp2);go_ret;exact ⟨EWW, BL⟩
 ·have H' := ah.mk H;clear H;try go_wp2
  go_loopg [1, 5] k (fun kq v1 v5 w' => ∃ (u : Int) (a : Int), v1 = .int .i64 u ∧ v5 = .int .i64 a ∧ ah (gJ.l0 kq l0 u a = some r) ∧ ah (kq ≤ k) ∧ ah (Below w.heap.size w w'))
  case atStart => exact ⟨_, _, EQ, EQ, H', ⟨nR _⟩, ⟨BL⟩⟩
  case round =>
   clear H';(try clear G);obtain ⟨u, a, rfl, rfl, HA, K, HB⟩ := hrel
   cases gk with
   | zero => exact absurd HA.out (by simp [gJ.l0])
   | succ k1 =>
    have H := HA.out;clear HA;simp only [gJ.l0] at H;replace H := ifD H; rcases H with ⟨L, H⟩ | ⟨L, H⟩
    ·replace H := ifN H; obtain ⟨xe, H⟩ := H;replace H := be H; obtain ⟨M, A6, H⟩ := H;have x : 0 ≤ (a : Int) := OD;have y : a < (l0.length : Int) := OD;obtain ⟨Y, D, E, O, m, o, hl107_1, hi107_1⟩ := Ik U.out a x y
     cases O
     (try replace m := (HB.out.cell (wB w _ m)).trans m);(try replace o := (HB.out.cell (wB w _ o)).trans o);have z := ah.mk hi107_1;have A := ah.mk hl107_1;clear hi107_1 hl107_1;replace x := eq_true x;replace y := eq_true y;replace H := ah.mk H;go_wp2_with (first | ((with_reducible refine aA (f := 31) rfl ?_); refine bg (some 23) Tryz.func31 #[.agg #[.int .i64 ((lu l0 a).f0), .slice D ((lu l0 a).f1).length E], .int .i64 u] ?_; (with_reducible refine (lQ.calls k1 ((lu l0 a).f0) _ _ ((lu l0 a).f1) u M _ ?s1_ ?s2_ A6.out).mono ?_); (case s1_ => exact CB z); (case s2_ => exact A.out); rintro e Z ⟨rfl, hb⟩; refine ⟨_, rfl, ?_⟩; replace HB := BS (w := w) hb; (try clear hb); refine dx ?_));refine Hide.mk ?_;replace H := H.out;replace H := ifD H; rcases H with ⟨P, H⟩ | ⟨P, H⟩
     ·obtain rfl := sI H;(try go_wp2);go_ret;exact ⟨EWW, BL⟩
     ·have H' := ah.mk H;clear H;(try go_wp2);go_roundg k1;case measure => have := K.out; omega
      case rel => exact ⟨_, _, EQ, EQ, H', ks K, ⟨BL⟩⟩
    ·obtain rfl := sI H;go_wp2;go_ret;exact ⟨EWW, BL⟩
def lT.f (l0 : List Int) (a1 : Int) : Option (Int) := if (wrap64 (a1 - (l0.length : Int))) < 0 then some (-1) else some (wrap64 (a1 - (l0.length : Int)))
theorem lT.calls (u : Option Addr) (x : Nat) (l0 : List Int) (y r : Int) (w : World) (a : Kd.C (Kd.int .i64) w u l0.length l0) (m : l0.length ≤ x) (h : lT.f l0 y = some r) :
  Calls Tryz.prog 17 #[.slice u l0.length x, .int .i64 y] w fun e w' => e = .returned (.int .i64 r) ∧ dQ w w' := by
 have z := ah.mk a;have A := ah.mk m;clear a m;unfold lT.f at h;have H := h;clear h;replace H := ah.mk H;go_enter Tryz.func17, Tryz.ntmps17;replace H := H.out;replace H := ifD H; rcases H with ⟨o, H⟩ | ⟨o, H⟩
 ·obtain rfl := sI H;(try go_wp2);go_ret;exact ⟨EQ, DR⟩
 ·obtain rfl := sI H;(try go_wp2);go_ret;exact ⟨EQ, DR⟩
def kI.f (k : Nat) (Mc Md : Int) (Me : aj) (Mf : List S66) (Mg : List Int) (Mh a1 : Int) : Option (Int) := (lS.f Mc Md Me a1).bind fun t110 => if t110 < 0 then some (-1) else (gJ.f k Mf t110).bind fun t111 => if t111 < 0 then some (-1) else (lT.f Mg t111).bind fun t112 => if t112 < 0 then some (-1) else some t112
theorem kI.calls (k : Nat) (Mc Md : Int) (Me : aj) (A0_3 : Option Addr) (c0_3 : Nat) (Mf : List S66) (A0_4 : Option Addr) (c0_4 : Nat) (Mg : List Int) (Mh a1 r : Int) (w : World) (hr0_3 : Kd.C k66 w A0_3 Mf.length Mf) (hc0_3 : Mf.length ≤ c0_3) (hr0_4 : Kd.C (Kd.int .i64) w A0_4 Mg.length Mg) (hc0_4 : Mg.length ≤ c0_4) (h : kI.f k Mc Md Me Mf Mg Mh a1 = some r) :
  Calls Tryz.prog 4 #[.agg #[.int .i64 Mc, .int .i64 Md, .string Me, .slice A0_3 Mf.length c0_3, .slice A0_4 Mg.length c0_4, .int .i64 Mh], .int .i64 a1] w fun e w' => e = .returned (.int .i64 r) ∧ Below w.heap.size w w' := by
 have xI := Tryz.underlying27;have xJ := Tryz.underlying23;have u := ah.mk hr0_3;have x := ah.mk hc0_3;clear hr0_3 hc0_3;have y := ah.mk hr0_4;have z := ah.mk hc0_4;clear hr0_4 hc0_4;have HB := ah.mk (bR w.heap.size w);unfold kI.f at h;have H := h;clear h;replace H := be H; obtain ⟨m, A3, H⟩ := H;replace H := ah.mk H;go_enter Tryz.func4, Tryz.ntmps4;go_wp2_with (first | ((with_reducible refine aI (N := 2) rfl ?_); refine aZ (N := 2) (cs := #[.int .i64 Mc, .int .i64 Md, .string Me, .slice A0_3 Mf.length c0_3, .slice A0_4 Mg.length c0_4, .int .i64 Mh]) (t := 27) ?_; intro xC hg xD hbox hb; have a := ah.mk hbox; have A := SZ (w := w) hg; have xE := A; replace HB := BS (w := w) hb; clear hb hbox hg; obtain ⟨D, E, G, I, J, K, L, M, O, P, U, Y⟩ := cz6 a.out) | ((with_reducible refine aA (f := 15) rfl ?_); refine bg (some 8) Tryz.func15 #[.agg #[.int .i64 Mc, .int .i64 Md, .string Me], .int .i64 a1] ?_; (with_reducible refine (lS.calls Mc Md Me a1 m _ A3.out).mono ?_); rintro e xF ⟨rfl, hb⟩; refine ⟨_, rfl, ?_⟩; replace a := KB a hb; replace HB := BS (w := w) hb; (try clear hb); obtain ⟨Z, xa, xb, xc, xd, xe, xf, xg, xh, xi, xj, xk⟩ := cz6 a.out; refine dx ?_));refine Hide.mk ?_;replace H := H.out;replace H := ifD H; rcases H with ⟨xy, H⟩ | ⟨xy, H⟩
 ·obtain rfl := sI H;(try go_wp2);go_ret;exact ⟨EWW, BL⟩
 ·replace H := be H; obtain ⟨o, A8, H⟩ := H;replace H := ah.mk H;go_wp2_with (first | ((with_reducible refine aA (f := 16) rfl ?_); refine bg (some 14) Tryz.func16 #[.slice A0_3 Mf.length c0_3, .int .i64 m] ?_; (with_reducible refine (gJ.calls k _ _ Mf m o _ ?s1_ ?s2_ A8.out).mono ?_); (case s1_ => exact CB u); (case s2_ => exact x.out); rintro e xG ⟨rfl, hb⟩; refine ⟨_, rfl, ?_⟩; replace a := KB a hb; replace HB := BS (w := w) hb; (try clear hb); obtain ⟨xl, xm, xn, xo, xp, xq, xr, xs, xt, xu, xv, xw⟩ := cz6 a.out; refine dx ?_));refine Hide.mk ?_;replace H := H.out;replace H := ifD H; rcases H with ⟨xz, H⟩ | ⟨xz, H⟩
  ·obtain rfl := sI H;(try go_wp2);go_ret;exact ⟨EWW, BL⟩
  ·replace H := be H; obtain ⟨xA, xH, H⟩ := H;replace H := ah.mk H;go_wp2_with (first | ((with_reducible refine aA (f := 17) rfl ?_); refine bg (some 20) Tryz.func17 #[.slice A0_4 Mg.length c0_4, .int .i64 o] ?_; (with_reducible refine (lT.calls _ _ Mg o xA _ ?s1_ ?s2_ xH.out).mono ?_); (case s1_ => exact CB y); (case s2_ => exact z.out); rintro e w' ⟨rfl, ⟨nd, rfl⟩⟩; refine ⟨_, rfl, ?_⟩; refine dx ?_));refine Hide.mk ?_;replace H := H.out;replace H := ifD H; rcases H with ⟨xx, H⟩ | ⟨xx, H⟩
   ·obtain rfl := sI H;(try go_wp2);go_ret;exact ⟨EWW, BL⟩
   ·obtain rfl := sI H;(try go_wp2);go_ret;exact ⟨EWW, BL⟩
def jW.f (Mc : aj) (Md a1 : Int) : Option (Int) := if (wrap64 (a1 - (Mc.size : Int))) < 0 then some (-1) else some (wrap64 (a1 - (Mc.size : Int)))
theorem jW.calls (Mc : aj) (Md G r : Int) (w : World) (h : jW.f Mc Md G = some r) :
  Calls Tryz.prog 18 #[.agg #[.string Mc, .int .i64 Md], .int .i64 G] w fun e w' => e = .returned (.int .i64 r) ∧ Below w.heap.size w w' := by
 have I := Tryz.underlying51;have HB := ah.mk (bR w.heap.size w);unfold jW.f at h;have H := h;clear h;replace H := ah.mk H;go_enter Tryz.func18, Tryz.ntmps18;go_wp2_with (first | ((with_reducible refine aI (N := 2) rfl ?_); refine aZ (N := 2) (cs := #[.string Mc, .int .i64 Md]) (t := 51) ?_; intro A hg D hbox hb; have a := ah.mk hbox; have m := SZ (w := w) hg; have E := m; replace HB := BS (w := w) hb; clear hb hbox hg; obtain ⟨o, u, x, y⟩ := cz2 a.out; refine dx ?_));refine Hide.mk ?_;replace H := H.out;replace H := ifD H; rcases H with ⟨z, H⟩ | ⟨z, H⟩
 ·obtain rfl := sI H;(try go_wp2);go_ret;exact ⟨EWW, BL⟩
 ·obtain rfl := sI H;(try go_wp2);go_ret;exact ⟨EWW, BL⟩
def fB.l0 : Nat → List S51 → Int → Int → Option (Int)
 | 0, _, _, _ => none
 | k + 1, a, b, c => if c < (a.length : Int) then if 0 ≤ c then (jW.f ((mJ a c).f0) ((mJ a c).f1) b).bind fun d => if d < 0 then some (-1) else fB.l0 k a d (wrap64 (c + 1)) else none else some b
def fB.f (k : Nat) (l0 : List S51) (a1 : Int) : Option (Int) := if (wrap64 (a1 - (l0.length : Int))) < 0 then some (-1) else fB.l0 k l0 (wrap64 (a1 - (l0.length : Int))) 0
theorem fB.calls (k : Nat) (P : Option Addr) (U : Nat) (l0 : List S51) (Y r : Int) (w : World) (A : Kd.C k51 w P l0.length l0) (D : l0.length ≤ U) (h : fB.f k l0 Y = some r) :
  Calls Tryz.prog 5 #[.slice P l0.length U, .int .i64 Y] w fun e w' => e = .returned (.int .i64 r) ∧ Below w.heap.size w w' := by
 have Z := Tryz.underlying51;have L := ah.mk A;have xb := ah.mk D;clear A D;have HB := ah.mk (bR w.heap.size w);unfold fB.f at h;have H := h;clear h;replace H := ah.mk H;go_enter Tryz.func5, Tryz.ntmps5;replace H := H.out;replace H := ifD H; rcases H with ⟨z, H⟩ | ⟨z, H⟩
 ·obtain rfl := sI H;(try go_wp2);go_ret;exact ⟨EWW, BL⟩
 ·have H' := ah.mk H;clear H;try go_wp2
  go_loopg [1, 5] k (fun kq v1 v5 w' => ∃ (u : Int) (a : Int), v1 = .int .i64 u ∧ v5 = .int .i64 a ∧ ah (fB.l0 kq l0 u a = some r) ∧ ah (kq ≤ k) ∧ ah (Below w.heap.size w w'))
  case atStart => exact ⟨_, _, EQ, EQ, H', ⟨nR _⟩, ⟨BL⟩⟩
  case round =>
   clear H';(try clear z);obtain ⟨u, a, rfl, rfl, HA, E, HB⟩ := hrel
   cases gk with
   | zero => exact absurd HA.out (by simp [fB.l0])
   | succ k1 =>
    have H := HA.out;clear HA;simp only [fB.l0] at H;replace H := ifD H; rcases H with ⟨G, H⟩ | ⟨G, H⟩
    ·replace H := ifN H; obtain ⟨xa, H⟩ := H;replace H := be H; obtain ⟨I, A6, H⟩ := H;have x : 0 ≤ (a : Int) := OD;have y : a < (l0.length : Int) := OD;obtain ⟨M, J, m, o⟩ := Ij L.out a x y
     cases J
     (try replace m := (HB.out.cell (wB w _ m)).trans m);(try replace o := (HB.out.cell (wB w _ o)).trans o);replace x := eq_true x;replace y := eq_true y;replace H := ah.mk H;go_wp2_with (first | ((with_reducible refine aA (f := 18) rfl ?_); refine bg (some 23) Tryz.func18 #[.agg #[.string ((mJ l0 a).f0), .int .i64 ((mJ l0 a).f1)], .int .i64 u] ?_; (with_reducible refine (jW.calls ((mJ l0 a).f0) ((mJ l0 a).f1) u I _ A6.out).mono ?_); rintro e O ⟨rfl, hb⟩; refine ⟨_, rfl, ?_⟩; replace HB := BS (w := w) hb; (try clear hb); refine dx ?_));refine Hide.mk ?_;replace H := H.out;replace H := ifD H; rcases H with ⟨K, H⟩ | ⟨K, H⟩
     ·obtain rfl := sI H;(try go_wp2);go_ret;exact ⟨EWW, BL⟩
     ·have H' := ah.mk H;clear H;(try go_wp2);go_roundg k1;case measure => have := E.out; omega
      case rel => exact ⟨_, _, EQ, EQ, H', ks E, ⟨BL⟩⟩
    ·obtain rfl := sI H;go_wp2;go_ret;exact ⟨EWW, BL⟩
def fG.l0 : Nat → List aj → Int → Int → Option (Int)
 | 0, _, _, _ => none
 | k + 1, a, b, c => if c < (a.length : Int) then (if 0 ≤ c then (if (wrap64 (b - ((gq ByteArray.empty a c).size : Int))) < 0 then some (-1) else (fG.l0 k a (wrap64 (b - ((gq ByteArray.empty a c).size : Int))) (wrap64 (c + 1)))) else none) else some b
def fG.f (k : Nat) (l0 : List aj) (a1 : Int) : Option (Int) := if (wrap64 (a1 - (l0.length : Int))) < 0 then some (-1) else fG.l0 k l0 (wrap64 (a1 - (l0.length : Int))) 0
theorem fG.calls (k : Nat) (L : Option Addr) (M : Nat) (l0 : List aj) (O r : Int) (w : World) (y : Kd.C Kd.string w L l0.length l0) (z : l0.length ≤ M) (h : fG.f k l0 O = some r) :
  Calls Tryz.prog 6 #[.slice L l0.length M, .int .i64 O] w fun e w' => e = .returned (.int .i64 r) ∧ dQ w w' := by
 have J := ah.mk y;have U := ah.mk z;clear y z;unfold fG.f at h;have H := h;clear h;replace H := ah.mk H;go_enter Tryz.func6, Tryz.ntmps6;replace H := H.out;replace H := ifD H; rcases H with ⟨x, H⟩ | ⟨x, H⟩
 ·obtain rfl := sI H;(try go_wp2);go_ret;exact ⟨EQ, DR⟩
 ·have H' := ah.mk H;clear H;try go_wp2
  go_loopg [1, 5] k (fun kq Y Z w' => ∃ (m : Int) (a : Int), Y = .int .i64 m ∧ Z = .int .i64 a ∧ ah (fG.l0 kq l0 m a = some r) ∧ ah (kq ≤ k) ∧ dQ w w')
  case atStart => exact ⟨_, _, EQ, EQ, H', ⟨nR _⟩, DR⟩
  case round =>
   clear H';(try clear x);obtain ⟨m, a, rfl, rfl, HA, A, ⟨m1, rfl⟩⟩ := hrel
   cases gk with
   | zero => exact absurd HA.out (by simp [fG.l0])
   | succ k1 =>
    have H := HA.out;clear HA;simp only [fG.l0] at H;replace H := ifD H; rcases H with ⟨D, H⟩ | ⟨D, H⟩
    ·replace H := ifN H; obtain ⟨P, H⟩ := H;have o : 0 ≤ (a : Int) := OD;have u : a < (l0.length : Int) := OD;obtain ⟨K, E, G⟩ := Kd.jF J.out a o u
     cases E
     replace o := eq_true o;replace u := eq_true u;replace H := ifD H; rcases H with ⟨I, H⟩ | ⟨I, H⟩
     ·obtain rfl := sI H;go_wp2;go_ret;exact ⟨EQ, DR⟩
     ·have H' := ah.mk H;clear H;go_wp2;go_roundg k1;case measure => have := A.out; omega
      case rel => exact ⟨_, _, EQ, EQ, H', ks A, DR⟩
    ·obtain rfl := sI H;go_wp2;go_ret;exact ⟨EQ, DR⟩
def bF.f (a0 a1 a2 : Int) : Option (Bool) := if a0 ≥ a1 then some (decide (a0 ≤ a2)) else some false
theorem bF.calls (a m u : Int) (r : Bool) (w : World) (h : bF.f a m u = some r) :
  Calls Tryz.prog 50 #[.int .i64 a, .int .i64 m, .int .i64 u] w fun e w' => e = .returned (.bool r) ∧ dQ w w' := by
 unfold bF.f at h;have H := h;clear h;replace H := ah.mk H;go_enter Tryz.func50, Tryz.ntmps50;replace H := H.out;by_cases c4 : a ≥ m
 ·rw [if_pos c4] at H;have o : decide (m ≤ a) = true := dT c4;clear c4;obtain rfl := sI H;(try go_wp2);go_ret;exact ⟨EQ, DR⟩
 ·rw [if_neg c4] at H;have o : decide (m ≤ a) = false := dF c4;clear c4;obtain rfl := sI H;(try go_wp2);go_ret;exact ⟨EQ, DR⟩
def bG.l0 : Nat → aj → Int → Option (Bool)
 | 0, _, _ => none
 | k + 1, a, b => if b < (a.size : Int) then if 0 ≤ b then if (bt a b) < 97 then some false else if (bt a b) > 122 then some false else bG.l0 k a (wrap64 (b + 1)) else none else some true
def bG.f (k : Nat) (a0 : aj) : Option (Bool) := (bF.f (a0.size : Int) 1 8).bind fun t117 => if t117 = true then bG.l0 k a0 0 else some false
theorem bG.calls (k : Nat) (m : aj) (r : Bool) (w : World) (h : bG.f k m = some r) :
  Calls Tryz.prog 117 #[.string m] w fun e w' => e = .returned (.bool r) ∧ dQ w w' := by
 unfold bG.f at h;have H := h;clear h;replace H := be H; obtain ⟨z, A2, H⟩ := H;replace H := ah.mk H;go_enter Tryz.func117, Tryz.ntmps117;go_wp2_with (first | ((with_reducible refine aA (f := 50) rfl ?_); refine bg (some 6) Tryz.func50 #[.int .i64 (m.size : Int), .int .i64 1, .int .i64 8] ?_; (with_reducible refine (bF.calls (m.size : Int) 1 8 _ _ A2.out).mono ?_); rintro e w' ⟨rfl, ⟨nd, rfl⟩⟩; refine ⟨_, rfl, ?_⟩; refine dx ?_));refine Hide.mk ?_;replace H := H.out;replace H := ifB H; rcases H with ⟨rfl, H⟩ | ⟨rfl, H⟩
 ·have H' := ah.mk H;clear H;try go_wp2
  go_loopg [3] k (fun kq D w' => ∃ (a : Int), D = .int .i64 a ∧ ah (bG.l0 kq m a = some r) ∧ ah (kq ≤ k) ∧ dQ w w')
  case atStart => exact ⟨_, EQ, H', ⟨nR _⟩, DR⟩
  case round =>
   clear H';obtain ⟨a, rfl, HA, o, ⟨m1, rfl⟩⟩ := hrel
   cases gk with
   | zero => exact absurd HA.out (by simp [bG.l0])
   | succ k1 =>
    have H := HA.out;clear HA;simp only [bG.l0] at H;replace H := ifD H; rcases H with ⟨u, H⟩ | ⟨u, H⟩
    ·replace H := ifN H; obtain ⟨A, H⟩ := H;have E : (0 ≤ (a : Int)) = True := OT;have G : (a < (m.size : Int)) = True := OT;have hx6 := gN m a;replace H := ifD H; rcases H with ⟨x, H⟩ | ⟨x, H⟩
     ·obtain rfl := sI H;go_wp2;go_ret;exact ⟨EQ, DR⟩
     ·have I : (0 ≤ (a : Int)) = True := OT;have J : (a < (m.size : Int)) = True := OT;have hx8 := gN m a;by_cases c9 : (bt m a) > 122
      ·rw [if_pos c9] at H;have y : decide (122 < (bt m a)) = true := dT c9;clear c9;obtain rfl := sI H;go_wp2;go_ret;exact ⟨EQ, DR⟩
      ·rw [if_neg c9] at H;have y : decide (122 < (bt m a)) = false := dF c9;clear c9;have H' := ah.mk H;clear H;go_wp2;go_roundg k1;case measure => have := o.out; omega
       case rel => exact ⟨_, EQ, H', ks o, DR⟩
    ·obtain rfl := sI H;go_wp2;go_ret;exact ⟨EQ, DR⟩
 ·obtain rfl := sI H;(try go_wp2);go_ret;exact ⟨EQ, DR⟩
mutual
def bO.j0 : Nat → Bool → Int → Int → aj → Option (Bool)
 | 0, _, _, _, _ => none
 | k + 1, a, b, c, d => if a = true then some false else bO.l0 k 0 b c d
def bO.l0 : Nat → Int → Int → Int → aj → Option (Bool)
 | 0, _, _, _, _ => none
 | k + 1, a, b, c, d => if a < (d.size : Int) then if 0 ≤ a then if (bt d a) = 35 then bO.l0 k (wrap64 (a + 1)) b c d else if (bt d a) = 46 then bO.l0 k (wrap64 (a + 1)) b c d else some false else none else some true
end
def bO.f (k : Nat) (Mc Md : Int) (Me : aj) : Option (Bool) := (bF.f Mc 2 6).bind fun t131 => if t131 = true then (bF.f Md 2 6).bind fun t132 => if t132 = true then bO.j0 k ((Me.size : Int) != (wrap64 (Mc * Md))) Mc Md Me else bO.j0 k true Mc Md Me else bO.j0 k true Mc Md Me
theorem bO.calls (k : Nat) (Mc Md : Int) (Me : aj) (r : Bool) (w : World) (h : bO.f k Mc Md Me = some r) :
  Calls Tryz.prog 36 #[.agg #[.int .i64 Mc, .int .i64 Md, .string Me]] w fun e w' => e = .returned (.bool r) ∧ Below w.heap.size w w' := by
 have xi := Tryz.underlying34;have HB := ah.mk (bR w.heap.size w);unfold bO.f at h;have H := h;clear h;have z := ah.mk H;clear H;go_enter Tryz.func36, Tryz.ntmps36;go_upto_region 1 with (first | ((with_reducible refine aI (N := 1) rfl ?_); (try (refine jq (by rfl) ?_; dsimp only)); refine aZ (N := 1) (cs := #[.int .i64 Mc, .int .i64 Md, .string Me]) (t := 34) ?_; intro u hg w3 hbox hb; have m := ah.mk hbox; have A := SZ (w := w) hg; have xf := A; replace HB := BS (w := w) hb; clear hb hbox hg));(try simp only [Act.put, List.setIfInBounds_toArray, List.set_cons_zero, List.set_cons_succ])
 go_cut [24] (fun xg wc => ∃ (kq : Nat) (o : Bool), xg = .bool o ∧ ah (bO.j0 kq o Mc Md Me = some r) ∧ ah (kq ≤ k) ∧ ah (wc.heap[u]? = some (.cells #[.int .i64 Mc, .int .i64 Md, .string Me] 34 (0, 0))) ∧ ah (Below w.heap.size w wc))
 case first =>
  have H := z.out;clear z;replace H := be H; obtain ⟨xj, A4, H⟩ := H;obtain ⟨D, E, G, I, J, K⟩ := cz3 m.out;replace H := ah.mk H;go_wp2_with (first | ((with_reducible refine aA (f := 50) rfl ?_); refine bg (some 6) Tryz.func50 #[.int .i64 Mc, .int .i64 2, .int .i64 6] ?_; (with_reducible refine (bF.calls Mc 2 6 _ _ A4.out).mono ?_); rintro e w' ⟨rfl, ⟨nd, rfl⟩⟩; refine ⟨_, rfl, ?_⟩; refine dx ?_));refine Hide.mk ?_;replace H := H.out;replace H := ifB H; rcases H with ⟨rfl, H⟩ | ⟨rfl, H⟩
  ·replace H := be H; obtain ⟨xk, A6, H⟩ := H;replace H := ah.mk H;go_wp2_with (first | (go_at_call 50; (with_reducible refine (bF.calls Md 2 6 _ _ A6.out).mono ?_); rintro e w' ⟨rfl, ⟨nd, rfl⟩⟩; refine dx ?_));refine Hide.mk ?_;replace H := H.out;replace H := ifB H; rcases H with ⟨rfl, H⟩ | ⟨rfl, H⟩
   ·have H' := ah.mk H;clear H;(try go_wp2);go_meet;case rel => exact ⟨_, _, EQ, H', ⟨by first | omega | exact nR _⟩, ⟨BK⟩, ⟨BL⟩⟩
   ·have H' := ah.mk H;clear H;(try go_wp2);go_meet;case rel => exact ⟨_, _, EQ, H', ⟨by first | omega | exact nR _⟩, ⟨BK⟩, ⟨BL⟩⟩
  ·have H' := ah.mk H;clear H;(try go_wp2);go_meet;case rel => exact ⟨_, _, EQ, H', ⟨by first | omega | exact nR _⟩, ⟨BK⟩, ⟨BL⟩⟩
 case rest =>
  clear z;obtain ⟨kq, o, rfl, HA, x, m, HB⟩ := hcut
  cases kq with
  | zero => exact absurd HA.out (by simp [bO.j0])
  | succ xe =>
   have H := HA.out;clear HA;simp only [bO.j0] at H;replace H := ifB H; rcases H with ⟨rfl, H⟩ | ⟨rfl, H⟩
   ·obtain rfl := sI H;go_wp2;go_ret;exact ⟨EWW, BL⟩
   ·have H' := ah.mk H;clear H;go_wp2
    go_loopg [3] xe (fun kq v3 w' => ∃ (a : Int), v3 = .int .i64 a ∧ ah (bO.l0 kq a Mc Md Me = some r) ∧ ah (kq ≤ xe) ∧ ah (w'.heap[u]? = some (.cells #[.int .i64 Mc, .int .i64 Md, .string Me] 34 (0, 0))) ∧ ah (Below w.heap.size w w'))
    case atStart => exact ⟨_, EQ, H', ⟨nR _⟩, ⟨BK⟩, ⟨BL⟩⟩
    case round =>
     clear H';obtain ⟨a, rfl, HA, y, m, HB⟩ := hrel
     cases gk with
     | zero => exact absurd HA.out (by simp [bO.l0])
     | succ k2 =>
      have H := HA.out;clear HA;simp only [bO.l0] at H;obtain ⟨L, M, O, P, U, Y⟩ := cz3 m.out;replace H := ifD H; rcases H with ⟨Z, H⟩ | ⟨Z, H⟩
      ·replace H := ifN H; obtain ⟨xh, H⟩ := H;have xp : (0 ≤ (a : Int)) = True := OT;have xq : (a < (Me.size : Int)) = True := OT;have hx14 := gN Me a;replace H := ifE H; rcases H with ⟨xa, xb, H⟩ | ⟨xr, xa, xb, H⟩
       ·have H' := ah.mk H;clear H;go_wp2;go_roundg k2;case measure => have := x.out; have := y.out; omega
        case rel => exact ⟨_, EQ, H', ⟨by have := x.out; have := y.out; omega⟩, ⟨BK⟩, ⟨BL⟩⟩
       ·have xs : (0 ≤ (a : Int)) = True := OT;have xt : (a < (Me.size : Int)) = True := OT;have hx17 := gN Me a;replace H := ifE H; rcases H with ⟨xc, xd, H⟩ | ⟨xu, xc, xd, H⟩
        ·have H' := ah.mk H;clear H;go_wp2;go_roundg k2;case measure => have := x.out; have := y.out; omega
         case rel => exact ⟨_, EQ, H', ⟨by have := x.out; have := y.out; omega⟩, ⟨BK⟩, ⟨BL⟩⟩
        ·obtain rfl := sI H;go_wp2;go_ret;exact ⟨EWW, BL⟩
      ·obtain rfl := sI H;go_wp2;go_ret;exact ⟨EWW, BL⟩
mutual
def bD.j0 : Nat → Int → Int → Int → Int → Int → Int → aj → Option (Int)
 | 0, _, _, _, _, _, _, _ => none
 | k + 1, a, b, c, d, e, f, g => if 0 ≤ a then if a < (g.size : Int) then if (bt g a) = 46 then if c > 0 then if 0 ≤ (wrap64 (a - b)) then if (wrap64 (a - b)) < (g.size : Int) then bD.j1 k a b c d ((bt g (wrap64 (a - b))) == 46) e f g else none else none else bD.j1 k a b c d false e f g else bD.j1 k a b c d true e f g else none else none
def bD.j1 : Nat → Int → Int → Int → Int → Bool → Int → Int → aj → Option (Int)
 | 0, _, _, _, _, _, _, _, _ => none
 | k + 1, a, b, c, d, e, f, g, h => if e = true then some 0 else bD.l0 k a b c d 0 f g h
def bD.l0 : Nat → Int → Int → Int → Int → Int → Int → Int → aj → Option (Int)
 | 0, _, _, _, _, _, _, _, _ => none
 | k + 1, a, b, c, d, e, f, g, h => if (wrap64 (c + e)) < d then if 0 ≤ (wrap64 (a + (wrap64 (e * b)))) then if (wrap64 (a + (wrap64 (e * b)))) < (h.size : Int) then if (bt h (wrap64 (a + (wrap64 (e * b))))) = 46 then bD.l0 k a b c d (wrap64 (e + 1)) f g h else some e else none else none else some e
end
def bD.f (k : Nat) (Mc Md : Int) (Me : aj) (a1 : Int) (a2 : Bool) : Option (Int) := if Md = 0 then none else if a2 = true then bD.j0 k a1 Md (wrap64 (Int.tdiv a1 Md)) Mc Mc Md Me else bD.j0 k a1 1 (Int.tmod a1 Md) Md Mc Md Me
theorem bD.calls (k : Nat) (Mc Md : Int) (Me : aj) (K : Int) (a2 : Bool) (r : Int) (w : World) (h : bD.f k Mc Md Me K a2 = some r) :
  Calls Tryz.prog 75 #[.agg #[.int .i64 Mc, .int .i64 Md, .string Me], .int .i64 K, .bool a2] w fun e w' => e = .returned (.int .i64 r) ∧ Below w.heap.size w w' := by
 have xN := Tryz.underlying34;have HB := ah.mk (bR w.heap.size w);unfold bD.f at h;have H := h;clear h;by_cases c4 : Md = 0
 ·rw [if_pos c4] at H;exact absurd H (by simp)
 ·rw [if_neg c4] at H;have M : (Md == 0) = false := beq_eq_false_iff_ne.mpr c4;have O : (Md != 0) = true := bne_iff_ne.mpr c4;have Z := ah.mk H;clear H;go_enter Tryz.func75, Tryz.ntmps75;go_upto_if 17 with (first | ((with_reducible refine aI (N := 3) rfl ?_); refine aZ (N := 3) (cs := #[.int .i64 Mc, .int .i64 Md, .string Me]) (t := 34) ?_; intro I hg xE hbox hb; have o := ah.mk hbox; have xa := SZ (w := w) hg; have xF := xa; replace HB := BS (w := w) hb; clear hb hbox hg; obtain ⟨u, x, y, z, A, D⟩ := cz3 o.out));(try simp only [Act.put, List.setIfInBounds_toArray, List.set_cons_zero, List.set_cons_succ])
  go_cut [7, 8, 9] (fun v7 v8 v9 wc => ∃ (kq : Nat) (a : Int) (m : Int) (G : Int), v7 = .int .i64 a ∧ v8 = .int .i64 m ∧ v9 = .int .i64 G ∧ ah (bD.j0 kq K a m G Mc Md Me = some r) ∧ ah (kq ≤ k) ∧ ah (wc.heap[I]? = some (.cells #[.int .i64 Mc, .int .i64 Md, .string Me] 34 (0, 0))) ∧ ah (Below w.heap.size w wc))
  case first =>
   have H := Z.out;clear Z;by_cases c8 : a2 = true
   ·subst c8;rw [if_pos rfl] at H;have H' := ah.mk H;clear H;obtain ⟨xb, xc, xd, xe, xf, xg⟩ := cz3 o.out;go_wp2;go_meet;case rel => exact ⟨_, _, _, _, EQ, EQ, EQ, H', ⟨by first | omega | exact nR _⟩, ⟨BK⟩, ⟨BL⟩⟩
   ·replace c8 := Bool.eq_false_iff.mpr c8;subst c8;rw [if_neg Bool.false_ne_true] at H;have H' := ah.mk H;clear H;go_wp2;go_meet;case rel => exact ⟨_, _, _, _, EQ, EQ, EQ, H', ⟨by first | omega | exact nR _⟩, ⟨BK⟩, ⟨BL⟩⟩
  case rest =>
   clear Z;(try clear c4);(try clear M);(try clear O);(try clear u x y z A D);obtain ⟨kq, a, m, G, rfl, rfl, rfl, HA, P, o, HB⟩ := hcut
   cases kq with
   | zero => exact absurd HA.out (by simp [bD.j0])
   | succ xz =>
    have H := HA.out;clear HA;simp only [bD.j0] at H;have U := ah.mk H;clear H;go_upto_region 8 with (fail)
    go_cut [43] (fun xG wc => ∃ (kq : Nat) (J : Bool), xG = .bool J ∧ ah (bD.j1 kq K a m G J Mc Md Me = some r) ∧ ah (kq ≤ xz) ∧ ah (wc.heap[I]? = some (.cells #[.int .i64 Mc, .int .i64 Md, .string Me] 34 (0, 0))) ∧ ah (Below w.heap.size w wc))
    case first =>
     have H := U.out;clear U;replace H := ifN H; obtain ⟨Y, H⟩ := H;(first | rw [Y] | (simp only [iJ, jm]; rw [Y]) | skip);replace H := ifN H; obtain ⟨xH, H⟩ := H;obtain ⟨xh, xi, xj, xk, xl, xm⟩ := cz3 o.out;have xR : (0 ≤ (K : Int)) = True := OT;have xS : (K < (Me.size : Int)) = True := OT;have hx13 := gN Me K;replace H := ifE H; rcases H with ⟨xn, xo, H⟩ | ⟨xT, xn, xo, H⟩
     ·by_cases L : m > 0
      ·rw [if_pos L] at H;have xp : decide (0 < m) = true := dT L;clear L;obtain ⟨ji16, hji16⟩ : ∃ j_ : Int, (wrap64 (K - a)) = j_ := ⟨_, rfl⟩;replace H : (if 0 ≤ (ji16) then (if (ji16) < (Me.size : Int) then (bD.j1 xz K a m G ((bt Me (ji16)) == 46) Mc Md Me) else (none)) else (none)) = some r := by first | (rw [hji16] at H; exact H) | (simp only [hji16] at H ⊢; exact H)
       have hji16w : (IntKind.i64.wrap (K - a)) = ji16 := (iJ _).trans hji16;replace H := ifN H; obtain ⟨xI, H⟩ := H;replace H := ifN H; obtain ⟨xJ, H⟩ := H;have H' := ah.mk H;clear H;have xU : (0 ≤ ((ji16) : Int)) = True := OT;have xV : ((ji16) < (Me.size : Int)) = True := OT;have hx19 := gN Me (ji16);go_wp2;go_meet;case rel => exact ⟨_, (((bt Me (ji16)) == 46)), (by first | rfl | (simp; done) | (simp only [← hji16] <;> (first | rfl | simp)) | (simp [*]; done)), H', ⟨by have := P.out; first | omega | exact nR _⟩, ⟨BK⟩, ⟨BL⟩⟩
      ·rw [if_neg L] at H;have xp : decide (0 < m) = false := dF L;clear L;have H' := ah.mk H;clear H;go_wp2;go_meet;case rel => exact ⟨_, _, EQ, H', ⟨by have := P.out; first | omega | exact nR _⟩, ⟨BK⟩, ⟨BL⟩⟩
     ·have H' := ah.mk H;clear H;go_wp2;go_meet;case rel => exact ⟨_, _, EQ, H', ⟨by have := P.out; first | omega | exact nR _⟩, ⟨BK⟩, ⟨BL⟩⟩
    case rest =>
     clear U;(try clear c4);(try clear M);(try clear O);(try clear u x y z A D);obtain ⟨kq, J, rfl, HA, xA, o, HB⟩ := hcut
     cases kq with
     | zero => exact absurd HA.out (by simp [bD.j1])
     | succ xB =>
      have H := HA.out;clear HA;simp only [bD.j1] at H;replace H := ifB H; rcases H with ⟨rfl, H⟩ | ⟨rfl, H⟩
      ·obtain rfl := sI H;go_wp2;go_ret;exact ⟨EWW, BL⟩
      ·have H' := ah.mk H;clear H;go_wp2
       go_loopg [10] xB (fun kq xK w' => ∃ (E : Int), xK = .int .i64 E ∧ ah (bD.l0 kq K a m G E Mc Md Me = some r) ∧ ah (kq ≤ xB) ∧ ah (w'.heap[I]? = some (.cells #[.int .i64 Mc, .int .i64 Md, .string Me] 34 (0, 0))) ∧ ah (Below w.heap.size w w'))
       case atStart => exact ⟨_, EQ, H', ⟨nR _⟩, ⟨BK⟩, ⟨BL⟩⟩
       case round =>
        clear H';(try clear c4);(try clear M);(try clear O);(try clear u x y z A D);obtain ⟨E, rfl, HA, xC, o, HB⟩ := hrel
        cases gk with
        | zero => exact absurd HA.out (by simp [bD.l0])
        | succ k3 =>
         have H := HA.out;clear HA;simp only [bD.l0] at H;replace H := ifD H; rcases H with ⟨xq, H⟩ | ⟨xq, H⟩
         ·obtain ⟨ji25, hji25⟩ : ∃ j_ : Int, (wrap64 (K + (wrap64 (E * a)))) = j_ := ⟨_, rfl⟩;replace H : (if 0 ≤ (ji25) then (if (ji25) < (Me.size : Int) then (if (bt Me (ji25)) = 46 then (bD.l0 k3 K a m G (wrap64 (E + 1)) Mc Md Me) else (some E)) else (none)) else (none)) = some r := by first | (rw [hji25] at H; exact H) | (simp only [hji25] at H ⊢; exact H)
          have hji25w : (IntKind.i64.wrap (K + (wrap64 (E * a)))) = ji25 := (iJ _).trans hji25;replace H := ifN H; obtain ⟨xL, H⟩ := H;replace H := ifN H; obtain ⟨xM, H⟩ := H;obtain ⟨xr, xs, xt, xu, xv, xw⟩ := cz3 o.out;have xX : (0 ≤ ((ji25) : Int)) = True := OT;have xY : ((ji25) < (Me.size : Int)) = True := OT;have hx28 := gN Me (ji25);replace H := ifE H; rcases H with ⟨xx, xy, H⟩ | ⟨xZ, xx, xy, H⟩
          ·have H' := ah.mk H;clear H;go_wp2;go_roundg k3;case measure => have := P.out; have := xA.out; have := xC.out; omega
           case rel => exact ⟨_, EQ, H', ⟨by have := P.out; have := xA.out; have := xC.out; omega⟩, ⟨BK⟩, ⟨BL⟩⟩
          ·obtain rfl := sI H;go_wp2;go_ret;exact ⟨by first | rfl | (simp [mZ, ng] <;> rfl) | (simp only [← hji25]; first | rfl | (simp [mZ, ng] <;> rfl)) | (simp [*, mZ, ng] <;> rfl), BL⟩
         ·obtain rfl := sI H;go_wp2;go_ret;exact ⟨EWW, BL⟩
mutual
def fJ.j0 : Nat → List dU → Int → Bool → Int → aj → Int → Int → Option (Bool)
 | 0, _, _, _, _, _, _, _ => none
 | k + 1, a, b, c, d, e, f, g => if c = true then some false else if d = 4 then fJ.j1 k a b true d e f g else fJ.j1 k a b (d == 5) d e f g
def fJ.j1 : Nat → List dU → Int → Bool → Int → aj → Int → Int → Option (Bool)
 | 0, _, _, _, _, _, _, _ => none
 | k + 1, a, b, c, d, e, f, g => if d = 1 then if f = 0 then some (g == 0) else some false else (bF.f f 0 (wrap64 (b - 1))).bind fun h => if h = true then if c = true then (bF.f g 0 (wrap64 (b - 1))).bind fun i => if i = true then some true else some false else if g = 0 then if d = 2 then some true else if 0 ≤ f then if f < (a.length : Int) then some (((au a f).f0) == 1) else none else none else some false else some false
end
def fJ.f (k : Nat) (l0 : List dU) (a1 : Int) : Option (Bool) := if 0 ≤ a1 then if a1 < (l0.length : Int) then (bF.f ((au l0 a1).f0) 1 9).bind fun t120 => if t120 = true then (bG.f k ((au l0 a1).f1)).bind fun t121 => if ((((au l0 a1).f0) == 1) != t121) = true then fJ.j0 k l0 a1 true ((au l0 a1).f0) ((au l0 a1).f1) ((au l0 a1).f2) ((au l0 a1).f3) else if ((au l0 a1).f0) = 1 then fJ.j0 k l0 a1 false ((au l0 a1).f0) ((au l0 a1).f1) ((au l0 a1).f2) ((au l0 a1).f3) else fJ.j0 k l0 a1 (((au l0 a1).f1).toList != ([] : List UInt8)) ((au l0 a1).f0) ((au l0 a1).f1) ((au l0 a1).f2) ((au l0 a1).f3) else fJ.j0 k l0 a1 true ((au l0 a1).f0) ((au l0 a1).f1) ((au l0 a1).f2) ((au l0 a1).f3) else none else none
theorem fJ.calls (k : Nat) (A0 : Option Addr) (c0 : Nat) (l0 : List dU) (a : Int) (r : Bool) (w : World) (yj : Kd.C jV w A0 l0.length l0) (yk : l0.length ≤ c0) (h : fJ.f k l0 a = some r) :
  Calls Tryz.prog 110 #[.slice A0 l0.length c0, .int .i64 a] w fun e w' => e = .returned (.bool r) ∧ Below w.heap.size w w' := by
 have yn := Tryz.underlying116;have xv := ah.mk yj;have yA := ah.mk yk;clear yj yk;have HB := ah.mk (bR w.heap.size w);unfold fJ.f at h;have H := h;clear h;replace H := ifN H; obtain ⟨xw, H⟩ := H;replace H := ifN H; obtain ⟨xx, H⟩ := H;have xy := ah.mk H;clear H;have xe : 0 ≤ (a : Int) := OD;have xf : a < (l0.length : Int) := OD;obtain ⟨xl, yl, xg, xh, xi, xj⟩ := kM xv.out a xe xf
 cases yl
 replace xe := eq_true xe;replace xf := eq_true xf;go_enter Tryz.func110, Tryz.ntmps110;go_upto_region 2 with (first | ((with_reducible refine aI (N := 5) rfl ?_); refine aZ (N := 5) (cs := #[.int .i64 0, .string (⟨#[]⟩ : aj), .int .i64 0, .int .i64 0]) (t := 116) ?_; intro xc hg xs hbox hb; have y := ah.mk hbox; have Y := SZ (w := w) hg; have xt := Y; replace HB := BS (w := w) hb; clear hb hbox hg; obtain ⟨A, D, E, G, I, J, K, L⟩ := cz4 y.out))
 repeat (go_quiet (first | ((with_reducible refine aI (N := 5) rfl ?_); refine aZ (N := 5) (cs := #[.int .i64 0, .string (⟨#[]⟩ : aj), .int .i64 0, .int .i64 0]) (t := 116) ?_; intro xc hg xs hbox hb; have y := ah.mk hbox; have Y := SZ (w := w) hg; have xt := Y; replace HB := BS (w := w) hb; clear hb hbox hg; obtain ⟨A, D, E, G, I, J, K, L⟩ := cz4 y.out)); go_upto_region 2 with (first | ((with_reducible refine aI (N := 5) rfl ?_); refine aZ (N := 5) (cs := #[.int .i64 0, .string (⟨#[]⟩ : aj), .int .i64 0, .int .i64 0]) (t := 116) ?_; intro xc hg xs hbox hb; have y := ah.mk hbox; have Y := SZ (w := w) hg; have xt := Y; replace HB := BS (w := w) hb; clear hb hbox hg; obtain ⟨A, D, E, G, I, J, K, L⟩ := cz4 y.out)))
 (try simp only [Act.put, List.setIfInBounds_toArray, List.set_cons_zero, List.set_cons_succ])
 go_cut [33] (fun yo wc => ∃ (kq : Nat) (xm : Bool), yo = .bool xm ∧ ah (fJ.j0 kq l0 a xm ((au l0 a).f0) ((au l0 a).f1) ((au l0 a).f2) ((au l0 a).f3) = some r) ∧ ah (kq ≤ k) ∧ ah (wc.heap[xc]? = some (.cells #[.int .i64 ((au l0 a).f0), .string ((au l0 a).f1), .int .i64 ((au l0 a).f2), .int .i64 ((au l0 a).f3)] 116 (0, 0))) ∧ ah (Below w.heap.size w wc))
 case first =>
  have H := xy.out;clear xy;replace H := be H; obtain ⟨yv, A8, H⟩ := H;obtain ⟨xz, xA, xB, xC, xD, xE, xF, xG⟩ := cz4 y.out;replace H := ifB H; rcases H with ⟨rfl, H⟩ | ⟨rfl, H⟩
  ·replace H := be H; obtain ⟨z, xd, H⟩ := H;by_cases Z : ((((au l0 a).f0) == 1) != z) = true
   ·rw [if_pos Z] at H;have U : ((((au l0 a).f0) == 1) != z) = true := Z;(try (have xH : decide ((((au l0 a).f0) == 1) = z) = false := by simpa using Z));(try (have xI : ((((au l0 a).f0) == 1) == z) = false := by simpa using Z));(try (have yp : ¬ ((((au l0 a).f0) == 1) = z) := by simpa using Z));clear Z;(first | rw [U] | (simp only [iJ, jm]; rw [U]) | skip);have H' := ah.mk H;clear H
    repeat (go_wp2_with (first | (go_at_call 50; (with_reducible refine (bF.calls ((au l0 a).f0) 1 9 _ _ A8.out).mono ?_); rintro e w' ⟨rfl, ⟨nd, rfl⟩⟩; (try first | exact da | exact DD)) | (go_at_call 117; (with_reducible refine (bG.calls k ((au l0 a).f1) z _ xd.out).mono ?_); rintro e w' ⟨rfl, ⟨nd, rfl⟩⟩; (try first | exact da | exact DD))); go_quiet (first | (go_at_call 50; (with_reducible refine (bF.calls ((au l0 a).f0) 1 9 _ _ A8.out).mono ?_); rintro e w' ⟨rfl, ⟨nd, rfl⟩⟩; (try first | exact da | exact DD)) | (go_at_call 117; (with_reducible refine (bG.calls k ((au l0 a).f1) z _ xd.out).mono ?_); rintro e w' ⟨rfl, ⟨nd, rfl⟩⟩; (try first | exact da | exact DD))))
    go_wp2_with (first | (go_at_call 50; (with_reducible refine (bF.calls ((au l0 a).f0) 1 9 _ _ A8.out).mono ?_); rintro e w' ⟨rfl, ⟨nd, rfl⟩⟩; (try first | exact da | exact DD)) | (go_at_call 117; (with_reducible refine (bG.calls k ((au l0 a).f1) z _ xd.out).mono ?_); rintro e w' ⟨rfl, ⟨nd, rfl⟩⟩; (try first | exact da | exact DD)));go_meet;case rel => exact ⟨_, (true), (by first | rfl | (simp; done) | (simp [*]; rw [Bool.eq_iff_iff]; simp [bne, List.isEmpty_iff]; done) | (simp [*]; done)), H', ⟨by first | omega | exact nR _⟩, ⟨by (with_reducible repeat (first | refine bf ?_ _ | refine aT ?_ | refine aV ?_ _ | apply fM)); exact y.out; all_goals rfl⟩, ⟨BL⟩⟩
   ·rw [if_neg Z] at H;have U : ((((au l0 a).f0) == 1) != z) = false := by simpa using Z
    (try (have xH : decide ((((au l0 a).f0) == 1) = z) = true := by simpa using Z));(try (have xI : ((((au l0 a).f0) == 1) == z) = true := by simpa using Z));clear Z;(first | rw [U] | (simp only [iJ, jm]; rw [U]) | skip);by_cases xn : ((au l0 a).f0) = 1
    ·rw [if_pos xn] at H;have xo : (((au l0 a).f0) == 1) = true := beq_iff_eq.mpr xn;have xJ : (((au l0 a).f0) != 1) = false := bne_eq_false_iff_eq.mpr xn;have cw_ : z = true := by simpa [xo] using U   -- mended
     clear xn;have H' := ah.mk H;clear H
     repeat (go_wp2_with (first | (go_at_call 50; (with_reducible refine (bF.calls ((au l0 a).f0) 1 9 _ _ A8.out).mono ?_); rintro e w' ⟨rfl, ⟨nd, rfl⟩⟩; (try first | exact da | exact DD)) | (go_at_call 117; (with_reducible refine (bG.calls k ((au l0 a).f1) z _ xd.out).mono ?_); rintro e w' ⟨rfl, ⟨nd, rfl⟩⟩; (try first | exact da | exact DD))); go_quiet (first | (go_at_call 50; (with_reducible refine (bF.calls ((au l0 a).f0) 1 9 _ _ A8.out).mono ?_); rintro e w' ⟨rfl, ⟨nd, rfl⟩⟩; (try first | exact da | exact DD)) | (go_at_call 117; (with_reducible refine (bG.calls k ((au l0 a).f1) z _ xd.out).mono ?_); rintro e w' ⟨rfl, ⟨nd, rfl⟩⟩; (try first | exact da | exact DD))))
     go_wp2_with (first | (go_at_call 50; (with_reducible refine (bF.calls ((au l0 a).f0) 1 9 _ _ A8.out).mono ?_); rintro e w' ⟨rfl, ⟨nd, rfl⟩⟩; (try first | exact da | exact DD)) | (go_at_call 117; (with_reducible refine (bG.calls k ((au l0 a).f1) z _ xd.out).mono ?_); rintro e w' ⟨rfl, ⟨nd, rfl⟩⟩; (try first | exact da | exact DD)));go_meet;case rel => exact ⟨_, (false), (by first | rfl | (simp; done) | (simp [*]; rw [Bool.eq_iff_iff]; simp [bne, List.isEmpty_iff]; done) | (simp [*]; done)), H', ⟨by first | omega | exact nR _⟩, ⟨by (with_reducible repeat (first | refine bf ?_ _ | refine aT ?_ | refine aV ?_ _ | apply fM)); exact y.out; all_goals rfl⟩, ⟨BL⟩⟩
    ·rw [if_neg xn] at H;have xo : (((au l0 a).f0) == 1) = false := beq_eq_false_iff_ne.mpr xn;have xJ : (((au l0 a).f0) != 1) = true := bne_iff_ne.mpr xn;have cw_ : z = false := by simpa [xo] using U   -- mended
     have H' := ah.mk H;clear H
     repeat (go_wp2_with (first | (go_at_call 50; (with_reducible refine (bF.calls ((au l0 a).f0) 1 9 _ _ A8.out).mono ?_); rintro e w' ⟨rfl, ⟨nd, rfl⟩⟩; (try first | exact da | exact DD)) | (go_at_call 117; (with_reducible refine (bG.calls k ((au l0 a).f1) z _ xd.out).mono ?_); rintro e w' ⟨rfl, ⟨nd, rfl⟩⟩; (try first | exact da | exact DD))); go_quiet (first | (go_at_call 50; (with_reducible refine (bF.calls ((au l0 a).f0) 1 9 _ _ A8.out).mono ?_); rintro e w' ⟨rfl, ⟨nd, rfl⟩⟩; (try first | exact da | exact DD)) | (go_at_call 117; (with_reducible refine (bG.calls k ((au l0 a).f1) z _ xd.out).mono ?_); rintro e w' ⟨rfl, ⟨nd, rfl⟩⟩; (try first | exact da | exact DD))))
     go_wp2_with (first | (go_at_call 50; (with_reducible refine (bF.calls ((au l0 a).f0) 1 9 _ _ A8.out).mono ?_); rintro e w' ⟨rfl, ⟨nd, rfl⟩⟩; (try first | exact da | exact DD)) | (go_at_call 117; (with_reducible refine (bG.calls k ((au l0 a).f1) z _ xd.out).mono ?_); rintro e w' ⟨rfl, ⟨nd, rfl⟩⟩; (try first | exact da | exact DD)));go_meet;case rel => exact ⟨_, ((((au l0 a).f1).toList != ([] : List UInt8))), (by first | rfl | (simp; done) | (simp [*]; rw [Bool.eq_iff_iff]; simp [bne, List.isEmpty_iff]; done) | (simp [*]; done)), H', ⟨by first | omega | exact nR _⟩, ⟨by (with_reducible repeat (first | refine bf ?_ _ | refine aT ?_ | refine aV ?_ _ | apply fM)); exact y.out; all_goals rfl⟩, ⟨BL⟩⟩
  ·have H' := ah.mk H;clear H
   repeat (go_wp2_with (first | (go_at_call 50; (with_reducible refine (bF.calls ((au l0 a).f0) 1 9 _ _ A8.out).mono ?_); rintro e w' ⟨rfl, ⟨nd, rfl⟩⟩; (try first | exact da | exact DD))); go_quiet (first | (go_at_call 50; (with_reducible refine (bF.calls ((au l0 a).f0) 1 9 _ _ A8.out).mono ?_); rintro e w' ⟨rfl, ⟨nd, rfl⟩⟩; (try first | exact da | exact DD))))
   go_wp2_with (first | (go_at_call 50; (with_reducible refine (bF.calls ((au l0 a).f0) 1 9 _ _ A8.out).mono ?_); rintro e w' ⟨rfl, ⟨nd, rfl⟩⟩; (try first | exact da | exact DD)));go_meet;case rel => exact ⟨_, (true), (by first | rfl | (simp; done) | (simp [*]; rw [Bool.eq_iff_iff]; simp [bne, List.isEmpty_iff]; done) | (simp [*]; done)), H', ⟨by first | omega | exact nR _⟩, ⟨by (with_reducible repeat (first | refine bf ?_ _ | refine aT ?_ | refine aV ?_ _ | apply fM)); exact y.out; all_goals rfl⟩, ⟨BL⟩⟩
 case rest =>
  clear xy;(try clear xw);(try clear xx);(try clear A D E G I J K L);(try clear xg);(try clear xh);(try clear xi);(try clear xj);(try clear xe);(try clear xf);obtain ⟨kq, xm, rfl, HA, ym, y, HB⟩ := hcut
  cases kq with
  | zero => exact absurd HA.out (by simp [fJ.j0])
  | succ yq =>
   have H := HA.out;clear HA;simp only [fJ.j0] at H;replace H := ifB H; rcases H with ⟨rfl, H⟩ | ⟨rfl, H⟩
   ·obtain rfl := sI H;go_wp2
    repeat (go_quiet (fail); try go_wp2)
    go_ret;exact ⟨EWW, BL⟩
   ·have xu := ah.mk H;clear H;go_upto_region 4 with (fail)
    repeat (go_quiet (fail); go_upto_region 4 with (fail))
    go_cut [6] (fun v6 wc => ∃ (kq : Nat) (xp : Bool), v6 = .bool xp ∧ ah (fJ.j1 kq l0 a xp ((au l0 a).f0) ((au l0 a).f1) ((au l0 a).f2) ((au l0 a).f3) = some r) ∧ ah (kq ≤ yq) ∧ ah (wc.heap[xc]? = some (.cells #[.int .i64 ((au l0 a).f0), .string ((au l0 a).f1), .int .i64 ((au l0 a).f2), .int .i64 ((au l0 a).f3)] 116 (0, 0))) ∧ ah (Below w.heap.size w wc))
    case first =>
     have H := xu.out;clear xu;obtain ⟨xK, xL, xM, xN, xO, xP, xQ, xR⟩ := cz4 y.out;replace H := ifE H; rcases H with ⟨xa, xS, H⟩ | ⟨yC, xa, xS, H⟩
     ·(first | rw [xa] | (simp only [iJ, jm]; rw [xa]) | skip);have H' := ah.mk H;clear H;go_wp2
      repeat (go_quiet (fail); try go_wp2)
      go_meet;case rel => exact ⟨_, (true), (by first | rfl | (simp; done) | (simp [*]; rw [Bool.eq_iff_iff]; simp [bne, List.isEmpty_iff]; done) | (simp [*]; done)), H', ⟨by have := ym.out; first | omega | exact nR _⟩, ⟨BK⟩, ⟨BL⟩⟩
     ·(first | rw [xa] | (simp only [iJ, jm]; rw [xa]) | skip);have H' := ah.mk H;clear H;go_wp2
      repeat (go_quiet (fail); try go_wp2)
      go_meet;case rel => exact ⟨_, ((((au l0 a).f0) == 5)), (by first | rfl | (simp; done) | (simp [*]; rw [Bool.eq_iff_iff]; simp [bne, List.isEmpty_iff]; done) | (simp [*]; done)), H', ⟨by have := ym.out; first | omega | exact nR _⟩, ⟨BK⟩, ⟨BL⟩⟩
    case rest =>
     clear xu;(try clear xw);(try clear xx);(try clear A D E G I J K L);(try clear xg);(try clear xh);(try clear xi);(try clear xj);(try clear xe);(try clear xf);obtain ⟨kq, xp, rfl, HA, yw, y, HB⟩ := hcut
     cases kq with
     | zero => exact absurd HA.out (by simp [fJ.j1])
     | succ yx =>
      have H := HA.out;clear HA;simp only [fJ.j1] at H;obtain ⟨xT, xU, xV, xW, xX, xY, xZ, ya⟩ := cz4 y.out;replace H := ifE H; rcases H with ⟨yb, yc, H⟩ | ⟨yE, yb, yc, H⟩
      ·replace H := ifE H; rcases H with ⟨yd, ye, H⟩ | ⟨yF, yd, ye, H⟩
       ·obtain rfl := sI H;go_wp2
        repeat (go_quiet (fail); try go_wp2)
        go_ret;exact ⟨EWW, BL⟩
       ·obtain rfl := sI H;go_wp2
        repeat (go_quiet (fail); try go_wp2)
        go_ret;exact ⟨EWW, BL⟩
      ·replace H := be H; obtain ⟨yy, M, H⟩ := H;replace H := ifB H; rcases H with ⟨rfl, H⟩ | ⟨rfl, H⟩
       ·replace H := ifB H; rcases H with ⟨rfl, H⟩ | ⟨rfl, H⟩
        ·replace H := be H; obtain ⟨yz, xq, H⟩ := H;replace H := ifB H; rcases H with ⟨rfl, H⟩ | ⟨rfl, H⟩
         ·obtain rfl := sI H
          repeat (go_wp2_with (first | (go_at_call 50; (with_reducible refine (bF.calls ((au l0 a).f2) 0 (wrap64 (a - 1)) _ _ M.out).mono ?_); rintro e w' ⟨rfl, ⟨nd, rfl⟩⟩; (try first | exact da | exact DD)) | (go_at_call 50; (with_reducible refine (bF.calls ((au l0 a).f3) 0 (wrap64 (a - 1)) _ _ xq.out).mono ?_); rintro e w' ⟨rfl, ⟨nd, rfl⟩⟩; (try first | exact da | exact DD))); go_quiet (first | (go_at_call 50; (with_reducible refine (bF.calls ((au l0 a).f2) 0 (wrap64 (a - 1)) _ _ M.out).mono ?_); rintro e w' ⟨rfl, ⟨nd, rfl⟩⟩; (try first | exact da | exact DD)) | (go_at_call 50; (with_reducible refine (bF.calls ((au l0 a).f3) 0 (wrap64 (a - 1)) _ _ xq.out).mono ?_); rintro e w' ⟨rfl, ⟨nd, rfl⟩⟩; (try first | exact da | exact DD))))
          go_wp2_with (first | (go_at_call 50; (with_reducible refine (bF.calls ((au l0 a).f2) 0 (wrap64 (a - 1)) _ _ M.out).mono ?_); rintro e w' ⟨rfl, ⟨nd, rfl⟩⟩; (try first | exact da | exact DD)) | (go_at_call 50; (with_reducible refine (bF.calls ((au l0 a).f3) 0 (wrap64 (a - 1)) _ _ xq.out).mono ?_); rintro e w' ⟨rfl, ⟨nd, rfl⟩⟩; (try first | exact da | exact DD)));go_ret;exact ⟨EWW, BL⟩
         ·obtain rfl := sI H
          repeat (go_wp2_with (first | (go_at_call 50; (with_reducible refine (bF.calls ((au l0 a).f2) 0 (wrap64 (a - 1)) _ _ M.out).mono ?_); rintro e w' ⟨rfl, ⟨nd, rfl⟩⟩; (try first | exact da | exact DD)) | (go_at_call 50; (with_reducible refine (bF.calls ((au l0 a).f3) 0 (wrap64 (a - 1)) _ _ xq.out).mono ?_); rintro e w' ⟨rfl, ⟨nd, rfl⟩⟩; (try first | exact da | exact DD))); go_quiet (first | (go_at_call 50; (with_reducible refine (bF.calls ((au l0 a).f2) 0 (wrap64 (a - 1)) _ _ M.out).mono ?_); rintro e w' ⟨rfl, ⟨nd, rfl⟩⟩; (try first | exact da | exact DD)) | (go_at_call 50; (with_reducible refine (bF.calls ((au l0 a).f3) 0 (wrap64 (a - 1)) _ _ xq.out).mono ?_); rintro e w' ⟨rfl, ⟨nd, rfl⟩⟩; (try first | exact da | exact DD))))
          go_wp2_with (first | (go_at_call 50; (with_reducible refine (bF.calls ((au l0 a).f2) 0 (wrap64 (a - 1)) _ _ M.out).mono ?_); rintro e w' ⟨rfl, ⟨nd, rfl⟩⟩; (try first | exact da | exact DD)) | (go_at_call 50; (with_reducible refine (bF.calls ((au l0 a).f3) 0 (wrap64 (a - 1)) _ _ xq.out).mono ?_); rintro e w' ⟨rfl, ⟨nd, rfl⟩⟩; (try first | exact da | exact DD)));go_ret;exact ⟨EWW, BL⟩
        ·replace H := ifE H; rcases H with ⟨yf, yg, H⟩ | ⟨yG, yf, yg, H⟩
         ·replace H := ifE H; rcases H with ⟨yh, yi, H⟩ | ⟨yH, yh, yi, H⟩
          ·obtain rfl := sI H
           repeat (go_wp2_with (first | (go_at_call 50; (with_reducible refine (bF.calls ((au l0 a).f2) 0 (wrap64 (a - 1)) _ _ M.out).mono ?_); rintro e w' ⟨rfl, ⟨nd, rfl⟩⟩; (try first | exact da | exact DD))); go_quiet (first | (go_at_call 50; (with_reducible refine (bF.calls ((au l0 a).f2) 0 (wrap64 (a - 1)) _ _ M.out).mono ?_); rintro e w' ⟨rfl, ⟨nd, rfl⟩⟩; (try first | exact da | exact DD))))
           go_wp2_with (first | (go_at_call 50; (with_reducible refine (bF.calls ((au l0 a).f2) 0 (wrap64 (a - 1)) _ _ M.out).mono ?_); rintro e w' ⟨rfl, ⟨nd, rfl⟩⟩; (try first | exact da | exact DD)));go_ret;exact ⟨EWW, BL⟩
          ·replace H := ifN H; obtain ⟨yr, H⟩ := H;replace H := ifN H; obtain ⟨ys, H⟩ := H;obtain rfl := sI H
           repeat (go_wp2_with (first | (go_at_call 50; (with_reducible refine (bF.calls ((au l0 a).f2) 0 (wrap64 (a - 1)) _ _ M.out).mono ?_); rintro e w' ⟨rfl, ⟨nd, rfl⟩⟩; (try first | exact da | exact DD); have O : 0 ≤ (((au l0 a).f2) : Int) := OD; have P : ((au l0 a).f2) < (l0.length : Int) := OD; obtain ⟨xb, xk, m, o, u, x⟩ := kM xv.out ((au l0 a).f2) O P; obtain rfl : xl = xb := (by injection xk); replace m := (HB.out.cell (wB w _ m)).trans m; replace o := (HB.out.cell (wB w _ o)).trans o; replace u := (HB.out.cell (wB w _ u)).trans u; replace x := (HB.out.cell (wB w _ x)).trans x; replace O := eq_true O; replace P := eq_true P)); go_quiet (first | (go_at_call 50; (with_reducible refine (bF.calls ((au l0 a).f2) 0 (wrap64 (a - 1)) _ _ M.out).mono ?_); rintro e w' ⟨rfl, ⟨nd, rfl⟩⟩; (try first | exact da | exact DD); have O : 0 ≤ (((au l0 a).f2) : Int) := OD; have P : ((au l0 a).f2) < (l0.length : Int) := OD; obtain ⟨xb, xk, m, o, u, x⟩ := kM xv.out ((au l0 a).f2) O P; obtain rfl : xl = xb := (by injection xk); replace m := (HB.out.cell (wB w _ m)).trans m; replace o := (HB.out.cell (wB w _ o)).trans o; replace u := (HB.out.cell (wB w _ u)).trans u; replace x := (HB.out.cell (wB w _ x)).trans x; replace O := eq_true O; replace P := eq_true P)))
           go_wp2_with (first | (go_at_call 50; (with_reducible refine (bF.calls ((au l0 a).f2) 0 (wrap64 (a - 1)) _ _ M.out).mono ?_); rintro e w' ⟨rfl, ⟨nd, rfl⟩⟩; (try first | exact da | exact DD); have O : 0 ≤ (((au l0 a).f2) : Int) := OD; have P : ((au l0 a).f2) < (l0.length : Int) := OD; obtain ⟨xb, xk, m, o, u, x⟩ := kM xv.out ((au l0 a).f2) O P; obtain rfl : xl = xb := (by injection xk); replace m := (HB.out.cell (wB w _ m)).trans m; replace o := (HB.out.cell (wB w _ o)).trans o; replace u := (HB.out.cell (wB w _ u)).trans u; replace x := (HB.out.cell (wB w _ x)).trans x; replace O := eq_true O; replace P := eq_true P));go_ret;exact ⟨EWW, BL⟩
         ·obtain rfl := sI H
          repeat (go_wp2_with (first | (go_at_call 50; (with_reducible refine (bF.calls ((au l0 a).f2) 0 (wrap64 (a - 1)) _ _ M.out).mono ?_); rintro e w' ⟨rfl, ⟨nd, rfl⟩⟩; (try first | exact da | exact DD))); go_quiet (first | (go_at_call 50; (with_reducible refine (bF.calls ((au l0 a).f2) 0 (wrap64 (a - 1)) _ _ M.out).mono ?_); rintro e w' ⟨rfl, ⟨nd, rfl⟩⟩; (try first | exact da | exact DD))))
          go_wp2_with (first | (go_at_call 50; (with_reducible refine (bF.calls ((au l0 a).f2) 0 (wrap64 (a - 1)) _ _ M.out).mono ?_); rintro e w' ⟨rfl, ⟨nd, rfl⟩⟩; (try first | exact da | exact DD)));go_ret;exact ⟨EWW, BL⟩
       ·obtain rfl := sI H
        repeat (go_wp2_with (first | (go_at_call 50; (with_reducible refine (bF.calls ((au l0 a).f2) 0 (wrap64 (a - 1)) _ _ M.out).mono ?_); rintro e w' ⟨rfl, ⟨nd, rfl⟩⟩; (try first | exact da | exact DD))); go_quiet (first | (go_at_call 50; (with_reducible refine (bF.calls ((au l0 a).f2) 0 (wrap64 (a - 1)) _ _ M.out).mono ?_); rintro e w' ⟨rfl, ⟨nd, rfl⟩⟩; (try first | exact da | exact DD))))
        go_wp2_with (first | (go_at_call 50; (with_reducible refine (bF.calls ((au l0 a).f2) 0 (wrap64 (a - 1)) _ _ M.out).mono ?_); rintro e w' ⟨rfl, ⟨nd, rfl⟩⟩; (try first | exact da | exact DD)));go_ret;exact ⟨EWW, BL⟩
mutual
def dS.l0 : Nat → List dU → Int → Option (Bool)
 | 0, _, _ => none
 | k + 1, a, b => if b < (a.length : Int) then dS.j1 k a b (decide ((a.length : Int) ≤ 9)) else dS.j1 k a b false
def dS.j1 : Nat → List dU → Int → Bool → Option (Bool)
 | 0, _, _, _ => none
 | k + 1, a, b, c => if c = true then (fJ.f k a b).bind fun d => if d = true then dS.l0 k a (wrap64 (b + 1)) else some false else (bF.f (a.length : Int) 1 9).bind fun e => some e
end
def dS.f (k : Nat) (l0 : List dU) : Option (Bool) := dS.l0 k l0 0
theorem dS.calls (k : Nat) (G : Option Addr) (I : Nat) (l0 : List dU) (r : Bool) (w : World) (y : Kd.C jV w G l0.length l0) (z : l0.length ≤ I) (h : dS.f k l0 = some r) :
  Calls Tryz.prog 74 #[.slice G l0.length I] w fun e w' => e = .returned (.bool r) ∧ Below w.heap.size w w' := by
 have J := ah.mk y;have K := ah.mk z;clear y z;have HB := ah.mk (bR w.heap.size w);have H : (dS.l0 k l0 0) = some r := h;clear h;have H' := ah.mk H;clear H;go_enter Tryz.func74, Tryz.ntmps74;go_wp2
 go_loopg [3] k (fun kq P w' => ∃ (a : Int), P = .int .i64 a ∧ ah (dS.l0 kq l0 a = some r) ∧ ah (kq ≤ k) ∧ ah (Below w.heap.size w w'))
 case atStart => exact ⟨_, EQ, H', ⟨nR _⟩, ⟨BL⟩⟩
 case round =>
  clear H';obtain ⟨a, rfl, HA, u, HB⟩ := hrel
  cases gk with
  | zero => exact absurd HA.out (by simp [dS.l0])
  | succ k1 =>
   have H := HA.out;clear HA;simp only [dS.l0] at H;have x := ah.mk H;clear H;go_upto_region 2 with (fail)
   go_cut [12] (fun L wc => ∃ (kq : Nat) (o : Bool), L = .bool o ∧ ah (dS.j1 kq l0 a o = some r) ∧ ah (kq ≤ k1) ∧ ah (Below w.heap.size w wc))
   case first =>
    have H := x.out;clear x;replace H := ifD H; rcases H with ⟨m, H⟩ | ⟨m, H⟩
    ·(first | rw [m] | (simp only [iJ, jm]; rw [m]) | skip);have H' := ah.mk H;clear H;go_wp2;go_meet;case rel => exact ⟨_, _, EQ, H', ⟨by have := u.out; first | omega | exact nR _⟩, ⟨BL⟩⟩
    ·(first | rw [m] | (simp only [iJ, jm]; rw [m]) | skip);have H' := ah.mk H;clear H;go_wp2;go_meet;case rel => exact ⟨_, _, EQ, H', ⟨by have := u.out; first | omega | exact nR _⟩, ⟨BL⟩⟩
   case rest =>
    clear x;obtain ⟨kq, o, rfl, HA, A, HB⟩ := hcut
    cases kq with
    | zero => exact absurd HA.out (by simp [dS.j1])
    | succ D =>
     have H := HA.out;clear HA;simp only [dS.j1] at H;replace H := ifB H; rcases H with ⟨rfl, H⟩ | ⟨rfl, H⟩
     ·replace H := be H; obtain ⟨O, U, H⟩ := H;replace H := ah.mk H;go_wp2_with (first | ((with_reducible refine aA (f := 110) rfl ?_); refine bg (some 17) Tryz.func110 #[.slice G l0.length I, .int .i64 a] ?_; (with_reducible refine (fJ.calls D _ _ l0 a _ _ ?s1_ ?s2_ U.out).mono ?_); (case s1_ => exact CB J); (case s2_ => exact K.out); rintro e M ⟨rfl, hb⟩; refine ⟨_, rfl, ?_⟩; replace HB := BS (w := w) hb; (try clear hb); refine dx ?_));refine Hide.mk ?_;replace H := H.out;replace H := ifB H; rcases H with ⟨rfl, H⟩ | ⟨rfl, H⟩
      ·have H' := ah.mk H;clear H;(try go_wp2);go_roundg D;case measure => have := u.out; have := A.out; omega
       case rel => exact ⟨_, EQ, H', kt u A, ⟨BL⟩⟩
      ·obtain rfl := sI H;(try go_wp2);go_ret;exact ⟨EWW, BL⟩
     ·replace H := be H; obtain ⟨E, Y, H⟩ := H;obtain rfl := sI H;go_wp2_with (first | ((with_reducible refine aA (f := 50) rfl ?_); refine bg (some 21) Tryz.func50 #[.int .i64 (l0.length : Int), .int .i64 1, .int .i64 9] ?_; (with_reducible refine (bF.calls (l0.length : Int) 1 9 E _ Y.out).mono ?_); rintro e w' ⟨rfl, ⟨nd, rfl⟩⟩; refine ⟨_, rfl, ?_⟩));go_ret;exact ⟨EWW, BL⟩
def lY.f (k : Nat) (Mc : Int) (l0_1 : List dU) : Option (Bool) := (bF.f Mc 1 99).bind fun t128 => if t128 = true then (dS.f k l0_1).bind fun t129 => some t129 else some false
theorem lY.calls (k : Nat) (Mc : Int) (o : Option Addr) (u : Nat) (a : List dU) (r : Bool) (w : World) (x : Kd.C jV w o a.length a) (y : a.length ≤ u) (h : lY.f k Mc a = some r) :
  Calls Tryz.prog 47 #[.agg #[.int .i64 Mc, .slice o a.length u]] w fun e w' => e = .returned (.bool r) ∧ Below w.heap.size w w' := by
 have U := Tryz.underlying75;have z := ah.mk x;have A := ah.mk y;clear x y;have HB := ah.mk (bR w.heap.size w);unfold lY.f at h;have H := h;clear h;replace H := be H; obtain ⟨Y, A2, H⟩ := H;replace H := ah.mk H;go_enter Tryz.func47, Tryz.ntmps47;go_wp2_with (first | ((with_reducible refine aI (N := 1) rfl ?_); refine aZ (N := 1) (cs := #[.int .i64 Mc, .slice o a.length u]) (t := 75) ?_; intro L hg M hbox hb; have m := ah.mk hbox; have D := SZ (w := w) hg; have O := D; replace HB := BS (w := w) hb; clear hb hbox hg; obtain ⟨E, G, I, J⟩ := cz2 m.out) | ((with_reducible refine aA (f := 50) rfl ?_); refine bg (some 5) Tryz.func50 #[.int .i64 Mc, .int .i64 1, .int .i64 99] ?_; (with_reducible refine (bF.calls Mc 1 99 _ _ A2.out).mono ?_); rintro e w' ⟨rfl, ⟨nd, rfl⟩⟩; refine ⟨_, rfl, ?_⟩; refine dx ?_));refine Hide.mk ?_;replace H := H.out;replace H := ifB H; rcases H with ⟨rfl, H⟩ | ⟨rfl, H⟩
 ·replace H := be H; obtain ⟨K, Z, H⟩ := H;obtain rfl := sI H;(try go_wp2_with (first | (go_at_call 74; (with_reducible refine (dS.calls k _ _ a K _ ?s1_ ?s2_ Z.out).mono ?_); (case s1_ => repeat (first | exact (Kd.eP z.out BL) | (with_reducible refine Kd.ig ?_ _) | (with_reducible refine Kd.iq ?_ _) | (with_reducible refine Kd.jh ?_))); (case s2_ => exact A.out); rintro e P ⟨rfl, hb⟩; replace m := KB m hb; replace HB := BS (w := w) hb; (try clear hb))));go_ret;exact ⟨EWW, BL⟩
 ·obtain rfl := sI H;(try go_wp2);go_ret;exact ⟨EWW, BL⟩
theorem Kr (d : Nat) (w : World) (x0 a : Int) (x1 e : Int) (x2 m : aj) :
  (Op.equalIn (d + 2) 34 (.agg #[.int .i64 x0, .int .i64 x1, .string x2]) (.agg #[.int .i64 a, .int .i64 e, .string m])).run Tryz.prog w = .ok (x0 == a && (x1 == e && (x2.toList == m.toList))) w := by
 refine Fp Tryz.underlying34 (by kernel_rfl) ?_;refine qp (by rfl) (by go_simp; rfl) (by go_simp; rfl) (by go_simp) ?_;refine qp (by rfl) (by go_simp; rfl) (by go_simp; rfl) (by go_simp) ?_;exact AP (by rfl) (by go_simp; rfl) (by go_simp; rfl) (by go_simp)
end Go.Proofs.YtdbefmkcondbgaaGreatDoor.PFnExactHasOneSolution
