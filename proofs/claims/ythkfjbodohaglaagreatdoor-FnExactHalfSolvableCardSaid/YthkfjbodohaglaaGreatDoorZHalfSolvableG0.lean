/- Walks of functions: what each computes. -/
import Derived.Test.YthkfjbodohaglaaGreatDoorProg
import Derived.Below
import Derived.Deep.Draws
import Derived.Deep.AppendLies
import Derived.Maps.AppendAt
import Derived.OwnWalk
import Derived.Laws.BytesArg
import Derived.Laws.MakeOwn
import Derived.Laws.OwnMore
import Derived.Deep.OwnRows
import Derived.Tactics
import Derived.Lib.ConvBytes
import Derived.Laws.Slices
import Derived.WalkKit
import Derived.KernelRfl
import Derived.RowKit3
import Derived.Deep.LoopGhost
import Derived.Deep.QuietTactic
import Derived.BigQuiet
import Derived.WideLaws
import Derived.Deep.DeepCutAuto
import Derived.Deep.CutBlock
import Derived.Deep.RegionHeld3
import Derived.Laws.Rows
import Derived.Lib.AppendStr
import Derived.ArgAppend
import Derived.Laws.IdiomCopy
import Derived.OrdersHeld
import Derived.Laws.BitsLemmas
import Derived.RowKit
import Derived.Test.YthkfjbodohaglaaGreatDoorZHalfSolvableW
import Derived.Test.YthkfjbodohaglaaGreatDoorZHalfSolvableShelf
import Derived.Test.YthkfjbodohaglaaGreatDoorZHalfSolvableHandSort
import Derived.Test.YthkfjbodohaglaaGreatDoorZHalfSolvableHandForm
import Derived.Test.YthkfjbodohaglaaGreatDoorZHalfSolvableHandAlone
import Derived.Test.YthkfjbodohaglaaGreatDoorZHalfSolvableHandReach
import Derived.Test.YthkfjbodohaglaaGreatDoorZHalfSolvableHandRepl
namespace Go.Proofs.YthkfjbodohaglaaGreatDoor.PFnExactHalfSolvable
open Go.RowKit Go.Proofs.YthkfjbodohaglaaGreatDoorW.PrintWords Go.Proofs.YthkfjbodohaglaaGreatDoorW.PrintLast Go.Proofs.YthkfjbodohaglaaGreatDoorW.PrintMore Go.Proofs.YthkfjbodohaglaaGreatDoor.Sq
attribute [local go_sem] kH kJ lY lZ jG jH kI kK
set_option linter.unusedVariables false
set_option linter.unusedSimpArgs false
set_option maxHeartbeats 8000000
set_option maxRecDepth 100000
def Lu : Option Int → Value
 | none => .nilIface
 | some c => .iface 0 (.int .i64 c)
theorem mQ : Lu none = .nilIface := rfl
theorem mR (c : Int) : Lu (some c) = .iface 0 (.int .i64 c) := rfl
theorem info3 : (Tryz.prog.info? 3).map (fun i => (i.zero, i.size, i.bytes)) = some (some (.int .i64 0), 1, 8) := by kernel_rfl
theorem Kl : (Tryz.prog.info? 4).map (fun i => (i.zero, i.size, i.bytes)) = some (some (.bool false), 1, 1) := by kernel_rfl
theorem info5 : (Tryz.prog.info? 5).map (fun i => (i.zero, i.size, i.bytes)) = some (some (.int .u8 0), 1, 1) := by kernel_rfl
theorem EJ : (Tryz.prog.info? 9).map (fun i => (i.zero, i.size, i.bytes)) = some (some (.string ⟨#[]⟩), 1, 16) := by kernel_rfl
theorem KM : (Tryz.prog.info? 25).map (fun i => (i.zero, i.size, i.bytes)) = some (some (.slice none 0 0), 1, 24) := by kernel_rfl
theorem KN : (Tryz.prog.info? 62).map (fun i => (i.zero, i.size, i.bytes)) = some (some (.agg #[(.string ⟨#[]⟩), (.int .i64 0)]), 2, 24) := by kernel_rfl
theorem KO : (Tryz.prog.info? 72).map (fun i => (i.zero, i.size, i.bytes)) = some (some (.agg #[(.int .i64 0), (.slice none 0 0)]), 2, 32) := by kernel_rfl
theorem wO : (Tryz.prog.info? 92).map (fun i => (i.zero, i.size, i.bytes)) = some (some (.agg #[(.int .i64 0), (.bool false), (.int .i64 0), (.int .i64 0)]), 4, 32) := by kernel_rfl
theorem JF : (Tryz.prog.info? 121).map (fun i => (i.zero, i.size, i.bytes)) = some (some (.agg #[(.int .i64 0), (.string ⟨#[]⟩), (.int .i64 0), (.int .i64 0)]), 4, 40) := by kernel_rfl
structure nE where
 f0 : Int
 f1 : ByteArray
 f2 : Int
 f3 : Int
def z124 : nE := ⟨(0 : Int), (⟨#[]⟩ : ByteArray), (0 : Int), (0 : Int)⟩
def CO : Kd nE := Kd.iso (Kd.pair (Kd.int .i64) (Kd.pair Kd.string (Kd.pair (Kd.int .i64) (Kd.int .i64)))) (fun x : nE => (x.f0, x.f1, x.f2, x.f3))
theorem GN {w : World} {x : nE} {cs : List Value} (h : CO.K w x cs) : cs = [.int .i64 x.f0, .string x.f1, .int .i64 x.f2, .int .i64 x.f3] := by
 obtain ⟨_, _, rfl, rfl, ⟨_, _, rfl, rfl, ⟨_, _, rfl, rfl, rfl⟩⟩⟩ := h;exact rfl
def gY (xs : List nE) (i : Int) : nE := xs.getD i.toNat z124
theorem Gb {w : World} {A : Option Addr} {n : Nat} {xs : List nE} (h : Kd.C CO w A n xs) (i : Int) (h0 : 0 ≤ i) (h1 : i < n) : ∃ ad , A = some ad ∧ w.cell? (ad.add (i.toNat * 4)) = some (.int .i64 (gY xs i).f0) ∧ w.cell? ⟨(ad.add (i.toNat * 4)).block, (ad.add (i.toNat * 4)).off + 1, none⟩ = some (.string (gY xs i).f1) ∧ w.cell? ⟨(ad.add (i.toNat * 4)).block, (ad.add (i.toNat * 4)).off + 2, none⟩ = some (.int .i64 (gY xs i).f2) ∧ w.cell? ⟨(ad.add (i.toNat * 4)).block, (ad.add (i.toNat * 4)).off + 3, none⟩ = some (.int .i64 (gY xs i).f3) := by
 obtain ⟨ad, c, e, _, hK, a⟩ := Kd.sW h z124 i h0 h1;have hc : ∀ j u, c[j]? = some u → w.cell? (ad.add (i.toNat * 4 + j)) = some u := a;obtain rfl := GN hK;exact ⟨ad, e, hc 0 _ rfl, by rw [← jF _ _ 1 (by omega)]; exact hc 1 _ rfl, by rw [← jF _ _ 2 (by omega)]; exact hc 2 _ rfl, by rw [← jF _ _ 3 (by omega)]; exact hc 3 _ rfl⟩
structure S81 where
 f0 : Int
 f1 : (List nE)
def z81 : S81 := ⟨(0 : Int), ([] : List nE)⟩
def k81 : Kd S81 := Kd.iso (Kd.pair (Kd.int .i64) (Kd.slice 124 CO)) (fun x : S81 => (x.f0, x.f1))
theorem IC {w : World} {x : S81} {cs : List Value} (h : k81.K w x cs) : ∃ A1 c1, cs = [.int .i64 x.f0, .slice A1 x.f1.length c1] ∧ x.f1.length ≤ c1 ∧ CO.C w A1 x.f1.length x.f1 := by
 obtain ⟨_, _, rfl, rfl, ⟨A1, c1, rfl, l1, g1⟩⟩ := h;exact ⟨A1, c1, rfl, l1, g1⟩
def kR (xs : List S81) (i : Int) : S81 := xs.getD i.toNat z81
theorem Ib {w : World} {A : Option Addr} {n : Nat} {xs : List S81} (h : Kd.C k81 w A n xs) (i : Int) (h0 : 0 ≤ i) (h1 : i < n) : ∃ ad A1 c1, A = some ad ∧ w.cell? (ad.add (i.toNat * 2)) = some (.int .i64 (kR xs i).f0) ∧ w.cell? ⟨(ad.add (i.toNat * 2)).block, (ad.add (i.toNat * 2)).off + 1, none⟩ = some (.slice A1 (kR xs i).f1.length c1) ∧ (kR xs i).f1.length ≤ c1 ∧ CO.C w A1 (kR xs i).f1.length (kR xs i).f1 := by
 obtain ⟨ad, c, e, _, hK, a⟩ := Kd.sW h z81 i h0 h1;have hc : ∀ j u, c[j]? = some u → w.cell? (ad.add (i.toNat * 2 + j)) = some u := a;obtain ⟨A1, c1, rfl, l1, g1⟩ := IC hK;exact ⟨ad, A1, c1, e, hc 0 _ rfl, by rw [← jF _ _ 1 (by omega)]; exact hc 1 _ rfl, l1, g1⟩
structure S57 where
 f0 : ByteArray
 f1 : Int
def z57 : S57 := ⟨(⟨#[]⟩ : ByteArray), (0 : Int)⟩
def k57 : Kd S57 := Kd.iso (Kd.pair Kd.string (Kd.int .i64)) (fun x : S57 => (x.f0, x.f1))
theorem Iy {w : World} {x : S57} {cs : List Value} (h : k57.K w x cs) : cs = [.string x.f0, .int .i64 x.f1] := by
 obtain ⟨_, _, rfl, rfl, rfl⟩ := h;exact rfl
def mq (xs : List S57) (i : Int) : S57 := xs.getD i.toNat z57
theorem Ia {w : World} {A : Option Addr} {n : Nat} {xs : List S57} (h : Kd.C k57 w A n xs) (i : Int) (h0 : 0 ≤ i) (h1 : i < n) : ∃ ad , A = some ad ∧ w.cell? (ad.add (i.toNat * 2)) = some (.string (mq xs i).f0) ∧ w.cell? ⟨(ad.add (i.toNat * 2)).block, (ad.add (i.toNat * 2)).off + 1, none⟩ = some (.int .i64 (mq xs i).f1) := by
 obtain ⟨ad, c, e, _, hK, a⟩ := Kd.sW h z57 i h0 h1;have hc : ∀ j u, c[j]? = some u → w.cell? (ad.add (i.toNat * 2 + j)) = some u := a;obtain rfl := Iy hK;exact ⟨ad, e, hc 0 _ rfl, by rw [← jF _ _ 1 (by omega)]; exact hc 1 _ rfl⟩
structure bQ where
 f0 : Int
 f1 : ByteArray
 f2 : Int
 f3 : Int
def ru : bQ := ⟨(0 : Int), (⟨#[]⟩ : ByteArray), (0 : Int), (0 : Int)⟩
def iH : Kd bQ := Kd.iso (Kd.pair (Kd.int .i64) (Kd.pair Kd.string (Kd.pair (Kd.int .i64) (Kd.int .i64)))) (fun x : bQ => (x.f0, x.f1, x.f2, x.f3))
theorem GL {w : World} {x : bQ} {cs : List Value} (h : iH.K w x cs) : cs = [.int .i64 x.f0, .string x.f1, .int .i64 x.f2, .int .i64 x.f3] := by
 obtain ⟨_, _, rfl, rfl, ⟨_, _, rfl, rfl, ⟨_, _, rfl, rfl, rfl⟩⟩⟩ := h;exact rfl
theorem jZ {w : World} {base : Nat} {ok : Nat → Prop} {x : bQ} {cs : List Value} (h : iH.M w base ok x cs) : cs = [.int .i64 x.f0, .string x.f1, .int .i64 x.f2, .int .i64 x.f3] := by
 obtain ⟨_, _, rfl, rfl, ⟨_, _, rfl, rfl, ⟨_, _, rfl, rfl, rfl⟩⟩⟩ := h;exact rfl
theorem pO (w : World) (base : Nat) (ok : Nat → Prop) (x : bQ)  : iH.M w base ok x [.int .i64 x.f0, .string x.f1, .int .i64 x.f2, .int .i64 x.f3] := ⟨[.int .i64 x.f0], [.string x.f1, .int .i64 x.f2, .int .i64 x.f3], rfl, rfl, ⟨[.string x.f1], [.int .i64 x.f2, .int .i64 x.f3], rfl, rfl, ⟨[.int .i64 x.f2], [.int .i64 x.f3], rfl, rfl, rfl⟩⟩⟩
def aj (xs : List bQ) (i : Int) : bQ := xs.getD i.toNat ru
theorem kD {w : World} {A : Option Addr} {n : Nat} {xs : List bQ} (h : Kd.C iH w A n xs) (i : Int) (h0 : 0 ≤ i) (h1 : i < n) : ∃ ad , A = some ad ∧ w.cell? (ad.add (i.toNat * 4)) = some (.int .i64 (aj xs i).f0) ∧ w.cell? ⟨(ad.add (i.toNat * 4)).block, (ad.add (i.toNat * 4)).off + 1, none⟩ = some (.string (aj xs i).f1) ∧ w.cell? ⟨(ad.add (i.toNat * 4)).block, (ad.add (i.toNat * 4)).off + 2, none⟩ = some (.int .i64 (aj xs i).f2) ∧ w.cell? ⟨(ad.add (i.toNat * 4)).block, (ad.add (i.toNat * 4)).off + 3, none⟩ = some (.int .i64 (aj xs i).f3) := by
 obtain ⟨ad, c, e, _, hK, a⟩ := Kd.sW h ru i h0 h1;have hc : ∀ j u, c[j]? = some u → w.cell? (ad.add (i.toNat * 4 + j)) = some u := a;obtain rfl := GL hK;exact ⟨ad, e, hc 0 _ rfl, by rw [← jF _ _ 1 (by omega)]; exact hc 1 _ rfl, by rw [← jF _ _ 2 (by omega)]; exact hc 2 _ rfl, by rw [← jF _ _ 3 (by omega)]; exact hc 3 _ rfl⟩
structure S72 where
 f0 : Int
 f1 : (List bQ)
def z72 : S72 := ⟨(0 : Int), ([] : List bQ)⟩
def k72 : Kd S72 := Kd.iso (Kd.pair (Kd.int .i64) (Kd.slice 121 iH)) (fun x : S72 => (x.f0, x.f1))
theorem IB {w : World} {x : S72} {cs : List Value} (h : k72.K w x cs) : ∃ A1 c1, cs = [.int .i64 x.f0, .slice A1 x.f1.length c1] ∧ x.f1.length ≤ c1 ∧ iH.C w A1 x.f1.length x.f1 := by
 obtain ⟨_, _, rfl, rfl, ⟨A1, c1, rfl, l1, g1⟩⟩ := h;exact ⟨A1, c1, rfl, l1, g1⟩
theorem rD {w : World} {base : Nat} {ok : Nat → Prop} {x : S72} {cs : List Value} (h : k72.M w base ok x cs) : ∃ a, cs = [.int .i64 x.f0, a] ∧ iH.R 121 w base ok a x.f1 := by
 obtain ⟨_, _, rfl, rfl, ⟨a, rfl, g1⟩⟩ := h;exact ⟨a, rfl, g1⟩
theorem Ba (w : World) (base : Nat) (ok : Nat → Prop) (x : S72) {a : Value} (g1 : iH.R 121 w base ok a x.f1) : k72.M w base ok x [.int .i64 x.f0, a] := ⟨[.int .i64 x.f0], [a], rfl, rfl, ⟨a, rfl, g1⟩⟩
def dY (xs : List S72) (i : Int) : S72 := xs.getD i.toNat z72
theorem wH {w : World} {A : Option Addr} {n : Nat} {xs : List S72} (h : Kd.C k72 w A n xs) (i : Int) (h0 : 0 ≤ i) (h1 : i < n) : ∃ ad A1 c1, A = some ad ∧ w.cell? (ad.add (i.toNat * 2)) = some (.int .i64 (dY xs i).f0) ∧ w.cell? ⟨(ad.add (i.toNat * 2)).block, (ad.add (i.toNat * 2)).off + 1, none⟩ = some (.slice A1 (dY xs i).f1.length c1) ∧ (dY xs i).f1.length ≤ c1 ∧ iH.C w A1 (dY xs i).f1.length (dY xs i).f1 := by
 obtain ⟨ad, c, e, _, hK, a⟩ := Kd.sW h z72 i h0 h1;have hc : ∀ j u, c[j]? = some u → w.cell? (ad.add (i.toNat * 2 + j)) = some u := a;obtain ⟨A1, c1, rfl, l1, g1⟩ := IB hK;exact ⟨ad, A1, c1, e, hc 0 _ rfl, by rw [← jF _ _ 1 (by omega)]; exact hc 1 _ rfl, l1, g1⟩
structure S62 where
 f0 : ByteArray
 f1 : Int
def z62 : S62 := ⟨(⟨#[]⟩ : ByteArray), (0 : Int)⟩
def k62 : Kd S62 := Kd.iso (Kd.pair Kd.string (Kd.int .i64)) (fun x : S62 => (x.f0, x.f1))
theorem Iz {w : World} {x : S62} {cs : List Value} (h : k62.K w x cs) : cs = [.string x.f0, .int .i64 x.f1] := by
 obtain ⟨_, _, rfl, rfl, rfl⟩ := h;exact rfl
theorem oF {w : World} {base : Nat} {ok : Nat → Prop} {x : S62} {cs : List Value} (h : k62.M w base ok x cs) : cs = [.string x.f0, .int .i64 x.f1] := by
 obtain ⟨_, _, rfl, rfl, rfl⟩ := h;exact rfl
theorem AZ (w : World) (base : Nat) (ok : Nat → Prop) (x : S62)  : k62.M w base ok x [.string x.f0, .int .i64 x.f1] := ⟨[.string x.f0], [.int .i64 x.f1], rfl, rfl, rfl⟩
def eT (xs : List S62) (i : Int) : S62 := xs.getD i.toNat z62
theorem Bg {w : World} {A : Option Addr} {n : Nat} {xs : List S62} (h : Kd.C k62 w A n xs) (i : Int) (h0 : 0 ≤ i) (h1 : i < n) : ∃ ad , A = some ad ∧ w.cell? (ad.add (i.toNat * 2)) = some (.string (eT xs i).f0) ∧ w.cell? ⟨(ad.add (i.toNat * 2)).block, (ad.add (i.toNat * 2)).off + 1, none⟩ = some (.int .i64 (eT xs i).f1) := by
 obtain ⟨ad, c, e, _, hK, a⟩ := Kd.sW h z62 i h0 h1;have hc : ∀ j u, c[j]? = some u → w.cell? (ad.add (i.toNat * 2 + j)) = some u := a;obtain rfl := Iz hK;exact ⟨ad, e, hc 0 _ rfl, by rw [← jF _ _ 1 (by omega)]; exact hc 1 _ rfl⟩
structure S92 where
 f0 : Int
 f1 : Bool
 f2 : Int
 f3 : Int
def z92 : S92 := ⟨(0 : Int), false, (0 : Int), (0 : Int)⟩
def k92 : Kd S92 := Kd.iso (Kd.pair (Kd.int .i64) (Kd.pair Kd.bool (Kd.pair (Kd.int .i64) (Kd.int .i64)))) (fun x : S92 => (x.f0, x.f1, x.f2, x.f3))
theorem IE {w : World} {x : S92} {cs : List Value} (h : k92.K w x cs) : cs = [.int .i64 x.f0, .bool x.f1, .int .i64 x.f2, .int .i64 x.f3] := by
 obtain ⟨_, _, rfl, rfl, ⟨_, _, rfl, rfl, ⟨_, _, rfl, rfl, rfl⟩⟩⟩ := h;exact rfl
theorem rE (w : World) (base : Nat) (ok : Nat → Prop) (x : S92)  : k92.M w base ok x [.int .i64 x.f0, .bool x.f1, .int .i64 x.f2, .int .i64 x.f3] := ⟨[.int .i64 x.f0], [.bool x.f1, .int .i64 x.f2, .int .i64 x.f3], rfl, rfl, ⟨[.bool x.f1], [.int .i64 x.f2, .int .i64 x.f3], rfl, rfl, ⟨[.int .i64 x.f2], [.int .i64 x.f3], rfl, rfl, rfl⟩⟩⟩
def aT (xs : List S92) (i : Int) : S92 := xs.getD i.toNat z92
theorem pY {w : World} {A : Option Addr} {n : Nat} {xs : List S92} (h : Kd.C k92 w A n xs) (i : Int) (h0 : 0 ≤ i) (h1 : i < n) : ∃ ad , A = some ad ∧ w.cell? (ad.add (i.toNat * 4)) = some (.int .i64 (aT xs i).f0) ∧ w.cell? ⟨(ad.add (i.toNat * 4)).block, (ad.add (i.toNat * 4)).off + 1, none⟩ = some (.bool (aT xs i).f1) ∧ w.cell? ⟨(ad.add (i.toNat * 4)).block, (ad.add (i.toNat * 4)).off + 2, none⟩ = some (.int .i64 (aT xs i).f2) ∧ w.cell? ⟨(ad.add (i.toNat * 4)).block, (ad.add (i.toNat * 4)).off + 3, none⟩ = some (.int .i64 (aT xs i).f3) := by
 obtain ⟨ad, c, e, _, hK, a⟩ := Kd.sW h z92 i h0 h1;have hc : ∀ j u, c[j]? = some u → w.cell? (ad.add (i.toNat * 4 + j)) = some u := a;obtain rfl := IE hK;exact ⟨ad, e, hc 0 _ rfl, by rw [← jF _ _ 1 (by omega)]; exact hc 1 _ rfl, by rw [← jF _ _ 2 (by omega)]; exact hc 2 _ rfl, by rw [← jF _ _ 3 (by omega)]; exact hc 3 _ rfl⟩
def jB (xs : List (List Int)) (i : Int) : (List Int) := xs.getD i.toNat ([] : List Int)
theorem Fx {w : World} {A : Option Addr} {n : Nat} {xs : List (List Int)} (h : Kd.C (Kd.slice 3 (Kd.int .i64)) w A n xs) (i : Int) (h0 : 0 ≤ i) (h1 : i < n) : ∃ ad a l, A = some ad ∧ w.cell? (ad.add i.toNat) = some (.slice a (jB xs i).length l) ∧ (jB xs i).length ≤ l ∧ (Kd.int .i64).C w a (jB xs i).length (jB xs i) := by
 obtain ⟨ad, c, e, _, hK, m⟩ := Kd.sW h ([] : List Int) i h0 h1;have hc : ∀ j u, c[j]? = some u → w.cell? (ad.add (i.toNat * 1 + j)) = some u := m;obtain ⟨a, l, rfl, l0, g0⟩ := hK;exact ⟨ad, a, l, e, by have hq := hc 0 _ rfl; rwa [Nat.mul_one, Nat.add_zero] at hq, l0, g0⟩
def lG.f (LU LV : Int) (LW : ByteArray) (a1 : Int) : Option (Int) := if (wrap64 (a1 - (LW.size : Int))) < 0 then (some (-1)) else (some (wrap64 (a1 - (LW.size : Int))))
theorem lG.calls (LU LV : Int) (LW : ByteArray) (I r : Int) (w : World) (h : lG.f LU LV LW I = some r) :
  Calls Tryz.prog 27 #[.agg #[.int .i64 LU, .int .i64 LV, .string LW], .int .i64 I] w fun e w' => e = .returned (.int .i64 r) ∧ Below w.heap.size w w' := by
 have J := Tryz.underlying23;have HB := ah.mk (Below.refl w.heap.size w);unfold lG.f at h;have H := h;clear h;replace H := ah.mk H;go_enter Tryz.func27, Tryz.ntmps27;go_wp2_with (first | ((with_reducible refine aJ (N := 2) rfl ?_); refine bf (N := 2) (cs := #[.int .i64 LU, .int .i64 LV, .string LW]) (t := 23) ?_; intro D hg E hbox hb; have a := ah.mk hbox; have l := SZ (w := w) hg; have G := l; replace HB := BS (w := w) hb; clear hb hbox hg; obtain ⟨m, o, u, x, y, z⟩ := cz3 a.out; refine cB ?_));refine Hide.mk ?_;replace H := H.out;replace H := ifD H; rcases H with ⟨A, H⟩ | ⟨A, H⟩
 ·obtain rfl := Option.some.inj H;(try go_wp2);go_ret;exact ⟨EWW, BL⟩
 ·obtain rfl := Option.some.inj H;(try go_wp2);go_ret;exact ⟨EWW, BL⟩
def lI.f (LU : Int) (LV : ByteArray) (LW a0_3 a1 : Int) : Option (Int) := if (wrap64 (a1 - (LV.size : Int))) < 0 then (some (-1)) else (some (wrap64 (a1 - (LV.size : Int))))
theorem lI.calls (LU : Int) (LV : ByteArray) (LW a : Int) (M r : Int) (w : World) (h : lI.f LU LV LW a M = some r) :
  Calls Tryz.prog 117 #[.agg #[.int .i64 LU, .string LV, .int .i64 LW, .int .i64 a], .int .i64 M] w fun e w' => e = .returned (.int .i64 r) ∧ Below w.heap.size w w' := by
 have I := Tryz.underlying124;have HB := ah.mk (Below.refl w.heap.size w);unfold lI.f at h;have H := h;clear h;replace H := ah.mk H;go_enter Tryz.func117, Tryz.ntmps117;go_wp2_with (first | ((with_reducible refine aJ (N := 2) rfl ?_); refine bf (N := 2) (cs := #[.int .i64 LU, .string LV, .int .i64 LW, .int .i64 a]) (t := 124) ?_; intro J hg K hbox hb; have l := ah.mk hbox; have m := SZ (w := w) hg; have L := m; replace HB := BS (w := w) hb; clear hb hbox hg; obtain ⟨o, u, x, y, z, A, D, E⟩ := cz4 l.out; refine cB ?_));refine Hide.mk ?_;replace H := H.out;replace H := ifD H; rcases H with ⟨G, H⟩ | ⟨G, H⟩
 ·obtain rfl := Option.some.inj H;(try go_wp2);go_ret;exact ⟨EWW, BL⟩
 ·obtain rfl := Option.some.inj H;(try go_wp2);go_ret;exact ⟨EWW, BL⟩
def gB.l0 : Nat → List (nE) → Int → Int → Option (Int)
 | 0, _, _, _ => none
 | k + 1, a, b, c => if c < (a.length : Int) then (if 0 ≤ c then ((lI.f ((gY a c).f0) ((gY a c).f1) ((gY a c).f2) ((gY a c).f3) b).bind fun d => (if d < 0 then (some (-1)) else (gB.l0 k a d (wrap64 (c + 1))))) else (none)) else (some b)
def gB.f (k : Nat) (l0 : List (nE)) (a1 : Int) : Option (Int) := if (wrap64 (a1 - (l0.length : Int))) < 0 then (some (-1)) else (gB.l0 k l0 (wrap64 (a1 - (l0.length : Int))) 0)
theorem gB.calls (k : Nat) (Y : Option Addr) (Z : Nat) (l0 : List (nE)) (a1 r : Int) (w : World) (D : Kd.C CO w Y l0.length l0) (E : l0.length ≤ Z) (h : gB.f k l0 a1 = some r) :
  Calls Tryz.prog 88 #[.slice Y l0.length Z, .int .i64 a1] w fun e w' => e = .returned (.int .i64 r) ∧ Below w.heap.size w w' := by
 have M := Tryz.underlying124;have O := ah.mk D;have xc := ah.mk E;clear D E;have HB := ah.mk (Below.refl w.heap.size w);unfold gB.f at h;have H := h;clear h;replace H := ah.mk H;go_enter Tryz.func88, Tryz.ntmps88;replace H := H.out;replace H := ifD H; rcases H with ⟨A, H⟩ | ⟨A, H⟩
 ·obtain rfl := Option.some.inj H;(try go_wp2);go_ret;exact ⟨EWW, BL⟩
 ·have H' := ah.mk H;clear H;try go_wp2
  go_loopg [1, 5] k (fun kq v1 v5 w' => ∃ (x : Int) (a : Int), v1 = .int .i64 x ∧ v5 = .int .i64 a ∧ ah (gB.l0 kq l0 x a = some r) ∧ ah (kq ≤ k) ∧ ah (Below w.heap.size w w'))
  case atStart => exact ⟨_, _, EQ, EQ, H', ⟨Nat.le_refl _⟩, ⟨BL⟩⟩
  case round =>
   clear H';(try clear c3);(try clear A);obtain ⟨x, a, rfl, rfl, HA, G, HB⟩ := hrel
   cases gk with
   | zero => exact absurd HA.out (by simp [gB.l0])
   | succ k1 =>
    have H := HA.out;clear HA;simp only [gB.l0] at H;replace H := ifD H; rcases H with ⟨I, H⟩ | ⟨I, H⟩
    ·replace H := ifN H; obtain ⟨xb, H⟩ := H;replace H := be H; obtain ⟨J, A6, H⟩ := H;have y : 0 ≤ (a : Int) := OD;have z : a < (l0.length : Int) := OD;obtain ⟨P, K, l, m, o, u⟩ := Gb O.out a y z
     cases K
     (try replace l := (HB.out.cell (World.block_lt_of_cell? w _ l)).trans l);(try replace m := (HB.out.cell (World.block_lt_of_cell? w _ m)).trans m);(try replace o := (HB.out.cell (World.block_lt_of_cell? w _ o)).trans o);(try replace u := (HB.out.cell (World.block_lt_of_cell? w _ u)).trans u);replace y := eq_true y;replace z := eq_true z;replace H := ah.mk H;go_wp2_with (first | ((with_reducible refine ay (f := 117) rfl ?_); refine bg (some 23) Tryz.func117 #[.agg #[.int .i64 ((gY l0 a).f0), .string ((gY l0 a).f1), .int .i64 ((gY l0 a).f2), .int .i64 ((gY l0 a).f3)], .int .i64 x] ?_; (with_reducible refine (lI.calls ((gY l0 a).f0) ((gY l0 a).f1) ((gY l0 a).f2) ((gY l0 a).f3) x J _ A6.out).mono ?_); rintro e U ⟨rfl, hb⟩; refine ⟨_, rfl, ?_⟩; replace HB := BS (w := w) hb; (try clear hb); refine cB ?_));refine Hide.mk ?_;replace H := H.out;replace H := ifD H; rcases H with ⟨L, H⟩ | ⟨L, H⟩
     ·obtain rfl := Option.some.inj H;(try go_wp2);go_ret;exact ⟨EWW, BL⟩
     ·have H' := ah.mk H;clear H;(try go_wp2);go_roundg k1;case measure => have := G.out; omega
      case rel => exact ⟨_, _, EQ, EQ, H', ks G, ⟨BL⟩⟩
    ·obtain rfl := Option.some.inj H;go_wp2;go_ret;exact ⟨EWW, BL⟩
def lF.f (k : Nat) (LU : Int) (l0_1 : List (nE)) (a1 : Int) : Option (Int) := (gB.f k l0_1 a1).bind fun t106 => (if t106 < 0 then (some (-1)) else (some t106))
theorem lF.calls (k : Nat) (LU : Int) (m : Option Addr) (o : Nat) (a : List (nE)) (L r : Int) (w : World) (u : Kd.C CO w m a.length a) (x : a.length ≤ o) (h : lF.f k LU a L = some r) :
  Calls Tryz.prog 52 #[.agg #[.int .i64 LU, .slice m a.length o], .int .i64 L] w fun e w' => e = .returned (.int .i64 r) ∧ Below w.heap.size w w' := by
 have Y := Tryz.underlying81;have y := ah.mk u;have z := ah.mk x;clear u x;have HB := ah.mk (Below.refl w.heap.size w);unfold lF.f at h;have H := h;clear h;replace H := be H; obtain ⟨J, Z, H⟩ := H;replace H := ah.mk H;go_enter Tryz.func52, Tryz.ntmps52;go_wp2_with (first | ((with_reducible refine aJ (N := 2) rfl ?_); refine bf (N := 2) (cs := #[.int .i64 LU, .slice m a.length o]) (t := 81) ?_; intro M hg O hbox hb; have l := ah.mk hbox; have A := SZ (w := w) hg; have P := A; replace HB := BS (w := w) hb; clear hb hbox hg; obtain ⟨D, E, G, I⟩ := cz2 l.out) | ((with_reducible refine ay (f := 88) rfl ?_); refine bg (some 8) Tryz.func88 #[.slice m a.length o, .int .i64 L] ?_; (with_reducible refine (gB.calls k _ _ a L J _ ?side1 ?side2 Z.out).mono ?_); (case side1 => exact CB y); (case side2 => exact z.out); rintro e U ⟨rfl, hb⟩; refine ⟨_, rfl, ?_⟩; replace l := KB l hb; replace HB := BS (w := w) hb; (try clear hb); refine cB ?_));refine Hide.mk ?_;replace H := H.out;replace H := ifD H; rcases H with ⟨K, H⟩ | ⟨K, H⟩
 ·obtain rfl := Option.some.inj H;(try go_wp2);go_ret;exact ⟨EWW, BL⟩
 ·obtain rfl := Option.some.inj H;(try go_wp2);go_ret;exact ⟨EWW, BL⟩
def gy.l0 : Nat → List (S81) → Int → Int → Option (Int)
 | 0, _, _, _ => none
 | k + 1, a, b, c => if c < (a.length : Int) then (if 0 ≤ c then ((lF.f k ((kR a c).f0) ((kR a c).f1) b).bind fun d => (if d < 0 then (some (-1)) else (gy.l0 k a d (wrap64 (c + 1))))) else (none)) else (some b)
def gy.f (k : Nat) (l0 : List (S81)) (a1 : Int) : Option (Int) := if (wrap64 (a1 - (l0.length : Int))) < 0 then (some (-1)) else (gy.l0 k l0 (wrap64 (a1 - (l0.length : Int))) 0)
theorem gy.calls (k : Nat) (Z : Option Addr) (c0 : Nat) (l0 : List (S81)) (a1 r : Int) (w : World) (G : Kd.C k81 w Z l0.length l0) (I : l0.length ≤ c0) (h : gy.f k l0 a1 = some r) :
  Calls Tryz.prog 28 #[.slice Z l0.length c0, .int .i64 a1] w fun e w' => e = .returned (.int .i64 r) ∧ Below w.heap.size w w' := by
 have xc := Tryz.underlying81;have P := ah.mk G;have xe := ah.mk I;clear G I;have HB := ah.mk (Below.refl w.heap.size w);unfold gy.f at h;have H := h;clear h;replace H := ah.mk H;go_enter Tryz.func28, Tryz.ntmps28;replace H := H.out;replace H := ifD H; rcases H with ⟨E, H⟩ | ⟨E, H⟩
 ·obtain rfl := Option.some.inj H;(try go_wp2);go_ret;exact ⟨EWW, BL⟩
 ·have H' := ah.mk H;clear H;try go_wp2
  go_loopg [1, 5] k (fun kq v1 v5 w' => ∃ (o : Int) (a : Int), v1 = .int .i64 o ∧ v5 = .int .i64 a ∧ ah (gy.l0 kq l0 o a = some r) ∧ ah (kq ≤ k) ∧ ah (Below w.heap.size w w'))
  case atStart => exact ⟨_, _, EQ, EQ, H', ⟨Nat.le_refl _⟩, ⟨BL⟩⟩
  case round =>
   clear H';(try clear c3);(try clear E);obtain ⟨o, a, rfl, rfl, HA, J, HB⟩ := hrel
   cases gk with
   | zero => exact absurd HA.out (by simp [gy.l0])
   | succ k1 =>
    have H := HA.out;clear HA;simp only [gy.l0] at H;replace H := ifD H; rcases H with ⟨K, H⟩ | ⟨K, H⟩
    ·replace H := ifN H; obtain ⟨xd, H⟩ := H;replace H := be H; obtain ⟨L, A6, H⟩ := H;have u : 0 ≤ (a : Int) := OD;have x : a < (l0.length : Int) := OD;obtain ⟨U, A, D, M, l, m, hl107_1, hi107_1⟩ := Ib P.out a u x
     cases M
     (try replace l := (HB.out.cell (World.block_lt_of_cell? w _ l)).trans l);(try replace m := (HB.out.cell (World.block_lt_of_cell? w _ m)).trans m);have y := ah.mk hi107_1;have z := ah.mk hl107_1;clear hi107_1 hl107_1;replace u := eq_true u;replace x := eq_true x;replace H := ah.mk H;go_wp2_with (first | ((with_reducible refine ay (f := 52) rfl ?_); refine bg (some 23) Tryz.func52 #[.agg #[.int .i64 ((kR l0 a).f0), .slice A ((kR l0 a).f1).length D], .int .i64 o] ?_; (with_reducible refine (lF.calls k1 ((kR l0 a).f0) _ _ ((kR l0 a).f1) o L _ ?side1 ?side2 A6.out).mono ?_); (case side1 => exact CB y); (case side2 => exact z.out); rintro e Y ⟨rfl, hb⟩; refine ⟨_, rfl, ?_⟩; replace HB := BS (w := w) hb; (try clear hb); refine cB ?_));refine Hide.mk ?_;replace H := H.out;replace H := ifD H; rcases H with ⟨O, H⟩ | ⟨O, H⟩
     ·obtain rfl := Option.some.inj H;(try go_wp2);go_ret;exact ⟨EWW, BL⟩
     ·have H' := ah.mk H;clear H;(try go_wp2);go_roundg k1;case measure => have := J.out; omega
      case rel => exact ⟨_, _, EQ, EQ, H', ks J, ⟨BL⟩⟩
    ·obtain rfl := Option.some.inj H;go_wp2;go_ret;exact ⟨EWW, BL⟩
def lH.f (l0 : List Int) (a1 : Int) : Option (Int) := if (wrap64 (a1 - (l0.length : Int))) < 0 then (some (-1)) else (some (wrap64 (a1 - (l0.length : Int))))
theorem lH.calls (o : Option Addr) (u : Nat) (l0 : List Int) (x r : Int) (w : World) (a : Kd.C (Kd.int .i64) w o l0.length l0) (l : l0.length ≤ u) (h : lH.f l0 x = some r) :
  Calls Tryz.prog 29 #[.slice o l0.length u, .int .i64 x] w fun e w' => e = .returned (.int .i64 r) ∧ dn w w' := by
 have y := ah.mk a;have z := ah.mk l;clear a l;unfold lH.f at h;have H := h;clear h;replace H := ah.mk H;go_enter Tryz.func29, Tryz.ntmps29;replace H := H.out;replace H := ifD H; rcases H with ⟨m, H⟩ | ⟨m, H⟩
 ·obtain rfl := Option.some.inj H;(try go_wp2);go_ret;exact ⟨EQ, DR⟩
 ·obtain rfl := Option.some.inj H;(try go_wp2);go_ret;exact ⟨EQ, DR⟩
def ko.f (k : Nat) (LU LV : Int) (LW : ByteArray) (LX : List (S81)) (LY : List Int) (LZ a1 : Int) : Option (Int) := (lG.f LU LV LW a1).bind fun t110 => (if t110 < 0 then (some (-1)) else ((gy.f k LX t110).bind fun t111 => (if t111 < 0 then (some (-1)) else ((lH.f LY t111).bind fun t112 => (if t112 < 0 then (some (-1)) else (some t112))))))
theorem ko.calls (k : Nat) (LU LV : Int) (LW : ByteArray) (A0_3 : Option Addr) (c0_3 : Nat) (LX : List (S81)) (A0_4 : Option Addr) (c0_4 : Nat) (LY : List Int) (LZ a1 r : Int) (w : World) (hr0_3 : Kd.C k81 w A0_3 LX.length LX) (hc0_3 : LX.length ≤ c0_3) (hr0_4 : Kd.C (Kd.int .i64) w A0_4 LY.length LY) (hc0_4 : LY.length ≤ c0_4) (h : ko.f k LU LV LW LX LY LZ a1 = some r) :
  Calls Tryz.prog 6 #[.agg #[.int .i64 LU, .int .i64 LV, .string LW, .slice A0_3 LX.length c0_3, .slice A0_4 LY.length c0_4, .int .i64 LZ], .int .i64 a1] w fun e w' => e = .returned (.int .i64 r) ∧ Below w.heap.size w w' := by
 have xH := Tryz.underlying27;have xI := Tryz.underlying23;have o := ah.mk hr0_3;have u := ah.mk hc0_3;clear hr0_3 hc0_3;have x := ah.mk hr0_4;have y := ah.mk hc0_4;clear hr0_4 hc0_4;have HB := ah.mk (Below.refl w.heap.size w);unfold ko.f at h;have H := h;clear h;replace H := be H; obtain ⟨l, A3, H⟩ := H;replace H := ah.mk H;go_enter Tryz.func6, Tryz.ntmps6;go_wp2_with (first | ((with_reducible refine aJ (N := 2) rfl ?_); refine bf (N := 2) (cs := #[.int .i64 LU, .int .i64 LV, .string LW, .slice A0_3 LX.length c0_3, .slice A0_4 LY.length c0_4, .int .i64 LZ]) (t := 27) ?_; intro xB hg xC hbox hb; have a := ah.mk hbox; have z := SZ (w := w) hg; have xD := z; replace HB := BS (w := w) hb; clear hb hbox hg; obtain ⟨A, D, E, G, I, J, K, L, M, O, P, U⟩ := cz6 a.out) | ((with_reducible refine ay (f := 27) rfl ?_); refine bg (some 8) Tryz.func27 #[.agg #[.int .i64 LU, .int .i64 LV, .string LW], .int .i64 a1] ?_; (with_reducible refine (lG.calls LU LV LW a1 l _ A3.out).mono ?_); rintro e xE ⟨rfl, hb⟩; refine ⟨_, rfl, ?_⟩; replace a := KB a hb; replace HB := BS (w := w) hb; (try clear hb); obtain ⟨Y, Z, xa, xb, xc, xd, xe, xf, xg, xh, xi, xj⟩ := cz6 a.out; refine cB ?_));refine Hide.mk ?_;replace H := H.out;replace H := ifD H; rcases H with ⟨xx, H⟩ | ⟨xx, H⟩
 ·obtain rfl := Option.some.inj H;(try go_wp2);go_ret;exact ⟨EWW, BL⟩
 ·replace H := be H; obtain ⟨m, A8, H⟩ := H;replace H := ah.mk H;go_wp2_with (first | ((with_reducible refine ay (f := 28) rfl ?_); refine bg (some 14) Tryz.func28 #[.slice A0_3 LX.length c0_3, .int .i64 l] ?_; (with_reducible refine (gy.calls k _ _ LX l m _ ?side1 ?side2 A8.out).mono ?_); (case side1 => exact CB o); (case side2 => exact u.out); rintro e xF ⟨rfl, hb⟩; refine ⟨_, rfl, ?_⟩; replace a := KB a hb; replace HB := BS (w := w) hb; (try clear hb); obtain ⟨xk, xl, xm, xn, xo, xp, xq, xr, xs, xt, xu, xv⟩ := cz6 a.out; refine cB ?_));refine Hide.mk ?_;replace H := H.out;replace H := ifD H; rcases H with ⟨xy, H⟩ | ⟨xy, H⟩
  ·obtain rfl := Option.some.inj H;(try go_wp2);go_ret;exact ⟨EWW, BL⟩
  ·replace H := be H; obtain ⟨xz, xG, H⟩ := H;replace H := ah.mk H;go_wp2_with (first | ((with_reducible refine ay (f := 29) rfl ?_); refine bg (some 20) Tryz.func29 #[.slice A0_4 LY.length c0_4, .int .i64 m] ?_; (with_reducible refine (lH.calls _ _ LY m xz _ ?side1 ?side2 xG.out).mono ?_); (case side1 => exact CB x); (case side2 => exact y.out); rintro e w' ⟨rfl, ⟨nd, rfl⟩⟩; refine ⟨_, rfl, ?_⟩; refine cB ?_));refine Hide.mk ?_;replace H := H.out;replace H := ifD H; rcases H with ⟨xw, H⟩ | ⟨xw, H⟩
   ·obtain rfl := Option.some.inj H;(try go_wp2);go_ret;exact ⟨EWW, BL⟩
   ·obtain rfl := Option.some.inj H;(try go_wp2);go_ret;exact ⟨EWW, BL⟩
def jN.f (LU : ByteArray) (LV a1 : Int) : Option (Int) := if (wrap64 (a1 - (LU.size : Int))) < 0 then (some (-1)) else (some (wrap64 (a1 - (LU.size : Int))))
theorem jN.calls (LU : ByteArray) (LV E r : Int) (w : World) (h : jN.f LU LV E = some r) :
  Calls Tryz.prog 30 #[.agg #[.string LU, .int .i64 LV], .int .i64 E] w fun e w' => e = .returned (.int .i64 r) ∧ Below w.heap.size w w' := by
 have G := Tryz.underlying57;have HB := ah.mk (Below.refl w.heap.size w);unfold jN.f at h;have H := h;clear h;replace H := ah.mk H;go_enter Tryz.func30, Tryz.ntmps30;go_wp2_with (first | ((with_reducible refine aJ (N := 2) rfl ?_); refine bf (N := 2) (cs := #[.string LU, .int .i64 LV]) (t := 57) ?_; intro z hg A hbox hb; have a := ah.mk hbox; have l := SZ (w := w) hg; have D := l; replace HB := BS (w := w) hb; clear hb hbox hg; obtain ⟨m, o, u, x⟩ := cz2 a.out; refine cB ?_));refine Hide.mk ?_;replace H := H.out;replace H := ifD H; rcases H with ⟨y, H⟩ | ⟨y, H⟩
 ·obtain rfl := Option.some.inj H;(try go_wp2);go_ret;exact ⟨EWW, BL⟩
 ·obtain rfl := Option.some.inj H;(try go_wp2);go_ret;exact ⟨EWW, BL⟩
def eO.l0 : Nat → List (S57) → Int → Int → Option (Int)
 | 0, _, _, _ => none
 | k + 1, a, b, c => if c < (a.length : Int) then (if 0 ≤ c then ((jN.f ((mq a c).f0) ((mq a c).f1) b).bind fun d => (if d < 0 then (some (-1)) else (eO.l0 k a d (wrap64 (c + 1))))) else (none)) else (some b)
def eO.f (k : Nat) (l0 : List (S57)) (a1 : Int) : Option (Int) := if (wrap64 (a1 - (l0.length : Int))) < 0 then (some (-1)) else (eO.l0 k l0 (wrap64 (a1 - (l0.length : Int))) 0)
theorem eO.calls (k : Nat) (O : Option Addr) (P : Nat) (l0 : List (S57)) (U r : Int) (w : World) (z : Kd.C k57 w O l0.length l0) (A : l0.length ≤ P) (h : eO.f k l0 U = some r) :
  Calls Tryz.prog 7 #[.slice O l0.length P, .int .i64 U] w fun e w' => e = .returned (.int .i64 r) ∧ Below w.heap.size w w' := by
 have Y := Tryz.underlying57;have K := ah.mk z;have xa := ah.mk A;clear z A;have HB := ah.mk (Below.refl w.heap.size w);unfold eO.f at h;have H := h;clear h;replace H := ah.mk H;go_enter Tryz.func7, Tryz.ntmps7;replace H := H.out;replace H := ifD H; rcases H with ⟨y, H⟩ | ⟨y, H⟩
 ·obtain rfl := Option.some.inj H;(try go_wp2);go_ret;exact ⟨EWW, BL⟩
 ·have H' := ah.mk H;clear H;try go_wp2
  go_loopg [1, 5] k (fun kq v1 v5 w' => ∃ (o : Int) (a : Int), v1 = .int .i64 o ∧ v5 = .int .i64 a ∧ ah (eO.l0 kq l0 o a = some r) ∧ ah (kq ≤ k) ∧ ah (Below w.heap.size w w'))
  case atStart => exact ⟨_, _, EQ, EQ, H', ⟨Nat.le_refl _⟩, ⟨BL⟩⟩
  case round =>
   clear H';(try clear c3);(try clear y);obtain ⟨o, a, rfl, rfl, HA, D, HB⟩ := hrel
   cases gk with
   | zero => exact absurd HA.out (by simp [eO.l0])
   | succ k1 =>
    have H := HA.out;clear HA;simp only [eO.l0] at H;replace H := ifD H; rcases H with ⟨E, H⟩ | ⟨E, H⟩
    ·replace H := ifN H; obtain ⟨Z, H⟩ := H;replace H := be H; obtain ⟨G, A6, H⟩ := H;have u : 0 ≤ (a : Int) := OD;have x : a < (l0.length : Int) := OD;obtain ⟨L, I, l, m⟩ := Ia K.out a u x
     cases I
     (try replace l := (HB.out.cell (World.block_lt_of_cell? w _ l)).trans l);(try replace m := (HB.out.cell (World.block_lt_of_cell? w _ m)).trans m);replace u := eq_true u;replace x := eq_true x;replace H := ah.mk H;go_wp2_with (first | ((with_reducible refine ay (f := 30) rfl ?_); refine bg (some 23) Tryz.func30 #[.agg #[.string ((mq l0 a).f0), .int .i64 ((mq l0 a).f1)], .int .i64 o] ?_; (with_reducible refine (jN.calls ((mq l0 a).f0) ((mq l0 a).f1) o G _ A6.out).mono ?_); rintro e M ⟨rfl, hb⟩; refine ⟨_, rfl, ?_⟩; replace HB := BS (w := w) hb; (try clear hb); refine cB ?_));refine Hide.mk ?_;replace H := H.out;replace H := ifD H; rcases H with ⟨J, H⟩ | ⟨J, H⟩
     ·obtain rfl := Option.some.inj H;(try go_wp2);go_ret;exact ⟨EWW, BL⟩
     ·have H' := ah.mk H;clear H;(try go_wp2);go_roundg k1;case measure => have := D.out; omega
      case rel => exact ⟨_, _, EQ, EQ, H', ks D, ⟨BL⟩⟩
    ·obtain rfl := Option.some.inj H;go_wp2;go_ret;exact ⟨EWW, BL⟩
def fq.l0 : Nat → List ByteArray → Int → Int → Option (Int)
 | 0, _, _, _ => none
 | k + 1, a, b, c => if c < (a.length : Int) then (if 0 ≤ c then (if (wrap64 (b - ((gJ ByteArray.empty a c).size : Int))) < 0 then (some (-1)) else (fq.l0 k a (wrap64 (b - ((gJ ByteArray.empty a c).size : Int))) (wrap64 (c + 1)))) else (none)) else (some b)
def fq.f (k : Nat) (l0 : List ByteArray) (a1 : Int) : Option (Int) := if (wrap64 (a1 - (l0.length : Int))) < 0 then (some (-1)) else (fq.l0 k l0 (wrap64 (a1 - (l0.length : Int))) 0)
theorem fq.calls (k : Nat) (K : Option Addr) (L : Nat) (l0 : List ByteArray) (M r : Int) (w : World) (x : Kd.C Kd.string w K l0.length l0) (y : l0.length ≤ L) (h : fq.f k l0 M = some r) :
  Calls Tryz.prog 8 #[.slice K l0.length L, .int .i64 M] w fun e w' => e = .returned (.int .i64 r) ∧ dn w w' := by
 have I := ah.mk x;have P := ah.mk y;clear x y;unfold fq.f at h;have H := h;clear h;replace H := ah.mk H;go_enter Tryz.func8, Tryz.ntmps8;replace H := H.out;replace H := ifD H; rcases H with ⟨u, H⟩ | ⟨u, H⟩
 ·obtain rfl := Option.some.inj H;(try go_wp2);go_ret;exact ⟨EQ, DR⟩
 ·have H' := ah.mk H;clear H;try go_wp2
  go_loopg [1, 5] k (fun kq U Y w' => ∃ (l : Int) (a : Int), U = .int .i64 l ∧ Y = .int .i64 a ∧ ah (fq.l0 kq l0 l a = some r) ∧ ah (kq ≤ k) ∧ dn w w')
  case atStart => exact ⟨_, _, EQ, EQ, H', ⟨Nat.le_refl _⟩, DR⟩
  case round =>
   clear H';(try clear c3);(try clear u);obtain ⟨l, a, rfl, rfl, HA, z, ⟨m1, rfl⟩⟩ := hrel
   cases gk with
   | zero => exact absurd HA.out (by simp [fq.l0])
   | succ k1 =>
    have H := HA.out;clear HA;simp only [fq.l0] at H;replace H := ifD H; rcases H with ⟨A, H⟩ | ⟨A, H⟩
    ·replace H := ifN H; obtain ⟨O, H⟩ := H;have m : 0 ≤ (a : Int) := OD;have o : a < (l0.length : Int) := OD;obtain ⟨J, D, E⟩ := Kd.kU I.out a m o
     cases D
     replace m := eq_true m;replace o := eq_true o;replace H := ifD H; rcases H with ⟨G, H⟩ | ⟨G, H⟩
     ·obtain rfl := Option.some.inj H;go_wp2;go_ret;exact ⟨EQ, DR⟩
     ·have H' := ah.mk H;clear H;go_wp2;go_roundg k1;case measure => have := z.out; omega
      case rel => exact ⟨_, _, EQ, EQ, H', ks z, DR⟩
    ·obtain rfl := Option.some.inj H;go_wp2;go_ret;exact ⟨EQ, DR⟩
def mX.f (LU LV : Int) (LW : ByteArray) : Option (Int × Int × ByteArray) := some (LU, LV, LW)
theorem mX.calls (LU LV : Int) (LW : ByteArray) (r1 r2 : Int) (r3 : ByteArray) (w : World) (h : mX.f LU LV LW = some (r1, r2, r3)) :
  Calls Tryz.prog 32 #[.agg #[.int .i64 LU, .int .i64 LV, .string LW]] w fun e w' => e = .returned (.agg #[.int .i64 r1, .int .i64 r2, .string r3]) ∧ Below w.heap.size w w' := by
 have xo := Tryz.underlying23;have xp := Tryz.underlying34;have HB := ah.mk (Below.refl w.heap.size w);unfold mX.f at h;have H := h;clear h;simp only [Option.some.injEq, Prod.mk.injEq] at H;obtain ⟨rfl, rfl, rfl⟩ := H;go_enter Tryz.func32, Tryz.ntmps32;go_wp2_with (first | ((with_reducible refine aJ (N := 1) rfl ?_); refine bf (N := 1) (cs := #[.int .i64 LU, .int .i64 LV, .string LW]) (t := 23) ?_; intro xj hg w2 hbox hb; have a := ah.mk hbox; have A := SZ (w := w) hg; have xk := A; replace HB := BS (w := w) hb; clear hb hbox hg) | ((with_reducible refine aJ (N := 2) rfl ?_); refine bf (N := 2) (cs := #[.int .i64 0, .int .i64 0, .string (⟨#[]⟩ : ByteArray)]) (t := 34) ?_; intro D hg w3 hbox hb; have m := ah.mk (hbox); have E := SZ (w := w) hg; have xl := E; replace HB := BS (w := w) hb; have o := NL a hg; have u := NG a hg; replace a := KB a hb; clear hb hbox hg) | ((with_reducible refine aJ (N := 3) rfl ?_); refine bf (N := 3) (cs := #[.int .i64 0, .int .i64 0, .string (⟨#[]⟩ : ByteArray)]) (t := 34) ?_; intro xm hg w4 hbox hb; have G := ah.mk (hbox); have I := SZ (w := w) hg; have xn := I; replace HB := BS (w := w) hb; have x := NL a hg; have y := NG a hg; replace a := KB a hb; have l := NL m hg; have z := NG m hg; replace m := KB m hb; clear hb hbox hg; have xq := o.out; have xr := u.out; have xs := x.out; have xt := y.out; obtain ⟨U, Y, Z, xa, xb, xc⟩ := cz3 a.out; have xu := z.out; have xv := l.out; obtain ⟨xd, xe, xf, xg, xh, xi⟩ := cz3 G.out; obtain ⟨J, K, L, M, O, P⟩ := cz3 m.out));refine bodyPost_ret (results_cell_row rfl _ _ D 34 #[.int .i64 LU, .int .i64 LV, .string LW] (0, 0) _ rfl (by (with_reducible repeat (first | refine aC ?_ _ | refine aH ?_ | refine aD ?_ _)); refine aX (cs := #[.int .i64 LU, .int .i64 LV, .string (⟨#[]⟩ : ByteArray)]) ?_ 2 _ rfl; (with_reducible repeat (first | refine aC ?_ _ | refine aH ?_ | refine aD ?_ _)); refine aX (cs := #[.int .i64 LU, .int .i64 0, .string (⟨#[]⟩ : ByteArray)]) ?_ 1 _ rfl; (with_reducible repeat (first | refine aC ?_ _ | refine aH ?_ | refine aD ?_ _)); refine aX (cs := #[.int .i64 0, .int .i64 0, .string (⟨#[]⟩ : ByteArray)]) ?_ 0 _ rfl; (with_reducible repeat (first | refine aC ?_ _ | refine aH ?_ | refine aD ?_ _)); refine dU ?_ l.out _; (with_reducible repeat (first | refine aC ?_ _ | refine aH ?_ | refine aD ?_ _)); refine dU ?_ l.out _; (with_reducible repeat (first | refine aC ?_ _ | refine aH ?_ | refine aD ?_ _)); refine dU ?_ l.out _; (with_reducible repeat (first | refine aC ?_ _ | refine aH ?_ | refine aD ?_ _)); exact m.out) Tryz.underlying34 rfl (by kernel_rfl)) rfl ?_;exact ⟨EWW, BL⟩
def mY.f (LU : Int) (LV : ByteArray) (LW a0_3 : Int) : Option (Int × ByteArray × Int × Int) := some (LU, LV, LW, a0_3)
theorem mY.calls (LU : Int) (LV : ByteArray) (LW A r1 : Int) (r2 : ByteArray) (r3 r4 : Int) (w : World) (h : mY.f LU LV LW A = some (r1, r2, r3, r4)) :
  Calls Tryz.prog 124 #[.agg #[.int .i64 LU, .string LV, .int .i64 LW, .int .i64 A]] w fun e w' => e = .returned (.agg #[.int .i64 r1, .string r2, .int .i64 r3, .int .i64 r4]) ∧ Below w.heap.size w w' := by
 have xq := Tryz.underlying124;have xr := Tryz.underlying121;have HB := ah.mk (Below.refl w.heap.size w);unfold mY.f at h;have H := h;clear h;simp only [Option.some.injEq, Prod.mk.injEq] at H;obtain ⟨rfl, rfl, rfl, rfl⟩ := H;go_enter Tryz.func124, Tryz.ntmps124;go_wp2_with (first | ((with_reducible refine aJ (N := 1) rfl ?_); refine bf (N := 1) (cs := #[.int .i64 LU, .string LV, .int .i64 LW, .int .i64 A]) (t := 124) ?_; intro xs hg w2 hbox hb; have l := ah.mk hbox; have D := SZ (w := w) hg; have xt := D; replace HB := BS (w := w) hb; clear hb hbox hg) | ((with_reducible refine aJ (N := 2) rfl ?_); refine bf (N := 2) (cs := #[.int .i64 0, .string (⟨#[]⟩ : ByteArray), .int .i64 0, .int .i64 0]) (t := 121) ?_; intro E hg w3 hbox hb; have m := ah.mk (hbox); have G := SZ (w := w) hg; have xu := G; replace HB := BS (w := w) hb; have o := NL l hg; have u := NG l hg; replace l := KB l hb; clear hb hbox hg) | ((with_reducible refine aJ (N := 3) rfl ?_); refine bf (N := 3) (cs := #[.int .i64 0, .string (⟨#[]⟩ : ByteArray), .int .i64 0, .int .i64 0]) (t := 121) ?_; intro xv hg w4 hbox hb; have I := ah.mk (hbox); have J := SZ (w := w) hg; have xw := J; replace HB := BS (w := w) hb; have x := NL l hg; have y := NG l hg; replace l := KB l hb; have a := NL m hg; have z := NG m hg; replace m := KB m hb; clear hb hbox hg; have xx := o.out; have xy := u.out; have xz := x.out; have xA := y.out; obtain ⟨xa, xb, xc, xd, xe, xf, xg, xh⟩ := cz4 l.out; have xB := z.out; have xC := a.out; obtain ⟨xi, xj, xk, xl, xm, xn, xo, xp⟩ := cz4 I.out; obtain ⟨K, L, M, O, P, U, Y, Z⟩ := cz4 m.out));refine bodyPost_ret (results_cell_row rfl _ _ E 121 #[.int .i64 LU, .string LV, .int .i64 LW, .int .i64 A] (0, 0) _ rfl (by (with_reducible repeat (first | refine aC ?_ _ | refine aH ?_ | refine aD ?_ _)); refine aX (cs := #[.int .i64 LU, .string LV, .int .i64 LW, .int .i64 0]) ?_ 3 _ rfl; (with_reducible repeat (first | refine aC ?_ _ | refine aH ?_ | refine aD ?_ _)); refine aX (cs := #[.int .i64 LU, .string LV, .int .i64 0, .int .i64 0]) ?_ 2 _ rfl; (with_reducible repeat (first | refine aC ?_ _ | refine aH ?_ | refine aD ?_ _)); refine aX (cs := #[.int .i64 LU, .string (⟨#[]⟩ : ByteArray), .int .i64 0, .int .i64 0]) ?_ 1 _ rfl; (with_reducible repeat (first | refine aC ?_ _ | refine aH ?_ | refine aD ?_ _)); refine aX (cs := #[.int .i64 0, .string (⟨#[]⟩ : ByteArray), .int .i64 0, .int .i64 0]) ?_ 0 _ rfl; (with_reducible repeat (first | refine aC ?_ _ | refine aH ?_ | refine aD ?_ _)); refine dU ?_ a.out _; (with_reducible repeat (first | refine aC ?_ _ | refine aH ?_ | refine aD ?_ _)); refine dU ?_ a.out _; (with_reducible repeat (first | refine aC ?_ _ | refine aH ?_ | refine aD ?_ _)); refine dU ?_ a.out _; (with_reducible repeat (first | refine aC ?_ _ | refine aH ?_ | refine aD ?_ _)); refine dU ?_ a.out _; (with_reducible repeat (first | refine aC ?_ _ | refine aH ?_ | refine aD ?_ _)); exact m.out) Tryz.underlying121 rfl (by kernel_rfl)) rfl ?_;exact ⟨EWW, BL⟩
def fZ.l0 : Nat → List (nE) → List (bQ) → Int → Option ((List (bQ)))
 | 0, _, _, _ => none
 | k + 1, a, b, c => if c < (a.length : Int) then (if 0 ≤ c then ((mY.f ((gY a c).f0) ((gY a c).f1) ((gY a c).f2) ((gY a c).f3)).bind fun d => (if c < (b.length : Int) then (fZ.l0 k a (b.set (c : Int).toNat (⟨d.1, d.2.1, d.2.2.1, d.2.2.2⟩ : bQ)) (wrap64 (c + 1))) else (none))) else (none)) else (some b)
def fZ.f (k : Nat) (l0 : List (nE)) : Option ((List (bQ))) := if 0 ≤ (l0.length : Int) then (if ((l0.length : Int) : Int).toNat ≤ 7036874417766 then (fZ.l0 k l0 (List.replicate ((l0.length : Int) : Int).toNat ru) 0) else (none)) else (none)
theorem fZ.calls (k : Nat) (A0 : Option Addr) (c0 : Nat) (l0 : List (nE)) (r : List (bQ)) (w : World) (xj : Kd.C CO w A0 l0.length l0) (xk : l0.length ≤ c0) (h : fZ.f k l0 = some r) :
  Calls Tryz.prog 95 #[.slice A0 l0.length c0] w fun e w' => ∃ v0_ : Value, e = .returned (v0_) ∧ Kd.R iH 121 w' w.heap.size (fun _ => True) v0_ r ∧ Below w.heap.size w w' := by
 have xy := Tryz.underlying124;have xz := Tryz.underlying121;have xA := ah.mk xj;have xH := ah.mk xk;clear xj xk;have HB := ah.mk (Below.refl w.heap.size w);unfold fZ.f at h;have H := h;clear h;replace H := ifP H; obtain ⟨c2, H⟩ := H;have xl := eq_true c2;have xm : decide (0 ≤ (l0.length : Int)) = true := decide_eq_true c2;clear c2;replace H := ifP H; obtain ⟨c3, H⟩ := H;have xn := eq_true c3;have xo : decide (((l0.length : Int) : Int).toNat ≤ 7036874417766) = true := decide_eq_true c3;clear c3;obtain ⟨xp, u⟩ : ∃ y_ : List (bQ), y_ = (List.replicate ((l0.length : Int) : Int).toNat ru) := ⟨_, rfl⟩;replace H : (fZ.l0 k l0 xp 0) = some r := by first | (rw [u]; with_reducible exact H) | (have H2_ := (Option.bind_some _ _).symm.trans H; rw [u]; with_reducible exact H2_) | (have H2_ := (Option.bind_some _ _).symm.trans H; with_reducible exact H2_) | with_reducible exact H | (rw [u]; exact H) | exact H
 have O := ah.mk u;clear u;have H' := ah.mk H;clear H;go_enter Tryz.func95, Tryz.ntmps95;go_wp2_with (first | ((with_reducible refine aJ (N := 7) rfl ?_); refine Kd.wG iH _ 121 rfl (N := 7) rfl 70 _ _ rfl (l0.length : Int) rfl rfl Tryz.underlying70 (.agg #[(.int .i64 0), (.string ⟨#[]⟩), (.int .i64 0), (.int .i64 0)]) 40 JF rfl (by decide) (by omega) ru (ok := fun _ => True) (okp := fun _ => True) (pO _ _ _ ru ) (fun _ hk => hk) trivial (OD) (Nat.le_trans (Nat.mul_le_mul_right _ (OD : (l0.length : Int).toNat ≤ 7036874417766)) (by omega)) (Below.refl _ _) (Nat.le_refl _) ?_; intro xq xB P hb hg_ hnew_; clear hg_ hnew_; (first | rw [← O.out] at P | (simp only [Int.reduceToNat] at P; rw [← O.out] at P)); have xf := ah.mk (Kd.bV P (aK BL)); replace HB := BS (w := w) hb; clear hb P))
 go_loopg [4] k (fun kq v4 w' => ∃ (m : List (bQ)) (a : Int), v4 = .int .i64 a ∧ ah (fZ.l0 kq l0 m a = some r) ∧ ah (kq ≤ k) ∧ ah (Kd.R iH 121 w' w.heap.size (fun _ => True) xq m) ∧ ah (Below w.heap.size w w'))
 case atStart => exact ⟨_, _, EQ, H', ⟨Nat.le_refl _⟩, ⟨(RR xf)⟩, ⟨BL⟩⟩
 case round =>
  clear H';(try clear c2);(try clear xl);(try clear xm);(try clear c3);(try clear xn);(try clear xo);obtain ⟨m, a, rfl, HA, xr, o, HB⟩ := hrel
  cases gk with
  | zero => exact absurd HA.out (by simp [fZ.l0])
  | succ k1 =>
   have H := HA.out;clear HA;simp only [fZ.l0] at H;replace H := ifD H; rcases H with ⟨xs, H⟩ | ⟨xs, H⟩
   ·replace H := ifN H; obtain ⟨xF, H⟩ := H;replace H := be H; obtain ⟨⟨E, G, I, J⟩, A8, H⟩ := H;dsimp only at H;replace H := ifN H; obtain ⟨xG, H⟩ := H;obtain ⟨xd, x⟩ : ∃ y_ : List (bQ), y_ = (m.set (a : Int).toNat (⟨E, G, I, J⟩ : bQ)) := ⟨_, rfl⟩;replace H : (fZ.l0 k1 l0 xd (wrap64 (a + 1))) = some r := by first | (rw [x]; with_reducible exact H) | (have H2_ := (Option.bind_some _ _).symm.trans H; rw [x]; with_reducible exact H2_) | (have H2_ := (Option.bind_some _ _).symm.trans H; with_reducible exact H2_) | with_reducible exact H | (rw [x]; exact H) | exact H
    have xg := ah.mk x;clear x;have H' := ah.mk H;clear H;have U : 0 ≤ (a : Int) := OD;have Y : a < (l0.length : Int) := OD;obtain ⟨xC, xt, y, z, A, D⟩ := Gb xA.out a U Y
    cases xt
    (try replace y := (HB.out.cell (World.block_lt_of_cell? w _ y)).trans y);(try replace z := (HB.out.cell (World.block_lt_of_cell? w _ z)).trans z);(try replace A := (HB.out.cell (World.block_lt_of_cell? w _ A)).trans A);(try replace D := (HB.out.cell (World.block_lt_of_cell? w _ D)).trans D);replace U := eq_true U;replace Y := eq_true Y;go_wp2_with (first | ((with_reducible refine ay (f := 124) rfl ?_); refine bg (some 20) Tryz.func124 #[.agg #[.int .i64 ((gY l0 a).f0), .string ((gY l0 a).f1), .int .i64 ((gY l0 a).f2), .int .i64 ((gY l0 a).f3)]] ?_; (with_reducible refine (mY.calls ((gY l0 a).f0) ((gY l0 a).f1) ((gY l0 a).f2) ((gY l0 a).f3) E G I J _ A8.out).mono ?_); rintro e l ⟨rfl, hb⟩; refine ⟨_, rfl, ?_⟩; replace o := RB o hb; replace HB := BS (w := w) hb; (try clear hb); (try clear hk); have xh : 0 ≤ (a : Int) := OD; have xi : (a : Int) < ((m.length : Int) : Int) := OD; obtain ⟨go10, L, M, xe, gl10, cl10, HG10⟩ := Kd.nT o.out (by omega); (first | cases M | (injection M with ea_ en_ ec_; (first | subst ea_ | (injection ea_ with ea_; subst ea_)); subst ec_; clear en_)); have GB10 := ah.mk xe; have GG10 := ah.mk HG10; clear xe gl10 HG10; obtain ⟨ce10, hcl10, hM10, hcc10, hfr10⟩ := Kd.kW o.out ru (a : Int) xh xi; obtain rfl := jZ hM10; have xu : l.cell? ⟨go10, (a : Int).toNat * 4, none⟩ = some (.int .i64 ((aj m a).f0)) := hcc10 0 _ rfl; have xv : l.cell? ⟨go10, (a : Int).toNat * 4 + 1, none⟩ = some (.string ((aj m a).f1)) := hcc10 1 _ rfl; have xw : l.cell? ⟨go10, (a : Int).toNat * 4 + 2, none⟩ = some (.int .i64 ((aj m a).f2)) := hcc10 2 _ rfl; have xx : l.cell? ⟨go10, (a : Int).toNat * 4 + 3, none⟩ = some (.int .i64 ((aj m a).f3)) := hcc10 3 _ rfl; have hf10_0 : l.frozen? ⟨go10, (a : Int).toNat * 4, none⟩ = false := hfr10 0; have hf10_1 : l.frozen? ⟨go10, (a : Int).toNat * 4 + 1, none⟩ = false := hfr10 1; have hf10_2 : l.frozen? ⟨go10, (a : Int).toNat * 4 + 2, none⟩ = false := hfr10 2; have hf10_3 : l.frozen? ⟨go10, (a : Int).toNat * 4 + 3, none⟩ = false := hfr10 3; clear hcl10 hcc10 hfr10 hM10; replace xh := eq_true xh; replace xi := eq_true xi; have HX12 := ah.mk (show Kd.R iH 121 l w.heap.size (fun _ => True) (.slice (some ⟨go10, 0, none⟩) m.length L) m from (RR o)); obtain ⟨ce12, hcl12, hM12, hcc12, hfr12⟩ := Kd.kW HX12.out ru (a : Int) (OD) (by have h_ : (a : Int) < ((m.length : Int) : Int) := OD; first | exact h_ | (have e_ := (Kd.bq o.out).1; omega) | simpa using h_); obtain rfl := jZ hM12; have HP12 := Kd.tq HX12.out (a : Int) (OD) (by have h_ : (a : Int) < ((m.length : Int) : Int) := OD; first | exact h_ | (have e_ := (Kd.bq o.out).1; omega) | simpa using h_) (seg := [.int .i64 E, .string G, .int .i64 I, .int .i64 J]) (j := 0) hcl12 hcc12 (show 4 ≤ 4 from by decide) (x' := (⟨E, G, I, J⟩ : bQ)) (pO _ _ _ (⟨E, G, I, J⟩ : bQ) ) (fun _ hk => hk); have Z := hcc12 0 _ rfl; (try simp only [show (iH).sz = 4 from rfl, Nat.mul_one, Nat.add_zero] at Z); have hf12_0 := hfr12 0; (try simp only [show (iH).sz = 4 from rfl, Nat.mul_one, Nat.add_zero] at hf12_0); have xa := hcc12 1 _ rfl; (try simp only [show (iH).sz = 4 from rfl, Nat.mul_one, Nat.add_zero] at xa); have hf12_1 := hfr12 1; (try simp only [show (iH).sz = 4 from rfl, Nat.mul_one, Nat.add_zero] at hf12_1); have xb := hcc12 2 _ rfl; (try simp only [show (iH).sz = 4 from rfl, Nat.mul_one, Nat.add_zero] at xb); have hf12_2 := hfr12 2; (try simp only [show (iH).sz = 4 from rfl, Nat.mul_one, Nat.add_zero] at hf12_2); have xc := hcc12 3 _ rfl; (try simp only [show (iH).sz = 4 from rfl, Nat.mul_one, Nat.add_zero] at xc); have hf12_3 := hfr12 3; (try simp only [show (iH).sz = 4 from rfl, Nat.mul_one, Nat.add_zero] at hf12_3); clear hcl12 hcc12 hfr12 hM12) | ((with_reducible refine iy (t := 121) (p := 21) rfl ?_); refine gH (t := 121) (p := 21) (v := ?vo_w13) (w1 := ((((l.setCell ⟨go10, (a : Int).toNat * 4, none⟩ (.int .i64 E)).setCell ⟨go10, (a : Int).toNat * 4 + 1, none⟩ (.string G)).setCell ⟨go10, (a : Int).toNat * 4 + 2, none⟩ (.int .i64 I)).setCell ⟨go10, (a : Int).toNat * 4 + 3, none⟩ (.int .i64 J))) ?hg ?ho ?hn ?hr ?_; (case ho => rfl); (case hg => rfl); (case hn => rfl); (case hr => first | (go_simp; done) | (go_simp; rfl)); intro K hw; have hg : l.grownBy K (some go10) := (by rw [hw]; exact HP12.2); have hp_ : Kd.R iH 121 K w.heap.size (fun _ => True) (.slice (some ⟨go10, 0, none⟩) m.length L) xd := (by rw [hw, xg.out]; exact HP12.1); clear HP12; replace o := ah.mk (hp_); replace HB := ah.mk ((by rw [hw]; exact fI (fI (fI (fI (HB.out) GB10.out) GB10.out) GB10.out) GB10.out : Below w.heap.size w K)); clear hg hw hp_));go_roundg k1;case measure => have := xr.out; omega
    case rel => exact ⟨_, _, EQ, H', ks xr, ⟨(RR o)⟩, ⟨BL⟩⟩
   ·obtain rfl := Option.some.inj H;go_wp2;go_ret;exact ⟨_, EWW, (RR o), BL⟩
def lJ.f (k : Nat) (LU : Int) (l0_1 : List (nE)) : Option (Int × (List (bQ))) := (fZ.f k l0_1).bind fun t135 => (some (LU, t135))
theorem lJ.calls (k : Nat) (LU : Int) (A : Option Addr) (D : Nat) (u : List (nE)) (r1 : Int) (r2 : List (bQ)) (w : World) (L : Kd.C CO w A u.length u) (M : u.length ≤ D) (h : lJ.f k LU u = some (r1, r2)) :
  Calls Tryz.prog 57 #[.agg #[.int .i64 LU, .slice A u.length D]] w fun e w' => ∃ v1_ : Value, e = .returned (.agg #[.int .i64 r1, v1_]) ∧ Kd.R iH 121 w' w.heap.size (fun _ => True) v1_ r2 ∧ Below w.heap.size w w' := by
 have xA := Tryz.underlying81;have xB := Tryz.underlying72;have Z := ah.mk L;have xa := ah.mk M;clear L M;have HB := ah.mk (Below.refl w.heap.size w);unfold lJ.f at h;have H := h;clear h;replace H := be H; obtain ⟨K, A2, H⟩ := H;simp only [Option.some.injEq, Prod.mk.injEq] at H;obtain ⟨rfl, rfl⟩ := H;go_enter Tryz.func57, Tryz.ntmps57;go_wp2_with (first | ((with_reducible refine aJ (N := 1) rfl ?_); refine bf (N := 1) (cs := #[.int .i64 LU, .slice A u.length D]) (t := 81) ?_; intro xb hg w3 hbox hb; have a := ah.mk hbox; have xc := SZ (w := w) hg; have xx := xc; replace HB := BS (w := w) hb; clear hb hbox hg) | ((with_reducible refine aJ (N := 2) rfl ?_); refine bf (N := 2) (cs := #[.int .i64 0, .slice none 0 0]) (t := 72) ?_; intro z hg w4 hbox hb; have l := ah.mk (hbox); have xd := SZ (w := w) hg; have xy := xd; replace HB := BS (w := w) hb; have E := NL a hg; have G := NG a hg; replace a := KB a hb; clear hb hbox hg) | ((with_reducible refine aJ (N := 3) rfl ?_); refine bf (N := 3) (cs := #[.int .i64 0, .slice none 0 0]) (t := 72) ?_; intro O hg w5 hbox hb; have x := ah.mk (hbox); have xe := SZ (w := w) hg; have xz := xe; replace HB := BS (w := w) hb; have y := NL a hg; have I := NG a hg; replace a := KB a hb; have m := NL l hg; have J := NG l hg; replace l := KB l hb; clear hb hbox hg; have xC := E.out; have xD := G.out; have xE := y.out; have xF := I.out; obtain ⟨xt, xu, xv, xw⟩ := cz2 a.out; have xG := J.out; have xH := m.out; obtain ⟨xf, xg, xh, xi⟩ := cz2 x.out) | ((with_reducible refine ay (f := 95) rfl ?_); refine bg (some 9) Tryz.func95 #[.slice A u.length D] ?_; (with_reducible refine (fZ.calls k _ _ u K _ ?side1 ?side2 A2.out).mono ?_); (case side1 => exact Kd.fB Z.out BL); (case side2 => exact xa.out); rintro e xJ ⟨xI, rfl, xj, hb⟩; refine ⟨_, rfl, ?_⟩; have n0_ := ah.mk (Kd.bV xj (aK BL)); have n1_ := ah.mk (dz (g := xb) (o := .cells #[.int .i64 LU, .slice A u.length D] 81 (0, 0)) (by (with_reducible repeat (first | refine aC ?_ _ | refine aH ?_ | refine aD ?_ _)); refine dU ?_ y.out _; (with_reducible repeat (first | refine aC ?_ _ | refine aH ?_ | refine aD ?_ _)); exact a.out) hb); have n2_ := ah.mk (dz (g := z) (o := .cells #[.int .i64 0, .slice none 0 0] 72 (0, 0)) (by (with_reducible repeat (first | refine aC ?_ _ | refine aH ?_ | refine aD ?_ _)); refine dU ?_ m.out _; (with_reducible repeat (first | refine aC ?_ _ | refine aH ?_ | refine aD ?_ _)); exact l.out) hb); have n3_ := ah.mk (dz (g := O) (o := .cells #[.int .i64 LU, .slice none 0 0] 72 (0, 0)) (by (with_reducible repeat (first | refine aC ?_ _ | refine aH ?_ | refine aD ?_ _)); refine aX (cs := #[.int .i64 0, .slice none 0 0]) ?_ 0 _ rfl; (with_reducible repeat (first | refine aC ?_ _ | refine aH ?_ | refine aD ?_ _)); exact x.out) hb); replace HB := BS (w := w) hb; clear a l x; have P := n0_; have a := n1_; have l := n2_; have x := n3_; clear n0_ n1_ n2_ n3_; (try clear hb); (try clear xj); obtain ⟨U, Y, xk⟩ := Kd.dw P.out; subst xk; obtain ⟨xl, xm, xn, xo⟩ := cz2 x.out; obtain ⟨xp, xq, xr, xs⟩ := cz2 l.out));refine bodyPost_ret (results_cell_row rfl _ _ z 72 #[.int .i64 LU, .slice U K.length Y] (0, 0) _ rfl (by (with_reducible repeat (first | refine aC ?_ _ | refine aH ?_ | refine aD ?_ _)); refine aX (cs := #[.int .i64 LU, .slice none 0 0]) ?_ 1 _ rfl; (with_reducible repeat (first | refine aC ?_ _ | refine aH ?_ | refine aD ?_ _)); refine aX (cs := #[.int .i64 0, .slice none 0 0]) ?_ 0 _ rfl; (with_reducible repeat (first | refine aC ?_ _ | refine aH ?_ | refine aD ?_ _)); refine dU ?_ m.out _; (with_reducible repeat (first | refine aC ?_ _ | refine aH ?_ | refine aD ?_ _)); exact l.out) Tryz.underlying72 rfl (by kernel_rfl)) rfl ?_;exact ⟨_, EWW, by (with_reducible repeat (first | apply Kd.eH | apply Kd.cZ | apply Kd.dN)); exact Kd.bI (Kd.fQ (p := ⟨z, 1, none⟩) (Kd.fQ (p := ⟨z, 0, none⟩) (Kd.fQ (p := ⟨O, 1, none⟩) (Kd.ng (Kd.ng P.out x.out (by decide)) l.out (by decide)) (fun _ hk => hk.1.2) (.slice U K.length Y)) (fun _ hk => hk.2) (.int .i64 LU)) (fun _ hk => hk.2) (.slice U K.length Y)) (fun _ hk => trivial), BL⟩
def fV.l0 : Nat → List (S81) → List (S72) → Int → Option ((List (S72)))
 | 0, _, _, _ => none
 | k + 1, a, b, c => if c < (a.length : Int) then (if 0 ≤ c then ((lJ.f k ((kR a c).f0) ((kR a c).f1)).bind fun d => (if c < (b.length : Int) then (fV.l0 k a (b.set (c : Int).toNat (⟨d.1, d.2⟩ : S72)) (wrap64 (c + 1))) else (none))) else (none)) else (some b)
def fV.f (k : Nat) (l0 : List (S81)) : Option ((List (S72))) := if 0 ≤ (l0.length : Int) then (if ((l0.length : Int) : Int).toNat ≤ 8796093022208 then (fV.l0 k l0 (List.replicate ((l0.length : Int) : Int).toNat z72) 0) else (none)) else (none)
theorem fV.calls (k : Nat) (A0 : Option Addr) (c0 : Nat) (l0 : List (S81)) (r : List (S72)) (w : World) (xk : Kd.C k81 w A0 l0.length l0) (xl : l0.length ≤ c0) (h : fV.f k l0 = some r) :
  Calls Tryz.prog 33 #[.slice A0 l0.length c0] w fun e w' => ∃ v0_ : Value, e = .returned (v0_) ∧ Kd.S k72 72 w' w.heap.size (fun _ => True) v0_ r ∧ Below w.heap.size w w' := by
 have xC := Tryz.underlying81;have xD := Tryz.underlying72;have xx := ah.mk xk;have xG := ah.mk xl;clear xk xl;have HB := ah.mk (Below.refl w.heap.size w);unfold fV.f at h;have H := h;clear h;replace H := ifP H; obtain ⟨c2, H⟩ := H;have xm := eq_true c2;have xn : decide (0 ≤ (l0.length : Int)) = true := decide_eq_true c2;clear c2;replace H := ifP H; obtain ⟨c3, H⟩ := H;have xo := eq_true c3;have xp : decide (((l0.length : Int) : Int).toNat ≤ 8796093022208) = true := decide_eq_true c3;clear c3;obtain ⟨xq, u⟩ : ∃ y_ : List (S72), y_ = (List.replicate ((l0.length : Int) : Int).toNat z72) := ⟨_, rfl⟩;replace H : (fV.l0 k l0 xq 0) = some r := by first | (rw [u]; with_reducible exact H) | (have H2_ := (Option.bind_some _ _).symm.trans H; rw [u]; with_reducible exact H2_) | (have H2_ := (Option.bind_some _ _).symm.trans H; with_reducible exact H2_) | with_reducible exact H | (rw [u]; exact H) | exact H
 have L := ah.mk u;clear u;have H' := ah.mk H;clear H;go_enter Tryz.func33, Tryz.ntmps33;go_wp2_with (first | ((with_reducible refine aJ (N := 7) rfl ?_); refine Kd.KG k72 _ 72 rfl (N := 7) rfl 35 _ _ rfl (l0.length : Int) rfl rfl Tryz.underlying35 (.agg #[(.int .i64 0), (.slice none 0 0)]) 32 KO rfl (by decide) (by omega) z72 (ok := fun _ => True) (okp := fun _ => True) (Ba _ _ _ z72 (Kd.nO _ _ _ _ _)) (fun _ hk => hk) trivial (OD) (Nat.le_trans (Nat.mul_le_mul_right _ (OD : (l0.length : Int).toNat ≤ 8796093022208)) (by omega)) (Below.refl _ _) (Nat.le_refl _) ?_; intro xr xy M hb hg_ hnew_; clear hg_ hnew_; (first | rw [← L.out] at M | (simp only [Int.reduceToNat] at M; rw [← L.out] at M)); have xf := ah.mk (Kd.oz M (aK BL)); replace HB := BS (w := w) hb; clear hb M))
 go_loopg [4] k (fun kq v4 w' => ∃ (m : List (S72)) (a : Int), v4 = .int .i64 a ∧ ah (fV.l0 kq l0 m a = some r) ∧ ah (kq ≤ k) ∧ ah (Kd.S k72 72 w' w.heap.size (fun _ => True) xr m) ∧ ah (Below w.heap.size w w'))
 case atStart => exact ⟨_, _, EQ, H', ⟨Nat.le_refl _⟩, ⟨(SR xf)⟩, ⟨BL⟩⟩
 case round =>
  clear H';(try clear c2);(try clear xm);(try clear xn);(try clear c3);(try clear xo);(try clear xp);obtain ⟨m, a, rfl, HA, xs, l, HB⟩ := hrel
  cases gk with
  | zero => exact absurd HA.out (by simp [fV.l0])
  | succ k1 =>
   have H := HA.out;clear HA;simp only [fV.l0] at H;replace H := ifD H; rcases H with ⟨xt, H⟩ | ⟨xt, H⟩
   ·replace H := ifN H; obtain ⟨xE, H⟩ := H;replace H := be H; obtain ⟨⟨A, I⟩, A8, H⟩ := H;dsimp only at H;replace H := ifN H; obtain ⟨xF, H⟩ := H;obtain ⟨xd, x⟩ : ∃ y_ : List (S72), y_ = (m.set (a : Int).toNat (⟨A, I⟩ : S72)) := ⟨_, rfl⟩;replace H : (fV.l0 k1 l0 xd (wrap64 (a + 1))) = some r := by first | (rw [x]; with_reducible exact H) | (have H2_ := (Option.bind_some _ _).symm.trans H; rw [x]; with_reducible exact H2_) | (have H2_ := (Option.bind_some _ _).symm.trans H; with_reducible exact H2_) | with_reducible exact H | (rw [x]; exact H) | exact H
    have xg := ah.mk x;clear x;have H' := ah.mk H;clear H;have O : 0 ≤ (a : Int) := OD;have P : a < (l0.length : Int) := OD;obtain ⟨xz, Z, xa, xu, y, z, hl141_1, hi141_1⟩ := Ib xx.out a O P
    cases xu
    (try replace y := (HB.out.cell (World.block_lt_of_cell? w _ y)).trans y);(try replace z := (HB.out.cell (World.block_lt_of_cell? w _ z)).trans z);have U := ah.mk hi141_1;have Y := ah.mk hl141_1;clear hi141_1 hl141_1;replace O := eq_true O;replace P := eq_true P;go_wp2_with (first | ((with_reducible refine ay (f := 57) rfl ?_); refine bg (some 20) Tryz.func57 #[.agg #[.int .i64 ((kR l0 a).f0), .slice Z ((kR l0 a).f1).length xa]] ?_; (with_reducible refine (lJ.calls k1 ((kR l0 a).f0) _ _ ((kR l0 a).f1) A I _ ?side1 ?side2 A8.out).mono ?_); (case side1 => exact CB U); (case side2 => exact Y.out); rintro e o ⟨D, rfl, xh, hb⟩; refine ⟨_, rfl, ?_⟩; replace l := ah.mk (Kd.pG (SR l) (Kd.iV xh) hb); have E := ah.mk (Kd.bV xh (aK BL)); replace HB := BS (w := w) hb; (try clear hb); (try clear hk); (try clear xh); have xi : 0 ≤ (a : Int) := OD; have xj : (a : Int) < ((m.length : Int) : Int) := OD; obtain ⟨go10, J, K, xe, gl10, cl10, HG10⟩ := Kd.HV l.out (by omega); (first | cases K | (injection K with ea_ en_ ec_; (first | subst ea_ | (injection ea_ with ea_; subst ea_)); subst ec_; clear en_)); have GB10 := ah.mk xe; have GG10 := ah.mk HG10; clear xe gl10 HG10; obtain ⟨_, ce10, hcl10, hM10, hcc10, hfr10, _, _⟩ := Kd.Dx l.out z72 (a : Int) xi xj; obtain ⟨ve10_1, rfl, ge10_1⟩ := rD hM10; have xv : o.cell? ⟨go10, (a : Int).toNat * 2, none⟩ = some (.int .i64 ((dY m a).f0)) := hcc10 0 _ rfl; have xw : o.cell? ⟨go10, (a : Int).toNat * 2 + 1, none⟩ = some (ve10_1) := hcc10 1 _ rfl; have hf10_0 : o.frozen? ⟨go10, (a : Int).toNat * 2, none⟩ = false := hfr10 0; have hf10_1 : o.frozen? ⟨go10, (a : Int).toNat * 2 + 1, none⟩ = false := hfr10 1; clear hcl10 hcc10 hfr10 hM10; replace xi := eq_true xi; replace xj := eq_true xj; have n_ := ah.mk (Kd.lu (ok' := (fun k_ => some k_ ≠ (D : Value).ownBlock)) l.out (fun k_ hk => hk.2)); clear l; have l := n_; clear n_; have HX12 := ah.mk (show Kd.S k72 72 o w.heap.size (fun k_ => ((fun _ => True)) k_ ∧ ¬ ((fun k_ => some k_ = (D : Value).ownBlock)) k_) (.slice (some ⟨go10, 0, none⟩) m.length J) m from (by (with_reducible repeat (first | apply Kd.jo | apply Kd.gD | apply Kd.jR)); exact Kd.lu l.out (fun k_ hk => ⟨trivial, fun e_ => hk e_⟩))); obtain ⟨oki12, ce12, hcl12, hM12, hcc12, hfr12, hoki12, hH12⟩ := Kd.Dx HX12.out z72 (a : Int) (OD) (by have h_ : (a : Int) < ((m.length : Int) : Int) := OD; first | exact h_ | (have e_ := (Kd.iX l.out).1; omega) | simpa using h_); obtain ⟨ve12_1, rfl, ge12_1⟩ := rD hM12; have HP12 := Kd.Kj hH12 (OD) (by have h_ : (a : Int) < ((m.length : Int) : Int) := OD; first | exact h_ | (have e_ := (Kd.iX l.out).1; omega) | simpa using h_) (seg := [.int .i64 A, D]) (j := 0) (show 2 ≤ 2 from by decide) (x' := (⟨A, I⟩ : S72)) (Ba _ _ _ (⟨A, I⟩ : S72) (Kd.bI (Kd.nM rfl (Kd.bI (ok' := fun k_ => ((fun _ => True)) k_ ∧ k_ ≠ go10) (Kd.gL (E.out) (Kd.tC l.out) (by decide)) (fun k_ hk => ⟨trivial, fun e_ => (hk.2) (by rw [e_]; rfl)⟩))) (fun _ h_ => Or.inr (h_)))) (fun _ hk => hk) (fun k_ hk_ => ((Kd.bI (ok' := fun k_ => ((fun _ => True)) k_ ∧ k_ ≠ go10) (Kd.gL (E.out) (Kd.tC l.out) (by decide)) (fun k_ hk => ⟨trivial, fun e_ => (hk.2) (by rw [e_]; rfl)⟩))).1 k_ hk_.symm); have hs12_0 : ∀ (P_ : Program) (w_ : World) (a_ : Addr) (m_ : Mode), (store a_ D m_).run P_ w_ = stored P_ w_ a_ D m_ := fun P_ w_ a_ m_ => run_store P_ w_ a_ _ m_ (by obtain ⟨_, _, e_⟩ := Kd.dw E.out; rw [e_]; rfl); have xb := hcc12 0 _ rfl; (try simp only [show (k72).sz = 2 from rfl, Nat.mul_one, Nat.add_zero] at xb); have hf12_0 := hfr12 0; (try simp only [show (k72).sz = 2 from rfl, Nat.mul_one, Nat.add_zero] at hf12_0); have xc := hcc12 1 _ rfl; (try simp only [show (k72).sz = 2 from rfl, Nat.mul_one, Nat.add_zero] at xc); have hf12_1 := hfr12 1; (try simp only [show (k72).sz = 2 from rfl, Nat.mul_one, Nat.add_zero] at hf12_1); clear hcl12 hcc12 hfr12 hM12 hoki12 hH12) | ((with_reducible refine iy (t := 72) (p := 21) rfl ?_); refine gH (t := 72) (p := 21) (v := ?vo_w13) (w1 := ((o.setCell ⟨go10, (a : Int).toNat * 2, none⟩ (.int .i64 A)).setCell ⟨go10, (a : Int).toNat * 2 + 1, none⟩ (D))) ?hg ?ho ?hn ?hr ?_; (case ho => rfl); (case hg => rfl); (case hn => rfl); (case hr => first | (go_simp; done) | (go_simp; rfl)); intro G hw; have hg : o.grownBy G (some go10) := (by rw [hw]; exact HP12.2); have hp_ : Kd.S k72 72 G w.heap.size (fun _ => True) (.slice (some ⟨go10, 0, none⟩) m.length J) xd := (by rw [hw, xg.out]; exact HP12.1); clear HP12; replace l := ah.mk (hp_); replace HB := ah.mk ((by rw [hw]; exact fI (fI (HB.out) GB10.out) GB10.out : Below w.heap.size w G)); clear E; clear hg hw hp_));go_roundg k1;case measure => have := xs.out; omega
    case rel => exact ⟨_, _, EQ, H', ks xs, ⟨by (with_reducible repeat (first | apply Kd.jo | apply Kd.gD | apply Kd.jR)); exact l.out⟩, ⟨BL⟩⟩
   ·obtain rfl := Option.some.inj H;go_wp2;go_ret;exact ⟨_, EWW, (SR l), BL⟩
end Go.Proofs.YthkfjbodohaglaaGreatDoor.PFnExactHalfSolvable
