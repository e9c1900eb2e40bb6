/- Walks of functions: what each computes. -/
import Derived.Test.YthkfjbodohaglaaGreatDoorProg
import Derived.Below
import Derived.Deep.Draws
import Derived.Deep.AppendLies
import Derived.Maps.AppendAt
import Derived.OwnWalk
import Derived.Laws.BytesArg
import Derived.Laws.MakeOwn
import Derived.Laws.OwnMore
import Derived.Deep.OwnRows
import Derived.Tactics
import Derived.Lib.ConvBytes
import Derived.Laws.Slices
import Derived.WalkKit
import Derived.KernelRfl
import Derived.RowKit3
import Derived.Deep.LoopGhost
import Derived.Deep.QuietTactic
import Derived.BigQuiet
import Derived.WideLaws
import Derived.Deep.DeepCutAuto
import Derived.Deep.CutBlock
import Derived.Deep.RegionHeld3
import Derived.Laws.Rows
import Derived.Lib.AppendStr
import Derived.ArgAppend
import Derived.Laws.IdiomCopy
import Derived.OrdersHeld
import Derived.Laws.BitsLemmas
import Derived.RowKit
import Derived.Test.YthkfjbodohaglaaGreatDoorZGradeOfW
import Derived.Test.YthkfjbodohaglaaGreatDoorZGradeOfShelf
import Derived.Test.YthkfjbodohaglaaGreatDoorZGradeOfHandSort
import Derived.Test.YthkfjbodohaglaaGreatDoorZGradeOfHandForm
import Derived.Test.YthkfjbodohaglaaGreatDoorZGradeOfHandAlone
import Derived.Test.YthkfjbodohaglaaGreatDoorZGradeOfHandReach
import Derived.Test.YthkfjbodohaglaaGreatDoorZGradeOfHandPut
import Derived.Test.YthkfjbodohaglaaGreatDoorZGradeOfHandRepl
namespace Go.Proofs.YthkfjbodohaglaaGreatDoor.PFnExactGradeOf
open Go.RowKit Go.Proofs.YthkfjbodohaglaaGreatDoorW.PrintWords Go.Proofs.YthkfjbodohaglaaGreatDoorW.PrintLast Go.Proofs.YthkfjbodohaglaaGreatDoorW.PrintMore Go.Proofs.YthkfjbodohaglaaGreatDoor.Sq
attribute [local go_sem] jZ ko lT lU jw jy kg kr
set_option linter.unusedVariables false
set_option linter.unusedSimpArgs false
set_option maxHeartbeats 8000000
set_option maxRecDepth 100000
def KT : Option Int → Value
 | none => .nilIface
 | some c => .iface 0 (.int .i64 c)
theorem mI : KT none = .nilIface := rfl
theorem mJ (c : Int) : KT (some c) = .iface 0 (.int .i64 c) := rfl
theorem info3 : (Tryz.prog.info? 3).map (fun i => (i.zero, i.size, i.bytes)) = some (some (.int .i64 0), 1, 8) := by kernel_rfl
theorem JE : (Tryz.prog.info? 4).map (fun i => (i.zero, i.size, i.bytes)) = some (some (.bool false), 1, 1) := by kernel_rfl
theorem info5 : (Tryz.prog.info? 5).map (fun i => (i.zero, i.size, i.bytes)) = some (some (.int .u8 0), 1, 1) := by kernel_rfl
theorem DV : (Tryz.prog.info? 9).map (fun i => (i.zero, i.size, i.bytes)) = some (some (.string ⟨#[]⟩), 1, 16) := by kernel_rfl
theorem Kj : (Tryz.prog.info? 25).map (fun i => (i.zero, i.size, i.bytes)) = some (some (.slice none 0 0), 1, 24) := by kernel_rfl
theorem Kk : (Tryz.prog.info? 62).map (fun i => (i.zero, i.size, i.bytes)) = some (some (.agg #[(.string ⟨#[]⟩), (.int .i64 0)]), 2, 24) := by kernel_rfl
theorem Kl : (Tryz.prog.info? 72).map (fun i => (i.zero, i.size, i.bytes)) = some (some (.agg #[(.int .i64 0), (.slice none 0 0)]), 2, 32) := by kernel_rfl
theorem uU : (Tryz.prog.info? 92).map (fun i => (i.zero, i.size, i.bytes)) = some (some (.agg #[(.int .i64 0), (.bool false), (.int .i64 0), (.int .i64 0)]), 4, 32) := by kernel_rfl
theorem Jg : (Tryz.prog.info? 121).map (fun i => (i.zero, i.size, i.bytes)) = some (some (.agg #[(.int .i64 0), (.string ⟨#[]⟩), (.int .i64 0), (.int .i64 0)]), 4, 40) := by kernel_rfl
structure nC where
 f0 : Int
 f1 : ByteArray
 f2 : Int
 f3 : Int
def z124 : nC := ⟨(0 : Int), (⟨#[]⟩ : ByteArray), (0 : Int), (0 : Int)⟩
def BN : Kd nC := Kd.iso (Kd.pair (Kd.int .i64) (Kd.pair Kd.string (Kd.pair (Kd.int .i64) (Kd.int .i64)))) (fun x : nC => (x.f0, x.f1, x.f2, x.f3))
theorem Gh {w : World} {x : nC} {cs : List Value} (h : BN.K w x cs) : cs = [.int .i64 x.f0, .string x.f1, .int .i64 x.f2, .int .i64 x.f3] := by
 obtain ⟨_, _, rfl, rfl, ⟨_, _, rfl, rfl, ⟨_, _, rfl, rfl, rfl⟩⟩⟩ := h;exact rfl
def gL (xs : List nC) (i : Int) : nC := xs.getD i.toNat z124
theorem Fv {w : World} {A : Option Addr} {n : Nat} {xs : List nC} (h : Kd.C BN w A n xs) (i : Int) (h0 : 0 ≤ i) (h1 : i < n) : ∃ ad , A = some ad ∧ w.cell? (ad.add (i.toNat * 4)) = some (.int .i64 (gL xs i).f0) ∧ w.cell? ⟨(ad.add (i.toNat * 4)).block, (ad.add (i.toNat * 4)).off + 1, none⟩ = some (.string (gL xs i).f1) ∧ w.cell? ⟨(ad.add (i.toNat * 4)).block, (ad.add (i.toNat * 4)).off + 2, none⟩ = some (.int .i64 (gL xs i).f2) ∧ w.cell? ⟨(ad.add (i.toNat * 4)).block, (ad.add (i.toNat * 4)).off + 3, none⟩ = some (.int .i64 (gL xs i).f3) := by
 obtain ⟨ad, c, e, _, hK, a⟩ := Kd.tJ h z124 i h0 h1;have hc : ∀ j u, c[j]? = some u → w.cell? (ad.add (i.toNat * 4 + j)) = some u := a;obtain rfl := Gh hK;exact ⟨ad, e, hc 0 _ rfl, by rw [← jr _ _ 1 (by omega)]; exact hc 1 _ rfl, by rw [← jr _ _ 2 (by omega)]; exact hc 2 _ rfl, by rw [← jr _ _ 3 (by omega)]; exact hc 3 _ rfl⟩
structure S81 where
 f0 : Int
 f1 : (List nC)
def z81 : S81 := ⟨(0 : Int), ([] : List nC)⟩
def k81 : Kd S81 := Kd.iso (Kd.pair (Kd.int .i64) (Kd.slice 124 BN)) (fun x : S81 => (x.f0, x.f1))
theorem HV {w : World} {x : S81} {cs : List Value} (h : k81.K w x cs) : ∃ A1 c1, cs = [.int .i64 x.f0, .slice A1 x.f1.length c1] ∧ x.f1.length ≤ c1 ∧ BN.C w A1 x.f1.length x.f1 := by
 obtain ⟨_, _, rfl, rfl, ⟨A1, c1, rfl, l1, g1⟩⟩ := h;exact ⟨A1, c1, rfl, l1, g1⟩
def kJ (xs : List S81) (i : Int) : S81 := xs.getD i.toNat z81
theorem GK {w : World} {A : Option Addr} {n : Nat} {xs : List S81} (h : Kd.C k81 w A n xs) (i : Int) (h0 : 0 ≤ i) (h1 : i < n) : ∃ ad A1 c1, A = some ad ∧ w.cell? (ad.add (i.toNat * 2)) = some (.int .i64 (kJ xs i).f0) ∧ w.cell? ⟨(ad.add (i.toNat * 2)).block, (ad.add (i.toNat * 2)).off + 1, none⟩ = some (.slice A1 (kJ xs i).f1.length c1) ∧ (kJ xs i).f1.length ≤ c1 ∧ BN.C w A1 (kJ xs i).f1.length (kJ xs i).f1 := by
 obtain ⟨ad, c, e, _, hK, a⟩ := Kd.tJ h z81 i h0 h1;have hc : ∀ j u, c[j]? = some u → w.cell? (ad.add (i.toNat * 2 + j)) = some u := a;obtain ⟨A1, c1, rfl, l1, g1⟩ := HV hK;exact ⟨ad, A1, c1, e, hc 0 _ rfl, by rw [← jr _ _ 1 (by omega)]; exact hc 1 _ rfl, l1, g1⟩
structure S57 where
 f0 : ByteArray
 f1 : Int
def z57 : S57 := ⟨(⟨#[]⟩ : ByteArray), (0 : Int)⟩
def k57 : Kd S57 := Kd.iso (Kd.pair Kd.string (Kd.int .i64)) (fun x : S57 => (x.f0, x.f1))
theorem Hw {w : World} {x : S57} {cs : List Value} (h : k57.K w x cs) : cs = [.string x.f0, .int .i64 x.f1] := by
 obtain ⟨_, _, rfl, rfl, rfl⟩ := h;exact rfl
def lY (xs : List S57) (i : Int) : S57 := xs.getD i.toNat z57
theorem GJ {w : World} {A : Option Addr} {n : Nat} {xs : List S57} (h : Kd.C k57 w A n xs) (i : Int) (h0 : 0 ≤ i) (h1 : i < n) : ∃ ad , A = some ad ∧ w.cell? (ad.add (i.toNat * 2)) = some (.string (lY xs i).f0) ∧ w.cell? ⟨(ad.add (i.toNat * 2)).block, (ad.add (i.toNat * 2)).off + 1, none⟩ = some (.int .i64 (lY xs i).f1) := by
 obtain ⟨ad, c, e, _, hK, a⟩ := Kd.tJ h z57 i h0 h1;have hc : ∀ j u, c[j]? = some u → w.cell? (ad.add (i.toNat * 2 + j)) = some u := a;obtain rfl := Hw hK;exact ⟨ad, e, hc 0 _ rfl, by rw [← jr _ _ 1 (by omega)]; exact hc 1 _ rfl⟩
structure dG where
 f0 : Int
 f1 : ByteArray
 f2 : Int
 f3 : Int
def Dz : dG := ⟨(0 : Int), (⟨#[]⟩ : ByteArray), (0 : Int), (0 : Int)⟩
def jE : Kd dG := Kd.iso (Kd.pair (Kd.int .i64) (Kd.pair Kd.string (Kd.pair (Kd.int .i64) (Kd.int .i64)))) (fun x : dG => (x.f0, x.f1, x.f2, x.f3))
theorem Gg {w : World} {x : dG} {cs : List Value} (h : jE.K w x cs) : cs = [.int .i64 x.f0, .string x.f1, .int .i64 x.f2, .int .i64 x.f3] := by
 obtain ⟨_, _, rfl, rfl, ⟨_, _, rfl, rfl, ⟨_, _, rfl, rfl, rfl⟩⟩⟩ := h;exact rfl
theorem AL {w : World} {base : Nat} {ok : Nat → Prop} {x : dG} {cs : List Value} (h : jE.M w base ok x cs) : cs = [.int .i64 x.f0, .string x.f1, .int .i64 x.f2, .int .i64 x.f3] := by
 obtain ⟨_, _, rfl, rfl, ⟨_, _, rfl, rfl, ⟨_, _, rfl, rfl, rfl⟩⟩⟩ := h;exact rfl
theorem DW (w : World) (base : Nat) (ok : Nat → Prop) (x : dG)  : jE.M w base ok x [.int .i64 x.f0, .string x.f1, .int .i64 x.f2, .int .i64 x.f3] := ⟨[.int .i64 x.f0], [.string x.f1, .int .i64 x.f2, .int .i64 x.f3], rfl, rfl, ⟨[.string x.f1], [.int .i64 x.f2, .int .i64 x.f3], rfl, rfl, ⟨[.int .i64 x.f2], [.int .i64 x.f3], rfl, rfl, rfl⟩⟩⟩
def aj (xs : List dG) (i : Int) : dG := xs.getD i.toNat Dz
theorem jT {w : World} {A : Option Addr} {n : Nat} {xs : List dG} (h : Kd.C jE w A n xs) (i : Int) (h0 : 0 ≤ i) (h1 : i < n) : ∃ ad , A = some ad ∧ w.cell? (ad.add (i.toNat * 4)) = some (.int .i64 (aj xs i).f0) ∧ w.cell? ⟨(ad.add (i.toNat * 4)).block, (ad.add (i.toNat * 4)).off + 1, none⟩ = some (.string (aj xs i).f1) ∧ w.cell? ⟨(ad.add (i.toNat * 4)).block, (ad.add (i.toNat * 4)).off + 2, none⟩ = some (.int .i64 (aj xs i).f2) ∧ w.cell? ⟨(ad.add (i.toNat * 4)).block, (ad.add (i.toNat * 4)).off + 3, none⟩ = some (.int .i64 (aj xs i).f3) := by
 obtain ⟨ad, c, e, _, hK, a⟩ := Kd.tJ h Dz i h0 h1;have hc : ∀ j u, c[j]? = some u → w.cell? (ad.add (i.toNat * 4 + j)) = some u := a;obtain rfl := Gg hK;exact ⟨ad, e, hc 0 _ rfl, by rw [← jr _ _ 1 (by omega)]; exact hc 1 _ rfl, by rw [← jr _ _ 2 (by omega)]; exact hc 2 _ rfl, by rw [← jr _ _ 3 (by omega)]; exact hc 3 _ rfl⟩
structure S92 where
 f0 : Int
 f1 : Bool
 f2 : Int
 f3 : Int
def z92 : S92 := ⟨(0 : Int), false, (0 : Int), (0 : Int)⟩
def k92 : Kd S92 := Kd.iso (Kd.pair (Kd.int .i64) (Kd.pair Kd.bool (Kd.pair (Kd.int .i64) (Kd.int .i64)))) (fun x : S92 => (x.f0, x.f1, x.f2, x.f3))
theorem HY {w : World} {x : S92} {cs : List Value} (h : k92.K w x cs) : cs = [.int .i64 x.f0, .bool x.f1, .int .i64 x.f2, .int .i64 x.f3] := by
 obtain ⟨_, _, rfl, rfl, ⟨_, _, rfl, rfl, ⟨_, _, rfl, rfl, rfl⟩⟩⟩ := h;exact rfl
theorem rH (w : World) (base : Nat) (ok : Nat → Prop) (x : S92)  : k92.M w base ok x [.int .i64 x.f0, .bool x.f1, .int .i64 x.f2, .int .i64 x.f3] := ⟨[.int .i64 x.f0], [.bool x.f1, .int .i64 x.f2, .int .i64 x.f3], rfl, rfl, ⟨[.bool x.f1], [.int .i64 x.f2, .int .i64 x.f3], rfl, rfl, ⟨[.int .i64 x.f2], [.int .i64 x.f3], rfl, rfl, rfl⟩⟩⟩
def aQ (xs : List S92) (i : Int) : S92 := xs.getD i.toNat z92
theorem pW {w : World} {A : Option Addr} {n : Nat} {xs : List S92} (h : Kd.C k92 w A n xs) (i : Int) (h0 : 0 ≤ i) (h1 : i < n) : ∃ ad , A = some ad ∧ w.cell? (ad.add (i.toNat * 4)) = some (.int .i64 (aQ xs i).f0) ∧ w.cell? ⟨(ad.add (i.toNat * 4)).block, (ad.add (i.toNat * 4)).off + 1, none⟩ = some (.bool (aQ xs i).f1) ∧ w.cell? ⟨(ad.add (i.toNat * 4)).block, (ad.add (i.toNat * 4)).off + 2, none⟩ = some (.int .i64 (aQ xs i).f2) ∧ w.cell? ⟨(ad.add (i.toNat * 4)).block, (ad.add (i.toNat * 4)).off + 3, none⟩ = some (.int .i64 (aQ xs i).f3) := by
 obtain ⟨ad, c, e, _, hK, a⟩ := Kd.tJ h z92 i h0 h1;have hc : ∀ j u, c[j]? = some u → w.cell? (ad.add (i.toNat * 4 + j)) = some u := a;obtain rfl := HY hK;exact ⟨ad, e, hc 0 _ rfl, by rw [← jr _ _ 1 (by omega)]; exact hc 1 _ rfl, by rw [← jr _ _ 2 (by omega)]; exact hc 2 _ rfl, by rw [← jr _ _ 3 (by omega)]; exact hc 3 _ rfl⟩
structure S72 where
 f0 : Int
 f1 : (List dG)
def z72 : S72 := ⟨(0 : Int), ([] : List dG)⟩
def k72 : Kd S72 := Kd.iso (Kd.pair (Kd.int .i64) (Kd.slice 121 jE)) (fun x : S72 => (x.f0, x.f1))
theorem Hz {w : World} {x : S72} {cs : List Value} (h : k72.K w x cs) : ∃ A1 c1, cs = [.int .i64 x.f0, .slice A1 x.f1.length c1] ∧ x.f1.length ≤ c1 ∧ jE.C w A1 x.f1.length x.f1 := by
 obtain ⟨_, _, rfl, rfl, ⟨A1, c1, rfl, l1, g1⟩⟩ := h;exact ⟨A1, c1, rfl, l1, g1⟩
theorem Ck {w : World} {base : Nat} {ok : Nat → Prop} {x : S72} {cs : List Value} (h : k72.M w base ok x cs) : ∃ a, cs = [.int .i64 x.f0, a] ∧ jE.R 121 w base ok a x.f1 := by
 obtain ⟨_, _, rfl, rfl, ⟨a, rfl, g1⟩⟩ := h;exact ⟨a, rfl, g1⟩
theorem FB (w : World) (base : Nat) (ok : Nat → Prop) (x : S72) {a : Value} (g1 : jE.R 121 w base ok a x.f1) : k72.M w base ok x [.int .i64 x.f0, a] := ⟨[.int .i64 x.f0], [a], rfl, rfl, ⟨a, rfl, g1⟩⟩
def fM (xs : List S72) (i : Int) : S72 := xs.getD i.toNat z72
theorem uP {w : World} {A : Option Addr} {n : Nat} {xs : List S72} (h : Kd.C k72 w A n xs) (i : Int) (h0 : 0 ≤ i) (h1 : i < n) : ∃ ad A1 c1, A = some ad ∧ w.cell? (ad.add (i.toNat * 2)) = some (.int .i64 (fM xs i).f0) ∧ w.cell? ⟨(ad.add (i.toNat * 2)).block, (ad.add (i.toNat * 2)).off + 1, none⟩ = some (.slice A1 (fM xs i).f1.length c1) ∧ (fM xs i).f1.length ≤ c1 ∧ jE.C w A1 (fM xs i).f1.length (fM xs i).f1 := by
 obtain ⟨ad, c, e, _, hK, a⟩ := Kd.tJ h z72 i h0 h1;have hc : ∀ j u, c[j]? = some u → w.cell? (ad.add (i.toNat * 2 + j)) = some u := a;obtain ⟨A1, c1, rfl, l1, g1⟩ := Hz hK;exact ⟨ad, A1, c1, e, hc 0 _ rfl, by rw [← jr _ _ 1 (by omega)]; exact hc 1 _ rfl, l1, g1⟩
structure S62 where
 f0 : ByteArray
 f1 : Int
def z62 : S62 := ⟨(⟨#[]⟩ : ByteArray), (0 : Int)⟩
def k62 : Kd S62 := Kd.iso (Kd.pair Kd.string (Kd.int .i64)) (fun x : S62 => (x.f0, x.f1))
theorem Hy {w : World} {x : S62} {cs : List Value} (h : k62.K w x cs) : cs = [.string x.f0, .int .i64 x.f1] := by
 obtain ⟨_, _, rfl, rfl, rfl⟩ := h;exact rfl
theorem Cj {w : World} {base : Nat} {ok : Nat → Prop} {x : S62} {cs : List Value} (h : k62.M w base ok x cs) : cs = [.string x.f0, .int .i64 x.f1] := by
 obtain ⟨_, _, rfl, rfl, rfl⟩ := h;exact rfl
theorem Fz (w : World) (base : Nat) (ok : Nat → Prop) (x : S62)  : k62.M w base ok x [.string x.f0, .int .i64 x.f1] := ⟨[.string x.f0], [.int .i64 x.f1], rfl, rfl, rfl⟩
def gu (xs : List S62) (i : Int) : S62 := xs.getD i.toNat z62
theorem Ac {w : World} {A : Option Addr} {n : Nat} {xs : List S62} (h : Kd.C k62 w A n xs) (i : Int) (h0 : 0 ≤ i) (h1 : i < n) : ∃ ad , A = some ad ∧ w.cell? (ad.add (i.toNat * 2)) = some (.string (gu xs i).f0) ∧ w.cell? ⟨(ad.add (i.toNat * 2)).block, (ad.add (i.toNat * 2)).off + 1, none⟩ = some (.int .i64 (gu xs i).f1) := by
 obtain ⟨ad, c, e, _, hK, a⟩ := Kd.tJ h z62 i h0 h1;have hc : ∀ j u, c[j]? = some u → w.cell? (ad.add (i.toNat * 2 + j)) = some u := a;obtain rfl := Hy hK;exact ⟨ad, e, hc 0 _ rfl, by rw [← jr _ _ 1 (by omega)]; exact hc 1 _ rfl⟩
def iR (xs : List (List Int)) (i : Int) : (List Int) := xs.getD i.toNat ([] : List Int)
theorem CF {w : World} {A : Option Addr} {n : Nat} {xs : List (List Int)} (h : Kd.C (Kd.slice 3 (Kd.int .i64)) w A n xs) (i : Int) (h0 : 0 ≤ i) (h1 : i < n) : ∃ ad a m, A = some ad ∧ w.cell? (ad.add i.toNat) = some (.slice a (iR xs i).length m) ∧ (iR xs i).length ≤ m ∧ (Kd.int .i64).C w a (iR xs i).length (iR xs i) := by
 obtain ⟨ad, c, e, _, hK, o⟩ := Kd.tJ h ([] : List Int) i h0 h1;have hc : ∀ j u, c[j]? = some u → w.cell? (ad.add (i.toNat * 1 + j)) = some u := o;obtain ⟨a, m, rfl, l0, g0⟩ := hK;exact ⟨ad, a, m, e, by have hq := hc 0 _ rfl; rwa [Nat.mul_one, Nat.add_zero] at hq, l0, g0⟩
def lq.f (Lh Li : Int) (Lj : ByteArray) (a1 : Int) : Option (Int) := if (wrap64 (a1 - (Lj.size : Int))) < 0 then (some (-1)) else (some (wrap64 (a1 - (Lj.size : Int))))
theorem lq.calls (Lh Li : Int) (Lj : ByteArray) (J r : Int) (w : World) (h : lq.f Lh Li Lj J = some r) :
  Calls Tryz.prog 27 #[.agg #[.int .i64 Lh, .int .i64 Li, .string Lj], .int .i64 J] w fun e w' => e = .returned (.int .i64 r) ∧ Below w.heap.size w w' := by
 have K := Tryz.underlying23;have HB := ah.mk (Below.refl w.heap.size w);unfold lq.f at h;have H := h;clear h;replace H := ah.mk H;go_enter Tryz.func27, Tryz.ntmps27;go_wp2_with (first | ((with_reducible refine aJ (N := 2) rfl ?_); refine aY (N := 2) (cs := #[.int .i64 Lh, .int .i64 Li, .string Lj]) (t := 23) ?_; intro E hg G hbox hb; have a := ah.mk hbox; have m := SZ (w := w) hg; have I := m; replace HB := BS (w := w) hb; clear hb hbox hg; obtain ⟨o, u, x, y, z, A⟩ := cz3 a.out; refine bP ?_));refine Hide.mk ?_;replace H := H.out;replace H := ifD H; rcases H with ⟨D, H⟩ | ⟨D, H⟩
 ·obtain rfl := Option.some.inj H;(try go_wp2);go_ret;exact ⟨EWW, BL⟩
 ·obtain rfl := Option.some.inj H;(try go_wp2);go_ret;exact ⟨EWW, BL⟩
def lC.f (Lh : Int) (Li : ByteArray) (Lj a0_3 a1 : Int) : Option (Int) := if (wrap64 (a1 - (Li.size : Int))) < 0 then (some (-1)) else (some (wrap64 (a1 - (Li.size : Int))))
theorem lC.calls (Lh : Int) (Li : ByteArray) (Lj a : Int) (O r : Int) (w : World) (h : lC.f Lh Li Lj a O = some r) :
  Calls Tryz.prog 117 #[.agg #[.int .i64 Lh, .string Li, .int .i64 Lj, .int .i64 a], .int .i64 O] w fun e w' => e = .returned (.int .i64 r) ∧ Below w.heap.size w w' := by
 have J := Tryz.underlying124;have HB := ah.mk (Below.refl w.heap.size w);unfold lC.f at h;have H := h;clear h;replace H := ah.mk H;go_enter Tryz.func117, Tryz.ntmps117;go_wp2_with (first | ((with_reducible refine aJ (N := 2) rfl ?_); refine aY (N := 2) (cs := #[.int .i64 Lh, .string Li, .int .i64 Lj, .int .i64 a]) (t := 124) ?_; intro K hg L hbox hb; have m := ah.mk hbox; have o := SZ (w := w) hg; have M := o; replace HB := BS (w := w) hb; clear hb hbox hg; obtain ⟨u, x, y, z, A, D, E, G⟩ := cz4 m.out; refine bP ?_));refine Hide.mk ?_;replace H := H.out;replace H := ifD H; rcases H with ⟨I, H⟩ | ⟨I, H⟩
 ·obtain rfl := Option.some.inj H;(try go_wp2);go_ret;exact ⟨EWW, BL⟩
 ·obtain rfl := Option.some.inj H;(try go_wp2);go_ret;exact ⟨EWW, BL⟩
def fV.l0 : Nat → List (nC) → Int → Int → Option (Int)
 | 0, _, _, _ => none
 | k + 1, a, b, c => if c < (a.length : Int) then (if 0 ≤ c then ((lC.f ((gL a c).f0) ((gL a c).f1) ((gL a c).f2) ((gL a c).f3) b).bind fun d => (if d < 0 then (some (-1)) else (fV.l0 k a d (wrap64 (c + 1))))) else (none)) else (some b)
def fV.f (k : Nat) (l0 : List (nC)) (a1 : Int) : Option (Int) := if (wrap64 (a1 - (l0.length : Int))) < 0 then (some (-1)) else (fV.l0 k l0 (wrap64 (a1 - (l0.length : Int))) 0)
theorem fV.calls (k : Nat) (Z : Option Addr) (c0 : Nat) (l0 : List (nC)) (a1 r : Int) (w : World) (E : Kd.C BN w Z l0.length l0) (G : l0.length ≤ c0) (h : fV.f k l0 a1 = some r) :
  Calls Tryz.prog 88 #[.slice Z l0.length c0, .int .i64 a1] w fun e w' => e = .returned (.int .i64 r) ∧ Below w.heap.size w w' := by
 have O := Tryz.underlying124;have P := ah.mk E;have xd := ah.mk G;clear E G;have HB := ah.mk (Below.refl w.heap.size w);unfold fV.f at h;have H := h;clear h;replace H := ah.mk H;go_enter Tryz.func88, Tryz.ntmps88;replace H := H.out;replace H := ifD H; rcases H with ⟨D, H⟩ | ⟨D, H⟩
 ·obtain rfl := Option.some.inj H;(try go_wp2);go_ret;exact ⟨EWW, BL⟩
 ·have H' := ah.mk H;clear H;try go_wp2
  go_loopg [1, 5] k (fun kq v1 v5 w' => ∃ (y : Int) (a : Int), v1 = .int .i64 y ∧ v5 = .int .i64 a ∧ ah (fV.l0 kq l0 y a = some r) ∧ ah (kq ≤ k) ∧ ah (Below w.heap.size w w'))
  case atStart => exact ⟨_, _, EQ, EQ, H', ⟨Nat.le_refl _⟩, ⟨BL⟩⟩
  case round =>
   clear H';(try clear c3);(try clear D);obtain ⟨y, a, rfl, rfl, HA, I, HB⟩ := hrel
   cases gk with
   | zero => exact absurd HA.out (by simp [fV.l0])
   | succ k1 =>
    have H := HA.out;clear HA;simp only [fV.l0] at H;replace H := ifD H; rcases H with ⟨J, H⟩ | ⟨J, H⟩
    ·replace H := ifN H; obtain ⟨xc, H⟩ := H;replace H := be H; obtain ⟨K, A6, H⟩ := H;have z : 0 ≤ (a : Int) := OD;have A : a < (l0.length : Int) := OD;obtain ⟨U, L, m, o, u, x⟩ := Fv P.out a z A
     cases L
     (try replace m := (HB.out.cell (World.block_lt_of_cell? w _ m)).trans m);(try replace o := (HB.out.cell (World.block_lt_of_cell? w _ o)).trans o);(try replace u := (HB.out.cell (World.block_lt_of_cell? w _ u)).trans u);(try replace x := (HB.out.cell (World.block_lt_of_cell? w _ x)).trans x);replace z := eq_true z;replace A := eq_true A;replace H := ah.mk H;go_wp2_with (first | ((with_reducible refine ay (f := 117) rfl ?_); refine aW (some 23) Tryz.func117 #[.agg #[.int .i64 ((gL l0 a).f0), .string ((gL l0 a).f1), .int .i64 ((gL l0 a).f2), .int .i64 ((gL l0 a).f3)], .int .i64 y] ?_; (with_reducible refine (lC.calls ((gL l0 a).f0) ((gL l0 a).f1) ((gL l0 a).f2) ((gL l0 a).f3) y K _ A6.out).mono ?_); rintro e Y ⟨rfl, hb⟩; refine ⟨_, rfl, ?_⟩; replace HB := BS (w := w) hb; (try clear hb); refine bP ?_));refine Hide.mk ?_;replace H := H.out;replace H := ifD H; rcases H with ⟨M, H⟩ | ⟨M, H⟩
     ·obtain rfl := Option.some.inj H;(try go_wp2);go_ret;exact ⟨EWW, BL⟩
     ·have H' := ah.mk H;clear H;(try go_wp2);go_roundg k1;case measure => have := I.out; omega
      case rel => exact ⟨_, _, EQ, EQ, H', ks I, ⟨BL⟩⟩
    ·obtain rfl := Option.some.inj H;go_wp2;go_ret;exact ⟨EWW, BL⟩
def lg.f (k : Nat) (Lh : Int) (l0_1 : List (nC)) (a1 : Int) : Option (Int) := (fV.f k l0_1 a1).bind fun t106 => (if t106 < 0 then (some (-1)) else (some t106))
theorem lg.calls (k : Nat) (Lh : Int) (o : Option Addr) (u : Nat) (a : List (nC)) (M r : Int) (w : World) (x : Kd.C BN w o a.length a) (y : a.length ≤ u) (h : lg.f k Lh a M = some r) :
  Calls Tryz.prog 52 #[.agg #[.int .i64 Lh, .slice o a.length u], .int .i64 M] w fun e w' => e = .returned (.int .i64 r) ∧ Below w.heap.size w w' := by
 have Z := Tryz.underlying81;have z := ah.mk x;have A := ah.mk y;clear x y;have HB := ah.mk (Below.refl w.heap.size w);unfold lg.f at h;have H := h;clear h;replace H := be H; obtain ⟨K, A3, H⟩ := H;replace H := ah.mk H;go_enter Tryz.func52, Tryz.ntmps52;go_wp2_with (first | ((with_reducible refine aJ (N := 2) rfl ?_); refine aY (N := 2) (cs := #[.int .i64 Lh, .slice o a.length u]) (t := 81) ?_; intro O hg P hbox hb; have m := ah.mk hbox; have D := SZ (w := w) hg; have U := D; replace HB := BS (w := w) hb; clear hb hbox hg; obtain ⟨E, G, I, J⟩ := cz2 m.out) | ((with_reducible refine ay (f := 88) rfl ?_); refine aW (some 8) Tryz.func88 #[.slice o a.length u, .int .i64 M] ?_; (with_reducible refine (fV.calls k _ _ a M K _ ?side1 ?side2 A3.out).mono ?_); (case side1 => exact CB z); (case side2 => exact A.out); rintro e Y ⟨rfl, hb⟩; refine ⟨_, rfl, ?_⟩; replace m := KB m hb; replace HB := BS (w := w) hb; (try clear hb); refine bP ?_));refine Hide.mk ?_;replace H := H.out;replace H := ifD H; rcases H with ⟨L, H⟩ | ⟨L, H⟩
 ·obtain rfl := Option.some.inj H;(try go_wp2);go_ret;exact ⟨EWW, BL⟩
 ·obtain rfl := Option.some.inj H;(try go_wp2);go_ret;exact ⟨EWW, BL⟩
def fU.l0 : Nat → List (S81) → Int → Int → Option (Int)
 | 0, _, _, _ => none
 | k + 1, a, b, c => if c < (a.length : Int) then (if 0 ≤ c then ((lg.f k ((kJ a c).f0) ((kJ a c).f1) b).bind fun d => (if d < 0 then (some (-1)) else (fU.l0 k a d (wrap64 (c + 1))))) else (none)) else (some b)
def fU.f (k : Nat) (l0 : List (S81)) (a1 : Int) : Option (Int) := if (wrap64 (a1 - (l0.length : Int))) < 0 then (some (-1)) else (fU.l0 k l0 (wrap64 (a1 - (l0.length : Int))) 0)
theorem fU.calls (k : Nat) (A0 : Option Addr) (c0 : Nat) (l0 : List (S81)) (a1 r : Int) (w : World) (I : Kd.C k81 w A0 l0.length l0) (J : l0.length ≤ c0) (h : fU.f k l0 a1 = some r) :
  Calls Tryz.prog 28 #[.slice A0 l0.length c0, .int .i64 a1] w fun e w' => e = .returned (.int .i64 r) ∧ Below w.heap.size w w' := by
 have xd := Tryz.underlying81;have U := ah.mk I;have xf := ah.mk J;clear I J;have HB := ah.mk (Below.refl w.heap.size w);unfold fU.f at h;have H := h;clear h;replace H := ah.mk H;go_enter Tryz.func28, Tryz.ntmps28;replace H := H.out;replace H := ifD H; rcases H with ⟨G, H⟩ | ⟨G, H⟩
 ·obtain rfl := Option.some.inj H;(try go_wp2);go_ret;exact ⟨EWW, BL⟩
 ·have H' := ah.mk H;clear H;try go_wp2
  go_loopg [1, 5] k (fun kq v1 v5 w' => ∃ (u : Int) (a : Int), v1 = .int .i64 u ∧ v5 = .int .i64 a ∧ ah (fU.l0 kq l0 u a = some r) ∧ ah (kq ≤ k) ∧ ah (Below w.heap.size w w'))
  case atStart => exact ⟨_, _, EQ, EQ, H', ⟨Nat.le_refl _⟩, ⟨BL⟩⟩
  case round =>
   clear H';(try clear c3);(try clear G);obtain ⟨u, a, rfl, rfl, HA, K, HB⟩ := hrel
   cases gk with
   | zero => exact absurd HA.out (by simp [fU.l0])
   | succ k1 =>
    have H := HA.out;clear HA;simp only [fU.l0] at H;replace H := ifD H; rcases H with ⟨L, H⟩ | ⟨L, H⟩
    ·replace H := ifN H; obtain ⟨xe, H⟩ := H;replace H := be H; obtain ⟨M, A6, H⟩ := H;have x : 0 ≤ (a : Int) := OD;have y : a < (l0.length : Int) := OD;obtain ⟨Y, D, E, O, m, o, hl107_1, hi107_1⟩ := GK U.out a x y
     cases O
     (try replace m := (HB.out.cell (World.block_lt_of_cell? w _ m)).trans m);(try replace o := (HB.out.cell (World.block_lt_of_cell? w _ o)).trans o);have z := ah.mk hi107_1;have A := ah.mk hl107_1;clear hi107_1 hl107_1;replace x := eq_true x;replace y := eq_true y;replace H := ah.mk H;go_wp2_with (first | ((with_reducible refine ay (f := 52) rfl ?_); refine aW (some 23) Tryz.func52 #[.agg #[.int .i64 ((kJ l0 a).f0), .slice D ((kJ l0 a).f1).length E], .int .i64 u] ?_; (with_reducible refine (lg.calls k1 ((kJ l0 a).f0) _ _ ((kJ l0 a).f1) u M _ ?side1 ?side2 A6.out).mono ?_); (case side1 => exact CB z); (case side2 => exact A.out); rintro e Z ⟨rfl, hb⟩; refine ⟨_, rfl, ?_⟩; replace HB := BS (w := w) hb; (try clear hb); refine bP ?_));refine Hide.mk ?_;replace H := H.out;replace H := ifD H; rcases H with ⟨P, H⟩ | ⟨P, H⟩
     ·obtain rfl := Option.some.inj H;(try go_wp2);go_ret;exact ⟨EWW, BL⟩
     ·have H' := ah.mk H;clear H;(try go_wp2);go_roundg k1;case measure => have := K.out; omega
      case rel => exact ⟨_, _, EQ, EQ, H', ks K, ⟨BL⟩⟩
    ·obtain rfl := Option.some.inj H;go_wp2;go_ret;exact ⟨EWW, BL⟩
def lu.f (l0 : List Int) (a1 : Int) : Option (Int) := if (wrap64 (a1 - (l0.length : Int))) < 0 then (some (-1)) else (some (wrap64 (a1 - (l0.length : Int))))
theorem lu.calls (u : Option Addr) (x : Nat) (l0 : List Int) (y r : Int) (w : World) (a : Kd.C (Kd.int .i64) w u l0.length l0) (m : l0.length ≤ x) (h : lu.f l0 y = some r) :
  Calls Tryz.prog 29 #[.slice u l0.length x, .int .i64 y] w fun e w' => e = .returned (.int .i64 r) ∧ cB w w' := by
 have z := ah.mk a;have A := ah.mk m;clear a m;unfold lu.f at h;have H := h;clear h;replace H := ah.mk H;go_enter Tryz.func29, Tryz.ntmps29;replace H := H.out;replace H := ifD H; rcases H with ⟨o, H⟩ | ⟨o, H⟩
 ·obtain rfl := Option.some.inj H;(try go_wp2);go_ret;exact ⟨EQ, DR⟩
 ·obtain rfl := Option.some.inj H;(try go_wp2);go_ret;exact ⟨EQ, DR⟩
def jQ.f (k : Nat) (Lh Li : Int) (Lj : ByteArray) (Ll : List (S81)) (Lm : List Int) (Lp a1 : Int) : Option (Int) := (lq.f Lh Li Lj a1).bind fun t110 => (if t110 < 0 then (some (-1)) else ((fU.f k Ll t110).bind fun t111 => (if t111 < 0 then (some (-1)) else ((lu.f Lm t111).bind fun t112 => (if t112 < 0 then (some (-1)) else (some t112))))))
theorem jQ.calls (k : Nat) (Lh Li : Int) (Lj : ByteArray) (A0_3 : Option Addr) (c0_3 : Nat) (Ll : List (S81)) (A0_4 : Option Addr) (c0_4 : Nat) (Lm : List Int) (Lp a1 r : Int) (w : World) (hr0_3 : Kd.C k81 w A0_3 Ll.length Ll) (hc0_3 : Ll.length ≤ c0_3) (hr0_4 : Kd.C (Kd.int .i64) w A0_4 Lm.length Lm) (hc0_4 : Lm.length ≤ c0_4) (h : jQ.f k Lh Li Lj Ll Lm Lp a1 = some r) :
  Calls Tryz.prog 6 #[.agg #[.int .i64 Lh, .int .i64 Li, .string Lj, .slice A0_3 Ll.length c0_3, .slice A0_4 Lm.length c0_4, .int .i64 Lp], .int .i64 a1] w fun e w' => e = .returned (.int .i64 r) ∧ Below w.heap.size w w' := by
 have xI := Tryz.underlying27;have xJ := Tryz.underlying23;have u := ah.mk hr0_3;have x := ah.mk hc0_3;clear hr0_3 hc0_3;have y := ah.mk hr0_4;have z := ah.mk hc0_4;clear hr0_4 hc0_4;have HB := ah.mk (Below.refl w.heap.size w);unfold jQ.f at h;have H := h;clear h;replace H := be H; obtain ⟨m, A3, H⟩ := H;replace H := ah.mk H;go_enter Tryz.func6, Tryz.ntmps6;go_wp2_with (first | ((with_reducible refine aJ (N := 2) rfl ?_); refine aY (N := 2) (cs := #[.int .i64 Lh, .int .i64 Li, .string Lj, .slice A0_3 Ll.length c0_3, .slice A0_4 Lm.length c0_4, .int .i64 Lp]) (t := 27) ?_; intro xC hg xD hbox hb; have a := ah.mk hbox; have A := SZ (w := w) hg; have xE := A; replace HB := BS (w := w) hb; clear hb hbox hg; obtain ⟨D, E, G, I, J, K, L, M, O, P, U, Y⟩ := cz6 a.out) | ((with_reducible refine ay (f := 27) rfl ?_); refine aW (some 8) Tryz.func27 #[.agg #[.int .i64 Lh, .int .i64 Li, .string Lj], .int .i64 a1] ?_; (with_reducible refine (lq.calls Lh Li Lj a1 m _ A3.out).mono ?_); rintro e xF ⟨rfl, hb⟩; refine ⟨_, rfl, ?_⟩; replace a := KB a hb; replace HB := BS (w := w) hb; (try clear hb); obtain ⟨Z, xa, xb, xc, xd, xe, xf, xg, xh, xi, xj, xk⟩ := cz6 a.out; refine bP ?_));refine Hide.mk ?_;replace H := H.out;replace H := ifD H; rcases H with ⟨xy, H⟩ | ⟨xy, H⟩
 ·obtain rfl := Option.some.inj H;(try go_wp2);go_ret;exact ⟨EWW, BL⟩
 ·replace H := be H; obtain ⟨o, A8, H⟩ := H;replace H := ah.mk H;go_wp2_with (first | ((with_reducible refine ay (f := 28) rfl ?_); refine aW (some 14) Tryz.func28 #[.slice A0_3 Ll.length c0_3, .int .i64 m] ?_; (with_reducible refine (fU.calls k _ _ Ll m o _ ?side1 ?side2 A8.out).mono ?_); (case side1 => exact CB u); (case side2 => exact x.out); rintro e xG ⟨rfl, hb⟩; refine ⟨_, rfl, ?_⟩; replace a := KB a hb; replace HB := BS (w := w) hb; (try clear hb); obtain ⟨xl, xm, xn, xo, xp, xq, xr, xs, xt, xu, xv, xw⟩ := cz6 a.out; refine bP ?_));refine Hide.mk ?_;replace H := H.out;replace H := ifD H; rcases H with ⟨xz, H⟩ | ⟨xz, H⟩
  ·obtain rfl := Option.some.inj H;(try go_wp2);go_ret;exact ⟨EWW, BL⟩
  ·replace H := be H; obtain ⟨xA, xH, H⟩ := H;replace H := ah.mk H;go_wp2_with (first | ((with_reducible refine ay (f := 29) rfl ?_); refine aW (some 20) Tryz.func29 #[.slice A0_4 Lm.length c0_4, .int .i64 o] ?_; (with_reducible refine (lu.calls _ _ Lm o xA _ ?side1 ?side2 xH.out).mono ?_); (case side1 => exact CB y); (case side2 => exact z.out); rintro e w' ⟨rfl, ⟨nd, rfl⟩⟩; refine ⟨_, rfl, ?_⟩; refine bP ?_));refine Hide.mk ?_;replace H := H.out;replace H := ifD H; rcases H with ⟨xx, H⟩ | ⟨xx, H⟩
   ·obtain rfl := Option.some.inj H;(try go_wp2);go_ret;exact ⟨EWW, BL⟩
   ·obtain rfl := Option.some.inj H;(try go_wp2);go_ret;exact ⟨EWW, BL⟩
def jF.f (Lh : ByteArray) (Li a1 : Int) : Option (Int) := if (wrap64 (a1 - (Lh.size : Int))) < 0 then (some (-1)) else (some (wrap64 (a1 - (Lh.size : Int))))
theorem jF.calls (Lh : ByteArray) (Li G r : Int) (w : World) (h : jF.f Lh Li G = some r) :
  Calls Tryz.prog 30 #[.agg #[.string Lh, .int .i64 Li], .int .i64 G] w fun e w' => e = .returned (.int .i64 r) ∧ Below w.heap.size w w' := by
 have I := Tryz.underlying57;have HB := ah.mk (Below.refl w.heap.size w);unfold jF.f at h;have H := h;clear h;replace H := ah.mk H;go_enter Tryz.func30, Tryz.ntmps30;go_wp2_with (first | ((with_reducible refine aJ (N := 2) rfl ?_); refine aY (N := 2) (cs := #[.string Lh, .int .i64 Li]) (t := 57) ?_; intro A hg D hbox hb; have a := ah.mk hbox; have m := SZ (w := w) hg; have E := m; replace HB := BS (w := w) hb; clear hb hbox hg; obtain ⟨o, u, x, y⟩ := cz2 a.out; refine bP ?_));refine Hide.mk ?_;replace H := H.out;replace H := ifD H; rcases H with ⟨z, H⟩ | ⟨z, H⟩
 ·obtain rfl := Option.some.inj H;(try go_wp2);go_ret;exact ⟨EWW, BL⟩
 ·obtain rfl := Option.some.inj H;(try go_wp2);go_ret;exact ⟨EWW, BL⟩
def eu.l0 : Nat → List (S57) → Int → Int → Option (Int)
 | 0, _, _, _ => none
 | k + 1, a, b, c => if c < (a.length : Int) then (if 0 ≤ c then ((jF.f ((lY a c).f0) ((lY a c).f1) b).bind fun d => (if d < 0 then (some (-1)) else (eu.l0 k a d (wrap64 (c + 1))))) else (none)) else (some b)
def eu.f (k : Nat) (l0 : List (S57)) (a1 : Int) : Option (Int) := if (wrap64 (a1 - (l0.length : Int))) < 0 then (some (-1)) else (eu.l0 k l0 (wrap64 (a1 - (l0.length : Int))) 0)
theorem eu.calls (k : Nat) (P : Option Addr) (U : Nat) (l0 : List (S57)) (Y r : Int) (w : World) (A : Kd.C k57 w P l0.length l0) (D : l0.length ≤ U) (h : eu.f k l0 Y = some r) :
  Calls Tryz.prog 7 #[.slice P l0.length U, .int .i64 Y] w fun e w' => e = .returned (.int .i64 r) ∧ Below w.heap.size w w' := by
 have Z := Tryz.underlying57;have L := ah.mk A;have xb := ah.mk D;clear A D;have HB := ah.mk (Below.refl w.heap.size w);unfold eu.f at h;have H := h;clear h;replace H := ah.mk H;go_enter Tryz.func7, Tryz.ntmps7;replace H := H.out;replace H := ifD H; rcases H with ⟨z, H⟩ | ⟨z, H⟩
 ·obtain rfl := Option.some.inj H;(try go_wp2);go_ret;exact ⟨EWW, BL⟩
 ·have H' := ah.mk H;clear H;try go_wp2
  go_loopg [1, 5] k (fun kq v1 v5 w' => ∃ (u : Int) (a : Int), v1 = .int .i64 u ∧ v5 = .int .i64 a ∧ ah (eu.l0 kq l0 u a = some r) ∧ ah (kq ≤ k) ∧ ah (Below w.heap.size w w'))
  case atStart => exact ⟨_, _, EQ, EQ, H', ⟨Nat.le_refl _⟩, ⟨BL⟩⟩
  case round =>
   clear H';(try clear c3);(try clear z);obtain ⟨u, a, rfl, rfl, HA, E, HB⟩ := hrel
   cases gk with
   | zero => exact absurd HA.out (by simp [eu.l0])
   | succ k1 =>
    have H := HA.out;clear HA;simp only [eu.l0] at H;replace H := ifD H; rcases H with ⟨G, H⟩ | ⟨G, H⟩
    ·replace H := ifN H; obtain ⟨xa, H⟩ := H;replace H := be H; obtain ⟨I, A6, H⟩ := H;have x : 0 ≤ (a : Int) := OD;have y : a < (l0.length : Int) := OD;obtain ⟨M, J, m, o⟩ := GJ L.out a x y
     cases J
     (try replace m := (HB.out.cell (World.block_lt_of_cell? w _ m)).trans m);(try replace o := (HB.out.cell (World.block_lt_of_cell? w _ o)).trans o);replace x := eq_true x;replace y := eq_true y;replace H := ah.mk H;go_wp2_with (first | ((with_reducible refine ay (f := 30) rfl ?_); refine aW (some 23) Tryz.func30 #[.agg #[.string ((lY l0 a).f0), .int .i64 ((lY l0 a).f1)], .int .i64 u] ?_; (with_reducible refine (jF.calls ((lY l0 a).f0) ((lY l0 a).f1) u I _ A6.out).mono ?_); rintro e O ⟨rfl, hb⟩; refine ⟨_, rfl, ?_⟩; replace HB := BS (w := w) hb; (try clear hb); refine bP ?_));refine Hide.mk ?_;replace H := H.out;replace H := ifD H; rcases H with ⟨K, H⟩ | ⟨K, H⟩
     ·obtain rfl := Option.some.inj H;(try go_wp2);go_ret;exact ⟨EWW, BL⟩
     ·have H' := ah.mk H;clear H;(try go_wp2);go_roundg k1;case measure => have := E.out; omega
      case rel => exact ⟨_, _, EQ, EQ, H', ks E, ⟨BL⟩⟩
    ·obtain rfl := Option.some.inj H;go_wp2;go_ret;exact ⟨EWW, BL⟩
def eX.l0 : Nat → List ByteArray → Int → Int → Option (Int)
 | 0, _, _, _ => none
 | k + 1, a, b, c => if c < (a.length : Int) then (if 0 ≤ c then (if (wrap64 (b - ((fF ByteArray.empty a c).size : Int))) < 0 then (some (-1)) else (eX.l0 k a (wrap64 (b - ((fF ByteArray.empty a c).size : Int))) (wrap64 (c + 1)))) else (none)) else (some b)
def eX.f (k : Nat) (l0 : List ByteArray) (a1 : Int) : Option (Int) := if (wrap64 (a1 - (l0.length : Int))) < 0 then (some (-1)) else (eX.l0 k l0 (wrap64 (a1 - (l0.length : Int))) 0)
theorem eX.calls (k : Nat) (L : Option Addr) (M : Nat) (l0 : List ByteArray) (O r : Int) (w : World) (y : Kd.C Kd.string w L l0.length l0) (z : l0.length ≤ M) (h : eX.f k l0 O = some r) :
  Calls Tryz.prog 8 #[.slice L l0.length M, .int .i64 O] w fun e w' => e = .returned (.int .i64 r) ∧ cB w w' := by
 have J := ah.mk y;have U := ah.mk z;clear y z;unfold eX.f at h;have H := h;clear h;replace H := ah.mk H;go_enter Tryz.func8, Tryz.ntmps8;replace H := H.out;replace H := ifD H; rcases H with ⟨x, H⟩ | ⟨x, H⟩
 ·obtain rfl := Option.some.inj H;(try go_wp2);go_ret;exact ⟨EQ, DR⟩
 ·have H' := ah.mk H;clear H;try go_wp2
  go_loopg [1, 5] k (fun kq Y Z w' => ∃ (m : Int) (a : Int), Y = .int .i64 m ∧ Z = .int .i64 a ∧ ah (eX.l0 kq l0 m a = some r) ∧ ah (kq ≤ k) ∧ cB w w')
  case atStart => exact ⟨_, _, EQ, EQ, H', ⟨Nat.le_refl _⟩, DR⟩
  case round =>
   clear H';(try clear c3);(try clear x);obtain ⟨m, a, rfl, rfl, HA, A, ⟨m1, rfl⟩⟩ := hrel
   cases gk with
   | zero => exact absurd HA.out (by simp [eX.l0])
   | succ k1 =>
    have H := HA.out;clear HA;simp only [eX.l0] at H;replace H := ifD H; rcases H with ⟨D, H⟩ | ⟨D, H⟩
    ·replace H := ifN H; obtain ⟨P, H⟩ := H;have o : 0 ≤ (a : Int) := OD;have u : a < (l0.length : Int) := OD;obtain ⟨K, E, G⟩ := Kd.jv J.out a o u
     cases E
     replace o := eq_true o;replace u := eq_true u;replace H := ifD H; rcases H with ⟨I, H⟩ | ⟨I, H⟩
     ·obtain rfl := Option.some.inj H;go_wp2;go_ret;exact ⟨EQ, DR⟩
     ·have H' := ah.mk H;clear H;go_wp2;go_roundg k1;case measure => have := A.out; omega
      case rel => exact ⟨_, _, EQ, EQ, H', ks A, DR⟩
    ·obtain rfl := Option.some.inj H;go_wp2;go_ret;exact ⟨EQ, DR⟩
def bB.f (a0 a1 a2 : Int) : Option (Bool) := if a0 ≥ a1 then (some (decide (a0 ≤ a2))) else (some false)
theorem bB.calls (a m u : Int) (r : Bool) (w : World) (h : bB.f a m u = some r) :
  Calls Tryz.prog 56 #[.int .i64 a, .int .i64 m, .int .i64 u] w fun e w' => e = .returned (.bool r) ∧ cB w w' := by
 unfold bB.f at h;have H := h;clear h;replace H := ah.mk H;go_enter Tryz.func56, Tryz.ntmps56;replace H := H.out;by_cases c4 : a ≥ m
 ·rw [if_pos c4] at H;have o : decide (m ≤ a) = true := decide_eq_true c4;clear c4;obtain rfl := Option.some.inj H;(try go_wp2);go_ret;exact ⟨EQ, DR⟩
 ·rw [if_neg c4] at H;have o : decide (m ≤ a) = false := decide_eq_false c4;clear c4;obtain rfl := Option.some.inj H;(try go_wp2);go_ret;exact ⟨EQ, DR⟩
def bC.l0 : Nat → ByteArray → Int → Option (Bool)
 | 0, _, _ => none
 | k + 1, a, b => if b < (a.size : Int) then (if 0 ≤ b then (if (bt a b) < 97 then (some false) else (if (bt a b) > 122 then (some false) else (bC.l0 k a (wrap64 (b + 1))))) else (none)) else (some true)
def bC.f (k : Nat) (a0 : ByteArray) : Option (Bool) := (bB.f (a0.size : Int) 1 8).bind fun t117 => (if t117 = true then (bC.l0 k a0 0) else (some false))
theorem bC.calls (k : Nat) (m : ByteArray) (r : Bool) (w : World) (h : bC.f k m = some r) :
  Calls Tryz.prog 104 #[.string m] w fun e w' => e = .returned (.bool r) ∧ cB w w' := by
 unfold bC.f at h;have H := h;clear h;replace H := be H; obtain ⟨z, A2, H⟩ := H;replace H := ah.mk H;go_enter Tryz.func104, Tryz.ntmps104;go_wp2_with (first | ((with_reducible refine ay (f := 56) rfl ?_); refine aW (some 6) Tryz.func56 #[.int .i64 (m.size : Int), .int .i64 1, .int .i64 8] ?_; (with_reducible refine (bB.calls (m.size : Int) 1 8 _ _ A2.out).mono ?_); rintro e w' ⟨rfl, ⟨nd, rfl⟩⟩; refine ⟨_, rfl, ?_⟩; refine bP ?_));refine Hide.mk ?_;replace H := H.out;replace H := ifB H; rcases H with ⟨rfl, H⟩ | ⟨rfl, H⟩
 ·have H' := ah.mk H;clear H;try go_wp2
  go_loopg [3] k (fun kq D w' => ∃ (a : Int), D = .int .i64 a ∧ ah (bC.l0 kq m a = some r) ∧ ah (kq ≤ k) ∧ cB w w')
  case atStart => exact ⟨_, EQ, H', ⟨Nat.le_refl _⟩, DR⟩
  case round =>
   clear H';(try clear c3);obtain ⟨a, rfl, HA, o, ⟨m1, rfl⟩⟩ := hrel
   cases gk with
   | zero => exact absurd HA.out (by simp [bC.l0])
   | succ k1 =>
    have H := HA.out;clear HA;simp only [bC.l0] at H;replace H := ifD H; rcases H with ⟨u, H⟩ | ⟨u, H⟩
    ·replace H := ifN H; obtain ⟨A, H⟩ := H;have E : (0 ≤ (a : Int)) = True := OT;have G : (a < (m.size : Int)) = True := OT;have hx6 := fT m a;replace H := ifD H; rcases H with ⟨x, H⟩ | ⟨x, H⟩
     ·obtain rfl := Option.some.inj H;go_wp2;go_ret;exact ⟨EQ, DR⟩
     ·have I : (0 ≤ (a : Int)) = True := OT;have J : (a < (m.size : Int)) = True := OT;have hx8 := fT m a;by_cases c9 : (bt m a) > 122
      ·rw [if_pos c9] at H;have y : decide (122 < (bt m a)) = true := decide_eq_true c9;clear c9;obtain rfl := Option.some.inj H;go_wp2;go_ret;exact ⟨EQ, DR⟩
      ·rw [if_neg c9] at H;have y : decide (122 < (bt m a)) = false := decide_eq_false c9;clear c9;have H' := ah.mk H;clear H;go_wp2;go_roundg k1;case measure => have := o.out; omega
       case rel => exact ⟨_, EQ, H', ks o, DR⟩
    ·obtain rfl := Option.some.inj H;go_wp2;go_ret;exact ⟨EQ, DR⟩
 ·obtain rfl := Option.some.inj H;(try go_wp2);go_ret;exact ⟨EQ, DR⟩
mutual
def fu.j0 : Nat → List (dG) → Int → Bool → Int → ByteArray → Int → Int → Option (Bool)
 | 0, _, _, _, _, _, _, _ => none
 | k + 1, a, b, c, d, e, f, g => if c = true then (some false) else (if d = 4 then (fu.j1 k a b true d e f g) else (fu.j1 k a b (d == 5) d e f g))
def fu.j1 : Nat → List (dG) → Int → Bool → Int → ByteArray → Int → Int → Option (Bool)
 | 0, _, _, _, _, _, _, _ => none
 | k + 1, a, b, c, d, e, f, g => if d = 1 then (if f = 0 then (some (g == 0)) else (some false)) else ((bB.f f 0 (wrap64 (b - 1))).bind fun h => (if h = true then (if c = true then ((bB.f g 0 (wrap64 (b - 1))).bind fun i => (if i = true then (some true) else (some false))) else (if g = 0 then (if d = 2 then (some true) else (if 0 ≤ f then (if f < (a.length : Int) then (some (((aj a f).f0) == 1)) else (none)) else (none))) else (some false))) else (some false)))
end
def fu.f (k : Nat) (l0 : List (dG)) (a1 : Int) : Option (Bool) := if 0 ≤ a1 then (if a1 < (l0.length : Int) then ((bB.f ((aj l0 a1).f0) 1 9).bind fun t120 => (if t120 = true then ((bC.f k ((aj l0 a1).f1)).bind fun t121 => (if ((((aj l0 a1).f0) == 1) != t121) = true then (fu.j0 k l0 a1 true ((aj l0 a1).f0) ((aj l0 a1).f1) ((aj l0 a1).f2) ((aj l0 a1).f3)) else (if ((aj l0 a1).f0) = 1 then (fu.j0 k l0 a1 false ((aj l0 a1).f0) ((aj l0 a1).f1) ((aj l0 a1).f2) ((aj l0 a1).f3)) else (fu.j0 k l0 a1 (((aj l0 a1).f1).toList != ([] : List UInt8)) ((aj l0 a1).f0) ((aj l0 a1).f1) ((aj l0 a1).f2) ((aj l0 a1).f3))))) else (fu.j0 k l0 a1 true ((aj l0 a1).f0) ((aj l0 a1).f1) ((aj l0 a1).f2) ((aj l0 a1).f3)))) else (none)) else (none)
theorem fu.calls (k : Nat) (A0 : Option Addr) (c0 : Nat) (l0 : List (dG)) (a : Int) (r : Bool) (w : World) (yj : Kd.C jE w A0 l0.length l0) (yk : l0.length ≤ c0) (h : fu.f k l0 a = some r) :
  Calls Tryz.prog 118 #[.slice A0 l0.length c0, .int .i64 a] w fun e w' => e = .returned (.bool r) ∧ Below w.heap.size w w' := by
 have yn := Tryz.underlying121;have xv := ah.mk yj;have yA := ah.mk yk;clear yj yk;have HB := ah.mk (Below.refl w.heap.size w);unfold fu.f at h;have H := h;clear h;replace H := ifN H; obtain ⟨xw, H⟩ := H;replace H := ifN H; obtain ⟨xx, H⟩ := H;have xy := ah.mk H;clear H;have xe : 0 ≤ (a : Int) := OD;have xf : a < (l0.length : Int) := OD;obtain ⟨xl, yl, xg, xh, xi, xj⟩ := jT xv.out a xe xf
 cases yl
 replace xe := eq_true xe;replace xf := eq_true xf;go_enter Tryz.func118, Tryz.ntmps118;go_upto_region 2 with (first | ((with_reducible refine aJ (N := 5) rfl ?_); refine aY (N := 5) (cs := #[.int .i64 0, .string (⟨#[]⟩ : ByteArray), .int .i64 0, .int .i64 0]) (t := 121) ?_; intro xc hg xs hbox hb; have y := ah.mk hbox; have Y := SZ (w := w) hg; have xt := Y; replace HB := BS (w := w) hb; clear hb hbox hg; obtain ⟨A, D, E, G, I, J, K, L⟩ := cz4 y.out))
 repeat (go_quiet (first | ((with_reducible refine aJ (N := 5) rfl ?_); refine aY (N := 5) (cs := #[.int .i64 0, .string (⟨#[]⟩ : ByteArray), .int .i64 0, .int .i64 0]) (t := 121) ?_; intro xc hg xs hbox hb; have y := ah.mk hbox; have Y := SZ (w := w) hg; have xt := Y; replace HB := BS (w := w) hb; clear hb hbox hg; obtain ⟨A, D, E, G, I, J, K, L⟩ := cz4 y.out)); go_upto_region 2 with (first | ((with_reducible refine aJ (N := 5) rfl ?_); refine aY (N := 5) (cs := #[.int .i64 0, .string (⟨#[]⟩ : ByteArray), .int .i64 0, .int .i64 0]) (t := 121) ?_; intro xc hg xs hbox hb; have y := ah.mk hbox; have Y := SZ (w := w) hg; have xt := Y; replace HB := BS (w := w) hb; clear hb hbox hg; obtain ⟨A, D, E, G, I, J, K, L⟩ := cz4 y.out)))
 (try simp only [Act.put, List.setIfInBounds_toArray, List.set_cons_zero, List.set_cons_succ])
 go_cut [33] (fun yo wc => ∃ (kq : Nat) (xm : Bool), yo = .bool xm ∧ ah (fu.j0 kq l0 a xm ((aj l0 a).f0) ((aj l0 a).f1) ((aj l0 a).f2) ((aj l0 a).f3) = some r) ∧ ah (kq ≤ k) ∧ ah (wc.heap[xc]? = some (.cells #[.int .i64 ((aj l0 a).f0), .string ((aj l0 a).f1), .int .i64 ((aj l0 a).f2), .int .i64 ((aj l0 a).f3)] 121 (0, 0))) ∧ ah (Below w.heap.size w wc))
 case first =>
  have H := xy.out;clear xy;replace H := be H; obtain ⟨yv, A8, H⟩ := H;obtain ⟨xz, xA, xB, xC, xD, xE, xF, xG⟩ := cz4 y.out;replace H := ifB H; rcases H with ⟨rfl, H⟩ | ⟨rfl, H⟩
  ·replace H := be H; obtain ⟨z, xd, H⟩ := H;by_cases Z : ((((aj l0 a).f0) == 1) != z) = true
   ·rw [if_pos Z] at H;have U : ((((aj l0 a).f0) == 1) != z) = true := Z;(try (have xH : decide ((((aj l0 a).f0) == 1) = z) = false := by simpa using Z));(try (have xI : ((((aj l0 a).f0) == 1) == z) = false := by simpa using Z));(try (have yp : ¬ ((((aj l0 a).f0) == 1) = z) := by simpa using Z));clear Z;(first | rw [U] | (simp only [gZ, iT]; rw [U]) | skip);have H' := ah.mk H;clear H
    repeat (go_wp2_with (first | (go_at_call 56; (with_reducible refine (bB.calls ((aj l0 a).f0) 1 9 _ _ A8.out).mono ?_); rintro e w' ⟨rfl, ⟨nd, rfl⟩⟩; (try first | exact da | exact DD)) | (go_at_call 104; (with_reducible refine (bC.calls k ((aj l0 a).f1) z _ xd.out).mono ?_); rintro e w' ⟨rfl, ⟨nd, rfl⟩⟩; (try first | exact da | exact DD))); go_quiet (first | (go_at_call 56; (with_reducible refine (bB.calls ((aj l0 a).f0) 1 9 _ _ A8.out).mono ?_); rintro e w' ⟨rfl, ⟨nd, rfl⟩⟩; (try first | exact da | exact DD)) | (go_at_call 104; (with_reducible refine (bC.calls k ((aj l0 a).f1) z _ xd.out).mono ?_); rintro e w' ⟨rfl, ⟨nd, rfl⟩⟩; (try first | exact da | exact DD))))
    go_wp2_with (first | (go_at_call 56; (with_reducible refine (bB.calls ((aj l0 a).f0) 1 9 _ _ A8.out).mono ?_); rintro e w' ⟨rfl, ⟨nd, rfl⟩⟩; (try first | exact da | exact DD)) | (go_at_call 104; (with_reducible refine (bC.calls k ((aj l0 a).f1) z _ xd.out).mono ?_); rintro e w' ⟨rfl, ⟨nd, rfl⟩⟩; (try first | exact da | exact DD)));go_meet;case rel => exact ⟨_, (true), (by first | rfl | (simp; done) | (simp [*]; rw [Bool.eq_iff_iff]; simp [bne, List.isEmpty_iff]; done) | (simp [*]; done)), H', ⟨by first | omega | exact Nat.le_refl _⟩, ⟨by (with_reducible repeat (first | refine aD ?_ _ | refine aH ?_ | refine aC ?_ _)); refine aX (cs := #[.int .i64 ((aj l0 a).f0), .string ((aj l0 a).f1), .int .i64 ((aj l0 a).f2), .int .i64 0]) ?_ 3 _ rfl; (with_reducible repeat (first | refine aD ?_ _ | refine aH ?_ | refine aC ?_ _)); refine aX (cs := #[.int .i64 ((aj l0 a).f0), .string ((aj l0 a).f1), .int .i64 0, .int .i64 0]) ?_ 2 _ rfl; (with_reducible repeat (first | refine aD ?_ _ | refine aH ?_ | refine aC ?_ _)); refine aX (cs := #[.int .i64 ((aj l0 a).f0), .string (⟨#[]⟩ : ByteArray), .int .i64 0, .int .i64 0]) ?_ 1 _ rfl; (with_reducible repeat (first | refine aD ?_ _ | refine aH ?_ | refine aC ?_ _)); refine aX (cs := #[.int .i64 0, .string (⟨#[]⟩ : ByteArray), .int .i64 0, .int .i64 0]) ?_ 0 _ rfl; (with_reducible repeat (first | refine aD ?_ _ | refine aH ?_ | refine aC ?_ _)); exact y.out⟩, ⟨BL⟩⟩
   ·rw [if_neg Z] at H;have U : ((((aj l0 a).f0) == 1) != z) = false := by simpa using Z
    (try (have xH : decide ((((aj l0 a).f0) == 1) = z) = true := by simpa using Z));(try (have xI : ((((aj l0 a).f0) == 1) == z) = true := by simpa using Z));clear Z;(first | rw [U] | (simp only [gZ, iT]; rw [U]) | skip);by_cases xn : ((aj l0 a).f0) = 1
    ·rw [if_pos xn] at H;have xo : (((aj l0 a).f0) == 1) = true := beq_iff_eq.mpr xn;have xJ : (((aj l0 a).f0) != 1) = false := bne_eq_false_iff_eq.mpr xn;have cw_ : z = true := by simpa [xo] using U   -- mended
     clear xn;have H' := ah.mk H;clear H
     repeat (go_wp2_with (first | (go_at_call 56; (with_reducible refine (bB.calls ((aj l0 a).f0) 1 9 _ _ A8.out).mono ?_); rintro e w' ⟨rfl, ⟨nd, rfl⟩⟩; (try first | exact da | exact DD)) | (go_at_call 104; (with_reducible refine (bC.calls k ((aj l0 a).f1) z _ xd.out).mono ?_); rintro e w' ⟨rfl, ⟨nd, rfl⟩⟩; (try first | exact da | exact DD))); go_quiet (first | (go_at_call 56; (with_reducible refine (bB.calls ((aj l0 a).f0) 1 9 _ _ A8.out).mono ?_); rintro e w' ⟨rfl, ⟨nd, rfl⟩⟩; (try first | exact da | exact DD)) | (go_at_call 104; (with_reducible refine (bC.calls k ((aj l0 a).f1) z _ xd.out).mono ?_); rintro e w' ⟨rfl, ⟨nd, rfl⟩⟩; (try first | exact da | exact DD))))
     go_wp2_with (first | (go_at_call 56; (with_reducible refine (bB.calls ((aj l0 a).f0) 1 9 _ _ A8.out).mono ?_); rintro e w' ⟨rfl, ⟨nd, rfl⟩⟩; (try first | exact da | exact DD)) | (go_at_call 104; (with_reducible refine (bC.calls k ((aj l0 a).f1) z _ xd.out).mono ?_); rintro e w' ⟨rfl, ⟨nd, rfl⟩⟩; (try first | exact da | exact DD)));go_meet;case rel => exact ⟨_, (false), (by first | rfl | (simp; done) | (simp [*]; rw [Bool.eq_iff_iff]; simp [bne, List.isEmpty_iff]; done) | (simp [*]; done)), H', ⟨by first | omega | exact Nat.le_refl _⟩, ⟨by (with_reducible repeat (first | refine aD ?_ _ | refine aH ?_ | refine aC ?_ _)); refine aX (cs := #[.int .i64 ((aj l0 a).f0), .string ((aj l0 a).f1), .int .i64 ((aj l0 a).f2), .int .i64 0]) ?_ 3 _ rfl; (with_reducible repeat (first | refine aD ?_ _ | refine aH ?_ | refine aC ?_ _)); refine aX (cs := #[.int .i64 ((aj l0 a).f0), .string ((aj l0 a).f1), .int .i64 0, .int .i64 0]) ?_ 2 _ rfl; (with_reducible repeat (first | refine aD ?_ _ | refine aH ?_ | refine aC ?_ _)); refine aX (cs := #[.int .i64 ((aj l0 a).f0), .string (⟨#[]⟩ : ByteArray), .int .i64 0, .int .i64 0]) ?_ 1 _ rfl; (with_reducible repeat (first | refine aD ?_ _ | refine aH ?_ | refine aC ?_ _)); refine aX (cs := #[.int .i64 0, .string (⟨#[]⟩ : ByteArray), .int .i64 0, .int .i64 0]) ?_ 0 _ rfl; (with_reducible repeat (first | refine aD ?_ _ | refine aH ?_ | refine aC ?_ _)); exact y.out⟩, ⟨BL⟩⟩
    ·rw [if_neg xn] at H;have xo : (((aj l0 a).f0) == 1) = false := beq_eq_false_iff_ne.mpr xn;have xJ : (((aj l0 a).f0) != 1) = true := bne_iff_ne.mpr xn;have cw_ : z = false := by simpa [xo] using U   -- mended
     have H' := ah.mk H;clear H
     repeat (go_wp2_with (first | (go_at_call 56; (with_reducible refine (bB.calls ((aj l0 a).f0) 1 9 _ _ A8.out).mono ?_); rintro e w' ⟨rfl, ⟨nd, rfl⟩⟩; (try first | exact da | exact DD)) | (go_at_call 104; (with_reducible refine (bC.calls k ((aj l0 a).f1) z _ xd.out).mono ?_); rintro e w' ⟨rfl, ⟨nd, rfl⟩⟩; (try first | exact da | exact DD))); go_quiet (first | (go_at_call 56; (with_reducible refine (bB.calls ((aj l0 a).f0) 1 9 _ _ A8.out).mono ?_); rintro e w' ⟨rfl, ⟨nd, rfl⟩⟩; (try first | exact da | exact DD)) | (go_at_call 104; (with_reducible refine (bC.calls k ((aj l0 a).f1) z _ xd.out).mono ?_); rintro e w' ⟨rfl, ⟨nd, rfl⟩⟩; (try first | exact da | exact DD))))
     go_wp2_with (first | (go_at_call 56; (with_reducible refine (bB.calls ((aj l0 a).f0) 1 9 _ _ A8.out).mono ?_); rintro e w' ⟨rfl, ⟨nd, rfl⟩⟩; (try first | exact da | exact DD)) | (go_at_call 104; (with_reducible refine (bC.calls k ((aj l0 a).f1) z _ xd.out).mono ?_); rintro e w' ⟨rfl, ⟨nd, rfl⟩⟩; (try first | exact da | exact DD)));go_meet;case rel => exact ⟨_, ((((aj l0 a).f1).toList != ([] : List UInt8))), (by first | rfl | (simp; done) | (simp [*]; rw [Bool.eq_iff_iff]; simp [bne, List.isEmpty_iff]; done) | (simp [*]; done)), H', ⟨by first | omega | exact Nat.le_refl _⟩, ⟨by (with_reducible repeat (first | refine aD ?_ _ | refine aH ?_ | refine aC ?_ _)); refine aX (cs := #[.int .i64 ((aj l0 a).f0), .string ((aj l0 a).f1), .int .i64 ((aj l0 a).f2), .int .i64 0]) ?_ 3 _ rfl; (with_reducible repeat (first | refine aD ?_ _ | refine aH ?_ | refine aC ?_ _)); refine aX (cs := #[.int .i64 ((aj l0 a).f0), .string ((aj l0 a).f1), .int .i64 0, .int .i64 0]) ?_ 2 _ rfl; (with_reducible repeat (first | refine aD ?_ _ | refine aH ?_ | refine aC ?_ _)); refine aX (cs := #[.int .i64 ((aj l0 a).f0), .string (⟨#[]⟩ : ByteArray), .int .i64 0, .int .i64 0]) ?_ 1 _ rfl; (with_reducible repeat (first | refine aD ?_ _ | refine aH ?_ | refine aC ?_ _)); refine aX (cs := #[.int .i64 0, .string (⟨#[]⟩ : ByteArray), .int .i64 0, .int .i64 0]) ?_ 0 _ rfl; (with_reducible repeat (first | refine aD ?_ _ | refine aH ?_ | refine aC ?_ _)); exact y.out⟩, ⟨BL⟩⟩
  ·have H' := ah.mk H;clear H
   repeat (go_wp2_with (first | (go_at_call 56; (with_reducible refine (bB.calls ((aj l0 a).f0) 1 9 _ _ A8.out).mono ?_); rintro e w' ⟨rfl, ⟨nd, rfl⟩⟩; (try first | exact da | exact DD))); go_quiet (first | (go_at_call 56; (with_reducible refine (bB.calls ((aj l0 a).f0) 1 9 _ _ A8.out).mono ?_); rintro e w' ⟨rfl, ⟨nd, rfl⟩⟩; (try first | exact da | exact DD))))
   go_wp2_with (first | (go_at_call 56; (with_reducible refine (bB.calls ((aj l0 a).f0) 1 9 _ _ A8.out).mono ?_); rintro e w' ⟨rfl, ⟨nd, rfl⟩⟩; (try first | exact da | exact DD)));go_meet;case rel => exact ⟨_, (true), (by first | rfl | (simp; done) | (simp [*]; rw [Bool.eq_iff_iff]; simp [bne, List.isEmpty_iff]; done) | (simp [*]; done)), H', ⟨by first | omega | exact Nat.le_refl _⟩, ⟨by (with_reducible repeat (first | refine aD ?_ _ | refine aH ?_ | refine aC ?_ _)); refine aX (cs := #[.int .i64 ((aj l0 a).f0), .string ((aj l0 a).f1), .int .i64 ((aj l0 a).f2), .int .i64 0]) ?_ 3 _ rfl; (with_reducible repeat (first | refine aD ?_ _ | refine aH ?_ | refine aC ?_ _)); refine aX (cs := #[.int .i64 ((aj l0 a).f0), .string ((aj l0 a).f1), .int .i64 0, .int .i64 0]) ?_ 2 _ rfl; (with_reducible repeat (first | refine aD ?_ _ | refine aH ?_ | refine aC ?_ _)); refine aX (cs := #[.int .i64 ((aj l0 a).f0), .string (⟨#[]⟩ : ByteArray), .int .i64 0, .int .i64 0]) ?_ 1 _ rfl; (with_reducible repeat (first | refine aD ?_ _ | refine aH ?_ | refine aC ?_ _)); refine aX (cs := #[.int .i64 0, .string (⟨#[]⟩ : ByteArray), .int .i64 0, .int .i64 0]) ?_ 0 _ rfl; (with_reducible repeat (first | refine aD ?_ _ | refine aH ?_ | refine aC ?_ _)); exact y.out⟩, ⟨BL⟩⟩
 case rest =>
  clear xy;(try clear c3);(try clear xw);(try clear c4);(try clear xx);(try clear A D E G I J K L);(try clear xg);(try clear xh);(try clear xi);(try clear xj);(try clear xe);(try clear xf);obtain ⟨kq, xm, rfl, HA, ym, y, HB⟩ := hcut
  cases kq with
  | zero => exact absurd HA.out (by simp [fu.j0])
  | succ yq =>
   have H := HA.out;clear HA;simp only [fu.j0] at H;replace H := ifB H; rcases H with ⟨rfl, H⟩ | ⟨rfl, H⟩
   ·obtain rfl := Option.some.inj H;go_wp2
    repeat (go_quiet (fail); try go_wp2)
    go_ret;exact ⟨EWW, BL⟩
   ·have xu := ah.mk H;clear H;go_upto_region 4 with (fail)
    repeat (go_quiet (fail); go_upto_region 4 with (fail))
    go_cut [6] (fun v6 wc => ∃ (kq : Nat) (xp : Bool), v6 = .bool xp ∧ ah (fu.j1 kq l0 a xp ((aj l0 a).f0) ((aj l0 a).f1) ((aj l0 a).f2) ((aj l0 a).f3) = some r) ∧ ah (kq ≤ yq) ∧ ah (wc.heap[xc]? = some (.cells #[.int .i64 ((aj l0 a).f0), .string ((aj l0 a).f1), .int .i64 ((aj l0 a).f2), .int .i64 ((aj l0 a).f3)] 121 (0, 0))) ∧ ah (Below w.heap.size w wc))
    case first =>
     have H := xu.out;clear xu;obtain ⟨xK, xL, xM, xN, xO, xP, xQ, xR⟩ := cz4 y.out;replace H := ifE H; rcases H with ⟨xa, xS, H⟩ | ⟨yC, xa, xS, H⟩
     ·(first | rw [xa] | (simp only [gZ, iT]; rw [xa]) | skip);have H' := ah.mk H;clear H;go_wp2
      repeat (go_quiet (fail); try go_wp2)
      go_meet;case rel => exact ⟨_, (true), (by first | rfl | (simp; done) | (simp [*]; rw [Bool.eq_iff_iff]; simp [bne, List.isEmpty_iff]; done) | (simp [*]; done)), H', ⟨by have := ym.out; first | omega | exact Nat.le_refl _⟩, ⟨BK⟩, ⟨BL⟩⟩
     ·(first | rw [xa] | (simp only [gZ, iT]; rw [xa]) | skip);have H' := ah.mk H;clear H;go_wp2
      repeat (go_quiet (fail); try go_wp2)
      go_meet;case rel => exact ⟨_, ((((aj l0 a).f0) == 5)), (by first | rfl | (simp; done) | (simp [*]; rw [Bool.eq_iff_iff]; simp [bne, List.isEmpty_iff]; done) | (simp [*]; done)), H', ⟨by have := ym.out; first | omega | exact Nat.le_refl _⟩, ⟨BK⟩, ⟨BL⟩⟩
    case rest =>
     clear xu;(try clear c3);(try clear xw);(try clear c4);(try clear xx);(try clear yD);(try clear A D E G I J K L);(try clear xg);(try clear xh);(try clear xi);(try clear xj);(try clear xe);(try clear xf);obtain ⟨kq, xp, rfl, HA, yw, y, HB⟩ := hcut
     cases kq with
     | zero => exact absurd HA.out (by simp [fu.j1])
     | succ yx =>
      have H := HA.out;clear HA;simp only [fu.j1] at H;obtain ⟨xT, xU, xV, xW, xX, xY, xZ, ya⟩ := cz4 y.out;replace H := ifE H; rcases H with ⟨yb, yc, H⟩ | ⟨yE, yb, yc, H⟩
      ·replace H := ifE H; rcases H with ⟨yd, ye, H⟩ | ⟨yF, yd, ye, H⟩
       ·obtain rfl := Option.some.inj H;go_wp2
        repeat (go_quiet (fail); try go_wp2)
        go_ret;exact ⟨EWW, BL⟩
       ·obtain rfl := Option.some.inj H;go_wp2
        repeat (go_quiet (fail); try go_wp2)
        go_ret;exact ⟨EWW, BL⟩
      ·replace H := be H; obtain ⟨yy, M, H⟩ := H;replace H := ifB H; rcases H with ⟨rfl, H⟩ | ⟨rfl, H⟩
       ·replace H := ifB H; rcases H with ⟨rfl, H⟩ | ⟨rfl, H⟩
        ·replace H := be H; obtain ⟨yz, xq, H⟩ := H;replace H := ifB H; rcases H with ⟨rfl, H⟩ | ⟨rfl, H⟩
         ·obtain rfl := Option.some.inj H
          repeat (go_wp2_with (first | (go_at_call 56; (with_reducible refine (bB.calls ((aj l0 a).f2) 0 (wrap64 (a - 1)) _ _ M.out).mono ?_); rintro e w' ⟨rfl, ⟨nd, rfl⟩⟩; (try first | exact da | exact DD)) | (go_at_call 56; (with_reducible refine (bB.calls ((aj l0 a).f3) 0 (wrap64 (a - 1)) _ _ xq.out).mono ?_); rintro e w' ⟨rfl, ⟨nd, rfl⟩⟩; (try first | exact da | exact DD))); go_quiet (first | (go_at_call 56; (with_reducible refine (bB.calls ((aj l0 a).f2) 0 (wrap64 (a - 1)) _ _ M.out).mono ?_); rintro e w' ⟨rfl, ⟨nd, rfl⟩⟩; (try first | exact da | exact DD)) | (go_at_call 56; (with_reducible refine (bB.calls ((aj l0 a).f3) 0 (wrap64 (a - 1)) _ _ xq.out).mono ?_); rintro e w' ⟨rfl, ⟨nd, rfl⟩⟩; (try first | exact da | exact DD))))
          go_wp2_with (first | (go_at_call 56; (with_reducible refine (bB.calls ((aj l0 a).f2) 0 (wrap64 (a - 1)) _ _ M.out).mono ?_); rintro e w' ⟨rfl, ⟨nd, rfl⟩⟩; (try first | exact da | exact DD)) | (go_at_call 56; (with_reducible refine (bB.calls ((aj l0 a).f3) 0 (wrap64 (a - 1)) _ _ xq.out).mono ?_); rintro e w' ⟨rfl, ⟨nd, rfl⟩⟩; (try first | exact da | exact DD)));go_ret;exact ⟨EWW, BL⟩
         ·obtain rfl := Option.some.inj H
          repeat (go_wp2_with (first | (go_at_call 56; (with_reducible refine (bB.calls ((aj l0 a).f2) 0 (wrap64 (a - 1)) _ _ M.out).mono ?_); rintro e w' ⟨rfl, ⟨nd, rfl⟩⟩; (try first | exact da | exact DD)) | (go_at_call 56; (with_reducible refine (bB.calls ((aj l0 a).f3) 0 (wrap64 (a - 1)) _ _ xq.out).mono ?_); rintro e w' ⟨rfl, ⟨nd, rfl⟩⟩; (try first | exact da | exact DD))); go_quiet (first | (go_at_call 56; (with_reducible refine (bB.calls ((aj l0 a).f2) 0 (wrap64 (a - 1)) _ _ M.out).mono ?_); rintro e w' ⟨rfl, ⟨nd, rfl⟩⟩; (try first | exact da | exact DD)) | (go_at_call 56; (with_reducible refine (bB.calls ((aj l0 a).f3) 0 (wrap64 (a - 1)) _ _ xq.out).mono ?_); rintro e w' ⟨rfl, ⟨nd, rfl⟩⟩; (try first | exact da | exact DD))))
          go_wp2_with (first | (go_at_call 56; (with_reducible refine (bB.calls ((aj l0 a).f2) 0 (wrap64 (a - 1)) _ _ M.out).mono ?_); rintro e w' ⟨rfl, ⟨nd, rfl⟩⟩; (try first | exact da | exact DD)) | (go_at_call 56; (with_reducible refine (bB.calls ((aj l0 a).f3) 0 (wrap64 (a - 1)) _ _ xq.out).mono ?_); rintro e w' ⟨rfl, ⟨nd, rfl⟩⟩; (try first | exact da | exact DD)));go_ret;exact ⟨EWW, BL⟩
        ·replace H := ifE H; rcases H with ⟨yf, yg, H⟩ | ⟨yG, yf, yg, H⟩
         ·replace H := ifE H; rcases H with ⟨yh, yi, H⟩ | ⟨yH, yh, yi, H⟩
          ·obtain rfl := Option.some.inj H
           repeat (go_wp2_with (first | (go_at_call 56; (with_reducible refine (bB.calls ((aj l0 a).f2) 0 (wrap64 (a - 1)) _ _ M.out).mono ?_); rintro e w' ⟨rfl, ⟨nd, rfl⟩⟩; (try first | exact da | exact DD))); go_quiet (first | (go_at_call 56; (with_reducible refine (bB.calls ((aj l0 a).f2) 0 (wrap64 (a - 1)) _ _ M.out).mono ?_); rintro e w' ⟨rfl, ⟨nd, rfl⟩⟩; (try first | exact da | exact DD))))
           go_wp2_with (first | (go_at_call 56; (with_reducible refine (bB.calls ((aj l0 a).f2) 0 (wrap64 (a - 1)) _ _ M.out).mono ?_); rintro e w' ⟨rfl, ⟨nd, rfl⟩⟩; (try first | exact da | exact DD)));go_ret;exact ⟨EWW, BL⟩
          ·replace H := ifN H; obtain ⟨yr, H⟩ := H;replace H := ifN H; obtain ⟨ys, H⟩ := H;obtain rfl := Option.some.inj H
           repeat (go_wp2_with (first | (go_at_call 56; (with_reducible refine (bB.calls ((aj l0 a).f2) 0 (wrap64 (a - 1)) _ _ M.out).mono ?_); rintro e w' ⟨rfl, ⟨nd, rfl⟩⟩; (try first | exact da | exact DD); have O : 0 ≤ (((aj l0 a).f2) : Int) := OD; have P : ((aj l0 a).f2) < (l0.length : Int) := OD; obtain ⟨xb, xk, m, o, u, x⟩ := jT xv.out ((aj l0 a).f2) O P; obtain rfl : xl = xb := (by injection xk); replace m := (HB.out.cell (World.block_lt_of_cell? w _ m)).trans m; replace o := (HB.out.cell (World.block_lt_of_cell? w _ o)).trans o; replace u := (HB.out.cell (World.block_lt_of_cell? w _ u)).trans u; replace x := (HB.out.cell (World.block_lt_of_cell? w _ x)).trans x; replace O := eq_true O; replace P := eq_true P)); go_quiet (first | (go_at_call 56; (with_reducible refine (bB.calls ((aj l0 a).f2) 0 (wrap64 (a - 1)) _ _ M.out).mono ?_); rintro e w' ⟨rfl, ⟨nd, rfl⟩⟩; (try first | exact da | exact DD); have O : 0 ≤ (((aj l0 a).f2) : Int) := OD; have P : ((aj l0 a).f2) < (l0.length : Int) := OD; obtain ⟨xb, xk, m, o, u, x⟩ := jT xv.out ((aj l0 a).f2) O P; obtain rfl : xl = xb := (by injection xk); replace m := (HB.out.cell (World.block_lt_of_cell? w _ m)).trans m; replace o := (HB.out.cell (World.block_lt_of_cell? w _ o)).trans o; replace u := (HB.out.cell (World.block_lt_of_cell? w _ u)).trans u; replace x := (HB.out.cell (World.block_lt_of_cell? w _ x)).trans x; replace O := eq_true O; replace P := eq_true P)))
           go_wp2_with (first | (go_at_call 56; (with_reducible refine (bB.calls ((aj l0 a).f2) 0 (wrap64 (a - 1)) _ _ M.out).mono ?_); rintro e w' ⟨rfl, ⟨nd, rfl⟩⟩; (try first | exact da | exact DD); have O : 0 ≤ (((aj l0 a).f2) : Int) := OD; have P : ((aj l0 a).f2) < (l0.length : Int) := OD; obtain ⟨xb, xk, m, o, u, x⟩ := jT xv.out ((aj l0 a).f2) O P; obtain rfl : xl = xb := (by injection xk); replace m := (HB.out.cell (World.block_lt_of_cell? w _ m)).trans m; replace o := (HB.out.cell (World.block_lt_of_cell? w _ o)).trans o; replace u := (HB.out.cell (World.block_lt_of_cell? w _ u)).trans u; replace x := (HB.out.cell (World.block_lt_of_cell? w _ x)).trans x; replace O := eq_true O; replace P := eq_true P));go_ret;exact ⟨EWW, BL⟩
         ·obtain rfl := Option.some.inj H
          repeat (go_wp2_with (first | (go_at_call 56; (with_reducible refine (bB.calls ((aj l0 a).f2) 0 (wrap64 (a - 1)) _ _ M.out).mono ?_); rintro e w' ⟨rfl, ⟨nd, rfl⟩⟩; (try first | exact da | exact DD))); go_quiet (first | (go_at_call 56; (with_reducible refine (bB.calls ((aj l0 a).f2) 0 (wrap64 (a - 1)) _ _ M.out).mono ?_); rintro e w' ⟨rfl, ⟨nd, rfl⟩⟩; (try first | exact da | exact DD))))
          go_wp2_with (first | (go_at_call 56; (with_reducible refine (bB.calls ((aj l0 a).f2) 0 (wrap64 (a - 1)) _ _ M.out).mono ?_); rintro e w' ⟨rfl, ⟨nd, rfl⟩⟩; (try first | exact da | exact DD)));go_ret;exact ⟨EWW, BL⟩
       ·obtain rfl := Option.some.inj H
        repeat (go_wp2_with (first | (go_at_call 56; (with_reducible refine (bB.calls ((aj l0 a).f2) 0 (wrap64 (a - 1)) _ _ M.out).mono ?_); rintro e w' ⟨rfl, ⟨nd, rfl⟩⟩; (try first | exact da | exact DD))); go_quiet (first | (go_at_call 56; (with_reducible refine (bB.calls ((aj l0 a).f2) 0 (wrap64 (a - 1)) _ _ M.out).mono ?_); rintro e w' ⟨rfl, ⟨nd, rfl⟩⟩; (try first | exact da | exact DD))))
        go_wp2_with (first | (go_at_call 56; (with_reducible refine (bB.calls ((aj l0 a).f2) 0 (wrap64 (a - 1)) _ _ M.out).mono ?_); rintro e w' ⟨rfl, ⟨nd, rfl⟩⟩; (try first | exact da | exact DD)));go_ret;exact ⟨EWW, BL⟩
mutual
def dD.l0 : Nat → List (dG) → Int → Option (Bool)
 | 0, _, _ => none
 | k + 1, a, b => if b < (a.length : Int) then (dD.j1 k a b (decide ((a.length : Int) ≤ 9))) else (dD.j1 k a b false)
def dD.j1 : Nat → List (dG) → Int → Bool → Option (Bool)
 | 0, _, _, _ => none
 | k + 1, a, b, c => if c = true then ((fu.f k a b).bind fun d => (if d = true then (dD.l0 k a (wrap64 (b + 1))) else (some false))) else ((bB.f (a.length : Int) 1 9).bind fun e => (some e))
end
def dD.f (k : Nat) (l0 : List (dG)) : Option (Bool) := dD.l0 k l0 0
theorem dD.calls (k : Nat) (G : Option Addr) (I : Nat) (l0 : List (dG)) (r : Bool) (w : World) (y : Kd.C jE w G l0.length l0) (z : l0.length ≤ I) (h : dD.f k l0 = some r) :
  Calls Tryz.prog 89 #[.slice G l0.length I] w fun e w' => e = .returned (.bool r) ∧ Below w.heap.size w w' := by
 have J := ah.mk y;have K := ah.mk z;clear y z;have HB := ah.mk (Below.refl w.heap.size w);have H : (dD.l0 k l0 0) = some r := h;clear h;have H' := ah.mk H;clear H;go_enter Tryz.func89, Tryz.ntmps89;go_wp2
 go_loopg [3] k (fun kq P w' => ∃ (a : Int), P = .int .i64 a ∧ ah (dD.l0 kq l0 a = some r) ∧ ah (kq ≤ k) ∧ ah (Below w.heap.size w w'))
 case atStart => exact ⟨_, EQ, H', ⟨Nat.le_refl _⟩, ⟨BL⟩⟩
 case round =>
  clear H';obtain ⟨a, rfl, HA, u, HB⟩ := hrel
  cases gk with
  | zero => exact absurd HA.out (by simp [dD.l0])
  | succ k1 =>
   have H := HA.out;clear HA;simp only [dD.l0] at H;have x := ah.mk H;clear H;go_upto_region 2 with (fail)
   go_cut [12] (fun L wc => ∃ (kq : Nat) (o : Bool), L = .bool o ∧ ah (dD.j1 kq l0 a o = some r) ∧ ah (kq ≤ k1) ∧ ah (Below w.heap.size w wc))
   case first =>
    have H := x.out;clear x;replace H := ifD H; rcases H with ⟨m, H⟩ | ⟨m, H⟩
    ·(first | rw [m] | (simp only [gZ, iT]; rw [m]) | skip);have H' := ah.mk H;clear H;go_wp2;go_meet;case rel => exact ⟨_, _, EQ, H', ⟨by have := u.out; first | omega | exact Nat.le_refl _⟩, ⟨BL⟩⟩
    ·(first | rw [m] | (simp only [gZ, iT]; rw [m]) | skip);have H' := ah.mk H;clear H;go_wp2;go_meet;case rel => exact ⟨_, _, EQ, H', ⟨by have := u.out; first | omega | exact Nat.le_refl _⟩, ⟨BL⟩⟩
   case rest =>
    clear x;obtain ⟨kq, o, rfl, HA, A, HB⟩ := hcut
    cases kq with
    | zero => exact absurd HA.out (by simp [dD.j1])
    | succ D =>
     have H := HA.out;clear HA;simp only [dD.j1] at H;replace H := ifB H; rcases H with ⟨rfl, H⟩ | ⟨rfl, H⟩
     ·replace H := be H; obtain ⟨O, U, H⟩ := H;replace H := ah.mk H;go_wp2_with (first | ((with_reducible refine ay (f := 118) rfl ?_); refine aW (some 17) Tryz.func118 #[.slice G l0.length I, .int .i64 a] ?_; (with_reducible refine (fu.calls D _ _ l0 a _ _ ?side1 ?side2 U.out).mono ?_); (case side1 => exact CB J); (case side2 => exact K.out); rintro e M ⟨rfl, hb⟩; refine ⟨_, rfl, ?_⟩; replace HB := BS (w := w) hb; (try clear hb); refine bP ?_));refine Hide.mk ?_;replace H := H.out;replace H := ifB H; rcases H with ⟨rfl, H⟩ | ⟨rfl, H⟩
      ·have H' := ah.mk H;clear H;(try go_wp2);go_roundg D;case measure => have := u.out; have := A.out; omega
       case rel => exact ⟨_, EQ, H', kt u A, ⟨BL⟩⟩
      ·obtain rfl := Option.some.inj H;(try go_wp2);go_ret;exact ⟨EWW, BL⟩
     ·replace H := be H; obtain ⟨E, Y, H⟩ := H;obtain rfl := Option.some.inj H;go_wp2_with (first | ((with_reducible refine ay (f := 56) rfl ?_); refine aW (some 21) Tryz.func56 #[.int .i64 (l0.length : Int), .int .i64 1, .int .i64 9] ?_; (with_reducible refine (bB.calls (l0.length : Int) 1 9 E _ Y.out).mono ?_); rintro e w' ⟨rfl, ⟨nd, rfl⟩⟩; refine ⟨_, rfl, ?_⟩));go_ret;exact ⟨EWW, BL⟩
def lI.f (k : Nat) (Lh : Int) (l0_1 : List (dG)) : Option (Bool) := (bB.f Lh 1 99).bind fun t128 => (if t128 = true then ((dD.f k l0_1).bind fun t129 => (some t129)) else (some false))
theorem lI.calls (k : Nat) (Lh : Int) (o : Option Addr) (u : Nat) (a : List (dG)) (r : Bool) (w : World) (x : Kd.C jE w o a.length a) (y : a.length ≤ u) (h : lI.f k Lh a = some r) :
  Calls Tryz.prog 53 #[.agg #[.int .i64 Lh, .slice o a.length u]] w fun e w' => e = .returned (.bool r) ∧ Below w.heap.size w w' := by
 have U := Tryz.underlying72;have z := ah.mk x;have A := ah.mk y;clear x y;have HB := ah.mk (Below.refl w.heap.size w);unfold lI.f at h;have H := h;clear h;replace H := be H; obtain ⟨Y, A2, H⟩ := H;replace H := ah.mk H;go_enter Tryz.func53, Tryz.ntmps53;go_wp2_with (first | ((with_reducible refine aJ (N := 1) rfl ?_); refine aY (N := 1) (cs := #[.int .i64 Lh, .slice o a.length u]) (t := 72) ?_; intro L hg M hbox hb; have m := ah.mk hbox; have D := SZ (w := w) hg; have O := D; replace HB := BS (w := w) hb; clear hb hbox hg; obtain ⟨E, G, I, J⟩ := cz2 m.out) | ((with_reducible refine ay (f := 56) rfl ?_); refine aW (some 5) Tryz.func56 #[.int .i64 Lh, .int .i64 1, .int .i64 99] ?_; (with_reducible refine (bB.calls Lh 1 99 _ _ A2.out).mono ?_); rintro e w' ⟨rfl, ⟨nd, rfl⟩⟩; refine ⟨_, rfl, ?_⟩; refine bP ?_));refine Hide.mk ?_;replace H := H.out;replace H := ifB H; rcases H with ⟨rfl, H⟩ | ⟨rfl, H⟩
 ·replace H := be H; obtain ⟨K, Z, H⟩ := H;obtain rfl := Option.some.inj H;(try go_wp2_with (first | (go_at_call 89; (with_reducible refine (dD.calls k _ _ a K _ ?side1 ?side2 Z.out).mono ?_); (case side1 => repeat (first | exact (Kd.eP z.out BL) | (with_reducible refine Kd.gB ?_ _) | (with_reducible refine Kd.gD ?_ _) | (with_reducible refine Kd.iw ?_))); (case side2 => exact A.out); rintro e P ⟨rfl, hb⟩; replace m := KB m hb; replace HB := BS (w := w) hb; (try clear hb))));go_ret;exact ⟨EWW, BL⟩
 ·obtain rfl := Option.some.inj H;(try go_wp2);go_ret;exact ⟨EWW, BL⟩
mutual
def bI.j0 : Nat → Bool → Int → Int → ByteArray → Option (Bool)
 | 0, _, _, _, _ => none
 | k + 1, a, b, c, d => if a = true then (some false) else (bI.l0 k 0 b c d)
def bI.l0 : Nat → Int → Int → Int → ByteArray → Option (Bool)
 | 0, _, _, _, _ => none
 | k + 1, a, b, c, d => if a < (d.size : Int) then (if 0 ≤ a then (if (bt d a) = 35 then (bI.l0 k (wrap64 (a + 1)) b c d) else (if (bt d a) = 46 then (bI.l0 k (wrap64 (a + 1)) b c d) else (some false))) else (none)) else (some true)
end
def bI.f (k : Nat) (Lh Li : Int) (Lj : ByteArray) : Option (Bool) := (bB.f Lh 2 6).bind fun t131 => (if t131 = true then ((bB.f Li 2 6).bind fun t132 => (if t132 = true then (bI.j0 k ((Lj.size : Int) != (wrap64 (Lh * Li))) Lh Li Lj) else (bI.j0 k true Lh Li Lj))) else (bI.j0 k true Lh Li Lj))
theorem bI.calls (k : Nat) (Lh Li : Int) (Lj : ByteArray) (r : Bool) (w : World) (h : bI.f k Lh Li Lj = some r) :
  Calls Tryz.prog 67 #[.agg #[.int .i64 Lh, .int .i64 Li, .string Lj]] w fun e w' => e = .returned (.bool r) ∧ Below w.heap.size w w' := by
 have xi := Tryz.underlying34;have HB := ah.mk (Below.refl w.heap.size w);unfold bI.f at h;have H := h;clear h;have z := ah.mk H;clear H;go_enter Tryz.func67, Tryz.ntmps67;go_upto_region 1 with (first | ((with_reducible refine aJ (N := 1) rfl ?_); (try (refine je (by rfl) ?_; dsimp only)); refine aY (N := 1) (cs := #[.int .i64 Lh, .int .i64 Li, .string Lj]) (t := 34) ?_; intro u hg w3 hbox hb; have m := ah.mk hbox; have A := SZ (w := w) hg; have xf := A; replace HB := BS (w := w) hb; clear hb hbox hg));(try simp only [Act.put, List.setIfInBounds_toArray, List.set_cons_zero, List.set_cons_succ])
 go_cut [24] (fun xg wc => ∃ (kq : Nat) (o : Bool), xg = .bool o ∧ ah (bI.j0 kq o Lh Li Lj = some r) ∧ ah (kq ≤ k) ∧ ah (wc.heap[u]? = some (.cells #[.int .i64 Lh, .int .i64 Li, .string Lj] 34 (0, 0))) ∧ ah (Below w.heap.size w wc))
 case first =>
  have H := z.out;clear z;replace H := be H; obtain ⟨xj, A4, H⟩ := H;obtain ⟨D, E, G, I, J, K⟩ := cz3 m.out;replace H := ah.mk H;go_wp2_with (first | ((with_reducible refine ay (f := 56) rfl ?_); refine aW (some 6) Tryz.func56 #[.int .i64 Lh, .int .i64 2, .int .i64 6] ?_; (with_reducible refine (bB.calls Lh 2 6 _ _ A4.out).mono ?_); rintro e w' ⟨rfl, ⟨nd, rfl⟩⟩; refine ⟨_, rfl, ?_⟩; refine bP ?_));refine Hide.mk ?_;replace H := H.out;replace H := ifB H; rcases H with ⟨rfl, H⟩ | ⟨rfl, H⟩
  ·replace H := be H; obtain ⟨xk, A6, H⟩ := H;replace H := ah.mk H;go_wp2_with (first | (go_at_call 56; (with_reducible refine (bB.calls Li 2 6 _ _ A6.out).mono ?_); rintro e w' ⟨rfl, ⟨nd, rfl⟩⟩; refine bP ?_));refine Hide.mk ?_;replace H := H.out;replace H := ifB H; rcases H with ⟨rfl, H⟩ | ⟨rfl, H⟩
   ·have H' := ah.mk H;clear H;(try go_wp2);go_meet;case rel => exact ⟨_, _, EQ, H', ⟨by first | omega | exact Nat.le_refl _⟩, ⟨BK⟩, ⟨BL⟩⟩
   ·have H' := ah.mk H;clear H;(try go_wp2);go_meet;case rel => exact ⟨_, _, EQ, H', ⟨by first | omega | exact Nat.le_refl _⟩, ⟨BK⟩, ⟨BL⟩⟩
  ·have H' := ah.mk H;clear H;(try go_wp2);go_meet;case rel => exact ⟨_, _, EQ, H', ⟨by first | omega | exact Nat.le_refl _⟩, ⟨BK⟩, ⟨BL⟩⟩
 case rest =>
  clear z;obtain ⟨kq, o, rfl, HA, x, m, HB⟩ := hcut
  cases kq with
  | zero => exact absurd HA.out (by simp [bI.j0])
  | succ xe =>
   have H := HA.out;clear HA;simp only [bI.j0] at H;replace H := ifB H; rcases H with ⟨rfl, H⟩ | ⟨rfl, H⟩
   ·obtain rfl := Option.some.inj H;go_wp2;go_ret;exact ⟨EWW, BL⟩
   ·have H' := ah.mk H;clear H;go_wp2
    go_loopg [3] xe (fun kq v3 w' => ∃ (a : Int), v3 = .int .i64 a ∧ ah (bI.l0 kq a Lh Li Lj = some r) ∧ ah (kq ≤ xe) ∧ ah (w'.heap[u]? = some (.cells #[.int .i64 Lh, .int .i64 Li, .string Lj] 34 (0, 0))) ∧ ah (Below w.heap.size w w'))
    case atStart => exact ⟨_, EQ, H', ⟨Nat.le_refl _⟩, ⟨BK⟩, ⟨BL⟩⟩
    case round =>
     clear H';(try clear xo);obtain ⟨a, rfl, HA, y, m, HB⟩ := hrel
     cases gk with
     | zero => exact absurd HA.out (by simp [bI.l0])
     | succ k2 =>
      have H := HA.out;clear HA;simp only [bI.l0] at H;obtain ⟨L, M, O, P, U, Y⟩ := cz3 m.out;replace H := ifD H; rcases H with ⟨Z, H⟩ | ⟨Z, H⟩
      ·replace H := ifN H; obtain ⟨xh, H⟩ := H;have xp : (0 ≤ (a : Int)) = True := OT;have xq : (a < (Lj.size : Int)) = True := OT;have hx14 := fT Lj a;replace H := ifE H; rcases H with ⟨xa, xb, H⟩ | ⟨xr, xa, xb, H⟩
       ·have H' := ah.mk H;clear H;go_wp2;go_roundg k2;case measure => have := x.out; have := y.out; omega
        case rel => exact ⟨_, EQ, H', ⟨by have := x.out; have := y.out; omega⟩, ⟨BK⟩, ⟨BL⟩⟩
       ·have xs : (0 ≤ (a : Int)) = True := OT;have xt : (a < (Lj.size : Int)) = True := OT;have hx17 := fT Lj a;replace H := ifE H; rcases H with ⟨xc, xd, H⟩ | ⟨xu, xc, xd, H⟩
        ·have H' := ah.mk H;clear H;go_wp2;go_roundg k2;case measure => have := x.out; have := y.out; omega
         case rel => exact ⟨_, EQ, H', ⟨by have := x.out; have := y.out; omega⟩, ⟨BK⟩, ⟨BL⟩⟩
        ·obtain rfl := Option.some.inj H;go_wp2;go_ret;exact ⟨EWW, BL⟩
      ·obtain rfl := Option.some.inj H;go_wp2;go_ret;exact ⟨EWW, BL⟩
mutual
def bq.j0 : Nat → Int → Int → Int → Int → Int → Int → ByteArray → Option (Int)
 | 0, _, _, _, _, _, _, _ => none
 | k + 1, a, b, c, d, e, f, g => if 0 ≤ a then (if a < (g.size : Int) then (if (bt g a) = 46 then (if c > 0 then (if 0 ≤ (wrap64 (a - b)) then (if (wrap64 (a - b)) < (g.size : Int) then (bq.j1 k a b c d ((bt g (wrap64 (a - b))) == 46) e f g) else (none)) else (none)) else (bq.j1 k a b c d false e f g)) else (bq.j1 k a b c d true e f g)) else (none)) else (none)
def bq.j1 : Nat → Int → Int → Int → Int → Bool → Int → Int → ByteArray → Option (Int)
 | 0, _, _, _, _, _, _, _, _ => none
 | k + 1, a, b, c, d, e, f, g, h => if e = true then (some 0) else (bq.l0 k a b c d 0 f g h)
def bq.l0 : Nat → Int → Int → Int → Int → Int → Int → Int → ByteArray → Option (Int)
 | 0, _, _, _, _, _, _, _, _ => none
 | k + 1, a, b, c, d, e, f, g, h => if (wrap64 (c + e)) < d then (if 0 ≤ (wrap64 (a + (wrap64 (e * b)))) then (if (wrap64 (a + (wrap64 (e * b)))) < (h.size : Int) then (if (bt h (wrap64 (a + (wrap64 (e * b))))) = 46 then (bq.l0 k a b c d (wrap64 (e + 1)) f g h) else (some e)) else (none)) else (none)) else (some e)
end
def bq.f (k : Nat) (Lh Li : Int) (Lj : ByteArray) (a1 : Int) (a2 : Bool) : Option (Int) := if Li = 0 then (none) else (if a2 = true then (bq.j0 k a1 Li (wrap64 (Int.tdiv a1 Li)) Lh Lh Li Lj) else (bq.j0 k a1 1 (Int.tmod a1 Li) Li Lh Li Lj))
theorem bq.calls (k : Nat) (Lh Li : Int) (Lj : ByteArray) (K : Int) (a2 : Bool) (r : Int) (w : World) (h : bq.f k Lh Li Lj K a2 = some r) :
  Calls Tryz.prog 90 #[.agg #[.int .i64 Lh, .int .i64 Li, .string Lj], .int .i64 K, .bool a2] w fun e w' => e = .returned (.int .i64 r) ∧ Below w.heap.size w w' := by
 have xN := Tryz.underlying34;have HB := ah.mk (Below.refl w.heap.size w);unfold bq.f at h;have H := h;clear h;by_cases c4 : Li = 0
 ·rw [if_pos c4] at H;exact absurd H (by simp)
 ·rw [if_neg c4] at H;have M : (Li == 0) = false := beq_eq_false_iff_ne.mpr c4;have O : (Li != 0) = true := bne_iff_ne.mpr c4;have Z := ah.mk H;clear H;go_enter Tryz.func90, Tryz.ntmps90;go_upto_if 17 with (first | ((with_reducible refine aJ (N := 3) rfl ?_); refine aY (N := 3) (cs := #[.int .i64 Lh, .int .i64 Li, .string Lj]) (t := 34) ?_; intro I hg xE hbox hb; have o := ah.mk hbox; have xa := SZ (w := w) hg; have xF := xa; replace HB := BS (w := w) hb; clear hb hbox hg; obtain ⟨u, x, y, z, A, D⟩ := cz3 o.out));(try simp only [Act.put, List.setIfInBounds_toArray, List.set_cons_zero, List.set_cons_succ])
  go_cut [7, 8, 9] (fun v7 v8 v9 wc => ∃ (kq : Nat) (a : Int) (m : Int) (G : Int), v7 = .int .i64 a ∧ v8 = .int .i64 m ∧ v9 = .int .i64 G ∧ ah (bq.j0 kq K a m G Lh Li Lj = some r) ∧ ah (kq ≤ k) ∧ ah (wc.heap[I]? = some (.cells #[.int .i64 Lh, .int .i64 Li, .string Lj] 34 (0, 0))) ∧ ah (Below w.heap.size w wc))
  case first =>
   have H := Z.out;clear Z;by_cases c8 : a2 = true
   ·subst c8;rw [if_pos rfl] at H;have H' := ah.mk H;clear H;obtain ⟨xb, xc, xd, xe, xf, xg⟩ := cz3 o.out;go_wp2;go_meet;case rel => exact ⟨_, _, _, _, EQ, EQ, EQ, H', ⟨by first | omega | exact Nat.le_refl _⟩, ⟨BK⟩, ⟨BL⟩⟩
   ·replace c8 := Bool.eq_false_iff.mpr c8;subst c8;rw [if_neg Bool.false_ne_true] at H;have H' := ah.mk H;clear H;go_wp2;go_meet;case rel => exact ⟨_, _, _, _, EQ, EQ, EQ, H', ⟨by first | omega | exact Nat.le_refl _⟩, ⟨BK⟩, ⟨BL⟩⟩
  case rest =>
   clear Z;(try clear c4);(try clear M);(try clear O);(try clear u x y z A D);obtain ⟨kq, a, m, G, rfl, rfl, rfl, HA, P, o, HB⟩ := hcut
   cases kq with
   | zero => exact absurd HA.out (by simp [bq.j0])
   | succ xz =>
    have H := HA.out;clear HA;simp only [bq.j0] at H;have U := ah.mk H;clear H;go_upto_region 8 with (fail)
    go_cut [43] (fun xG wc => ∃ (kq : Nat) (J : Bool), xG = .bool J ∧ ah (bq.j1 kq K a m G J Lh Li Lj = some r) ∧ ah (kq ≤ xz) ∧ ah (wc.heap[I]? = some (.cells #[.int .i64 Lh, .int .i64 Li, .string Lj] 34 (0, 0))) ∧ ah (Below w.heap.size w wc))
    case first =>
     have H := U.out;clear U;replace H := ifN H; obtain ⟨Y, H⟩ := H;(first | rw [Y] | (simp only [gZ, iT]; rw [Y]) | skip);replace H := ifN H; obtain ⟨xH, H⟩ := H;obtain ⟨xh, xi, xj, xk, xl, xm⟩ := cz3 o.out;have xR : (0 ≤ (K : Int)) = True := OT;have xS : (K < (Lj.size : Int)) = True := OT;have hx13 := fT Lj K;replace H := ifE H; rcases H with ⟨xn, xo, H⟩ | ⟨xT, xn, xo, H⟩
     ·by_cases L : m > 0
      ·rw [if_pos L] at H;have xp : decide (0 < m) = true := decide_eq_true L;clear L;obtain ⟨ji16, hji16⟩ : ∃ j_ : Int, (wrap64 (K - a)) = j_ := ⟨_, rfl⟩;replace H : (if 0 ≤ (ji16) then (if (ji16) < (Lj.size : Int) then (bq.j1 xz K a m G ((bt Lj (ji16)) == 46) Lh Li Lj) else (none)) else (none)) = some r := by first | (rw [hji16] at H; exact H) | (simp only [hji16] at H ⊢; exact H)
       have hji16w : (IntKind.i64.wrap (K - a)) = ji16 := (gZ _).trans hji16;replace H := ifN H; obtain ⟨xI, H⟩ := H;replace H := ifN H; obtain ⟨xJ, H⟩ := H;have H' := ah.mk H;clear H;have xU : (0 ≤ ((ji16) : Int)) = True := OT;have xV : ((ji16) < (Lj.size : Int)) = True := OT;have hx19 := fT Lj (ji16);go_wp2;go_meet;case rel => exact ⟨_, (((bt Lj (ji16)) == 46)), (by first | rfl | (simp; done) | (simp only [← hji16] <;> (first | rfl | simp)) | (simp [*]; done)), H', ⟨by have := P.out; first | omega | exact Nat.le_refl _⟩, ⟨BK⟩, ⟨BL⟩⟩
      ·rw [if_neg L] at H;have xp : decide (0 < m) = false := decide_eq_false L;clear L;have H' := ah.mk H;clear H;go_wp2;go_meet;case rel => exact ⟨_, _, EQ, H', ⟨by have := P.out; first | omega | exact Nat.le_refl _⟩, ⟨BK⟩, ⟨BL⟩⟩
     ·have H' := ah.mk H;clear H;go_wp2;go_meet;case rel => exact ⟨_, _, EQ, H', ⟨by have := P.out; first | omega | exact Nat.le_refl _⟩, ⟨BK⟩, ⟨BL⟩⟩
    case rest =>
     clear U;(try clear c4);(try clear M);(try clear O);(try clear u x y z A D);obtain ⟨kq, J, rfl, HA, xA, o, HB⟩ := hcut
     cases kq with
     | zero => exact absurd HA.out (by simp [bq.j1])
     | succ xB =>
      have H := HA.out;clear HA;simp only [bq.j1] at H;replace H := ifB H; rcases H with ⟨rfl, H⟩ | ⟨rfl, H⟩
      ·obtain rfl := Option.some.inj H;go_wp2;go_ret;exact ⟨EWW, BL⟩
      ·have H' := ah.mk H;clear H;go_wp2
       go_loopg [10] xB (fun kq xK w' => ∃ (E : Int), xK = .int .i64 E ∧ ah (bq.l0 kq K a m G E Lh Li Lj = some r) ∧ ah (kq ≤ xB) ∧ ah (w'.heap[I]? = some (.cells #[.int .i64 Lh, .int .i64 Li, .string Lj] 34 (0, 0))) ∧ ah (Below w.heap.size w w'))
       case atStart => exact ⟨_, EQ, H', ⟨Nat.le_refl _⟩, ⟨BK⟩, ⟨BL⟩⟩
       case round =>
        clear H';(try clear c4);(try clear M);(try clear O);(try clear xW);(try clear u x y z A D);obtain ⟨E, rfl, HA, xC, o, HB⟩ := hrel
        cases gk with
        | zero => exact absurd HA.out (by simp [bq.l0])
        | succ k3 =>
         have H := HA.out;clear HA;simp only [bq.l0] at H;replace H := ifD H; rcases H with ⟨xq, H⟩ | ⟨xq, H⟩
         ·obtain ⟨ji25, hji25⟩ : ∃ j_ : Int, (wrap64 (K + (wrap64 (E * a)))) = j_ := ⟨_, rfl⟩;replace H : (if 0 ≤ (ji25) then (if (ji25) < (Lj.size : Int) then (if (bt Lj (ji25)) = 46 then (bq.l0 k3 K a m G (wrap64 (E + 1)) Lh Li Lj) else (some E)) else (none)) else (none)) = some r := by first | (rw [hji25] at H; exact H) | (simp only [hji25] at H ⊢; exact H)
          have hji25w : (IntKind.i64.wrap (K + (wrap64 (E * a)))) = ji25 := (gZ _).trans hji25;replace H := ifN H; obtain ⟨xL, H⟩ := H;replace H := ifN H; obtain ⟨xM, H⟩ := H;obtain ⟨xr, xs, xt, xu, xv, xw⟩ := cz3 o.out;have xX : (0 ≤ ((ji25) : Int)) = True := OT;have xY : ((ji25) < (Lj.size : Int)) = True := OT;have hx28 := fT Lj (ji25);replace H := ifE H; rcases H with ⟨xx, xy, H⟩ | ⟨xZ, xx, xy, H⟩
          ·have H' := ah.mk H;clear H;go_wp2;go_roundg k3;case measure => have := P.out; have := xA.out; have := xC.out; omega
           case rel => exact ⟨_, EQ, H', ⟨by have := P.out; have := xA.out; have := xC.out; omega⟩, ⟨BK⟩, ⟨BL⟩⟩
          ·obtain rfl := Option.some.inj H;go_wp2;go_ret;exact ⟨by first | rfl | (simp [mI, mJ] <;> rfl) | (simp only [← hji25]; first | rfl | (simp [mI, mJ] <;> rfl)) | (simp [*, mI, mJ] <;> rfl), BL⟩
         ·obtain rfl := Option.some.inj H;go_wp2;go_ret;exact ⟨EWW, BL⟩
theorem JD (d : Nat) (w : World) (x0 a : Int) (x1 e : Int) (x2 m : ByteArray) :
  (Op.equalIn (d + 2) 34 (.agg #[.int .i64 x0, .int .i64 x1, .string x2]) (.agg #[.int .i64 a, .int .i64 e, .string m])).run Tryz.prog w = .ok (x0 == a && (x1 == e && (x2.toList == m.toList))) w := by
 refine EH Tryz.underlying34 (by kernel_rfl) ?_;refine qg (by rfl) (by go_simp; rfl) (by go_simp; rfl) (by go_simp) ?_;refine qg (by rfl) (by go_simp; rfl) (by go_simp; rfl) (by go_simp) ?_;exact Ah (by rfl) (by go_simp; rfl) (by go_simp; rfl) (by go_simp)
end Go.Proofs.YthkfjbodohaglaaGreatDoor.PFnExactGradeOf
