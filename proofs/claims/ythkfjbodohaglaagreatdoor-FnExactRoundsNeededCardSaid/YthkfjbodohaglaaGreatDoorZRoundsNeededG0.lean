/- Walks of functions: what each computes. -/
import Derived.Test.YthkfjbodohaglaaGreatDoorProg
import Derived.Below
import Derived.Deep.Draws
import Derived.Deep.AppendLies
import Derived.Maps.AppendAt
import Derived.OwnWalk
import Derived.Laws.BytesArg
import Derived.Laws.MakeOwn
import Derived.Laws.OwnMore
import Derived.Deep.OwnRows
import Derived.Tactics
import Derived.Lib.ConvBytes
import Derived.Laws.Slices
import Derived.WalkKit
import Derived.KernelRfl
import Derived.RowKit3
import Derived.Deep.LoopGhost
import Derived.Deep.QuietTactic
import Derived.BigQuiet
import Derived.WideLaws
import Derived.Deep.DeepCutAuto
import Derived.Deep.CutBlock
import Derived.Deep.RegionHeld3
import Derived.Laws.Rows
import Derived.Lib.AppendStr
import Derived.ArgAppend
import Derived.Laws.IdiomCopy
import Derived.OrdersHeld
import Derived.Laws.BitsLemmas
import Derived.RowKit
import Derived.Test.YthkfjbodohaglaaGreatDoorZRoundsNeededW
import Derived.Test.YthkfjbodohaglaaGreatDoorZRoundsNeededShelf
import Derived.Test.YthkfjbodohaglaaGreatDoorZRoundsNeededHandSort
import Derived.Test.YthkfjbodohaglaaGreatDoorZRoundsNeededHandForm
import Derived.Test.YthkfjbodohaglaaGreatDoorZRoundsNeededHandAlone
import Derived.Test.YthkfjbodohaglaaGreatDoorZRoundsNeededHandReach
import Derived.Test.YthkfjbodohaglaaGreatDoorZRoundsNeededHandPut
import Derived.Test.YthkfjbodohaglaaGreatDoorZRoundsNeededHandRepl
namespace Go.Proofs.YthkfjbodohaglaaGreatDoor.PFnExactRoundsNeeded
open Go.RowKit Go.Proofs.YthkfjbodohaglaaGreatDoorW.PrintWords Go.Proofs.YthkfjbodohaglaaGreatDoorW.PrintLast Go.Proofs.YthkfjbodohaglaaGreatDoorW.PrintMore Go.Proofs.YthkfjbodohaglaaGreatDoor.Sq
attribute [local go_sem] kG kI lY lZ jH jI kH kJ
set_option linter.unusedVariables false
set_option linter.unusedSimpArgs false
set_option maxHeartbeats 8000000
set_option maxRecDepth 100000
def KM : Option Int → Value
 | none => .nilIface
 | some c => .iface 0 (.int .i64 c)
theorem mF : KM none = .nilIface := rfl
theorem mG (c : Int) : KM (some c) = .iface 0 (.int .i64 c) := rfl
theorem info3 : (Tryz.prog.info? 3).map (fun i => (i.zero, i.size, i.bytes)) = some (some (.int .i64 0), 1, 8) := by kernel_rfl
theorem Jw : (Tryz.prog.info? 4).map (fun i => (i.zero, i.size, i.bytes)) = some (some (.bool false), 1, 1) := by kernel_rfl
theorem info5 : (Tryz.prog.info? 5).map (fun i => (i.zero, i.size, i.bytes)) = some (some (.int .u8 0), 1, 1) := by kernel_rfl
theorem DJ : (Tryz.prog.info? 9).map (fun i => (i.zero, i.size, i.bytes)) = some (some (.string ⟨#[]⟩), 1, 16) := by kernel_rfl
theorem JY : (Tryz.prog.info? 25).map (fun i => (i.zero, i.size, i.bytes)) = some (some (.slice none 0 0), 1, 24) := by kernel_rfl
theorem JZ : (Tryz.prog.info? 62).map (fun i => (i.zero, i.size, i.bytes)) = some (some (.agg #[(.string ⟨#[]⟩), (.int .i64 0)]), 2, 24) := by kernel_rfl
theorem Ka : (Tryz.prog.info? 72).map (fun i => (i.zero, i.size, i.bytes)) = some (some (.agg #[(.int .i64 0), (.slice none 0 0)]), 2, 32) := by kernel_rfl
theorem uS : (Tryz.prog.info? 92).map (fun i => (i.zero, i.size, i.bytes)) = some (some (.agg #[(.int .i64 0), (.bool false), (.int .i64 0), (.int .i64 0)]), 4, 32) := by kernel_rfl
theorem IZ : (Tryz.prog.info? 121).map (fun i => (i.zero, i.size, i.bytes)) = some (some (.agg #[(.int .i64 0), (.string ⟨#[]⟩), (.int .i64 0), (.int .i64 0)]), 4, 40) := by kernel_rfl
structure nu where
 f0 : Int
 f1 : ByteArray
 f2 : Int
 f3 : Int
def z124 : nu := ⟨(0 : Int), (⟨#[]⟩ : ByteArray), (0 : Int), (0 : Int)⟩
def BG : Kd nu := Kd.iso (Kd.pair (Kd.int .i64) (Kd.pair Kd.string (Kd.pair (Kd.int .i64) (Kd.int .i64)))) (fun x : nu => (x.f0, x.f1, x.f2, x.f3))
theorem Ga {w : World} {x : nu} {cs : List Value} (h : BG.K w x cs) : cs = [.int .i64 x.f0, .string x.f1, .int .i64 x.f2, .int .i64 x.f3] := by
 obtain ⟨_, _, rfl, rfl, ⟨_, _, rfl, rfl, ⟨_, _, rfl, rfl, rfl⟩⟩⟩ := h;exact rfl
def gM (xs : List nu) (i : Int) : nu := xs.getD i.toNat z124
theorem Fg {w : World} {A : Option Addr} {n : Nat} {xs : List nu} (h : Kd.C BG w A n xs) (i : Int) (h0 : 0 ≤ i) (h1 : i < n) : ∃ ad , A = some ad ∧ w.cell? (ad.add (i.toNat * 4)) = some (.int .i64 (gM xs i).f0) ∧ w.cell? ⟨(ad.add (i.toNat * 4)).block, (ad.add (i.toNat * 4)).off + 1, none⟩ = some (.string (gM xs i).f1) ∧ w.cell? ⟨(ad.add (i.toNat * 4)).block, (ad.add (i.toNat * 4)).off + 2, none⟩ = some (.int .i64 (gM xs i).f2) ∧ w.cell? ⟨(ad.add (i.toNat * 4)).block, (ad.add (i.toNat * 4)).off + 3, none⟩ = some (.int .i64 (gM xs i).f3) := by
 obtain ⟨ad, c, e, _, hK, a⟩ := Kd.tu h z124 i h0 h1;have hc : ∀ j u, c[j]? = some u → w.cell? (ad.add (i.toNat * 4 + j)) = some u := a;obtain rfl := Ga hK;exact ⟨ad, e, hc 0 _ rfl, by rw [← jr _ _ 1 (by omega)]; exact hc 1 _ rfl, by rw [← jr _ _ 2 (by omega)]; exact hc 2 _ rfl, by rw [← jr _ _ 3 (by omega)]; exact hc 3 _ rfl⟩
structure S81 where
 f0 : Int
 f1 : (List nu)
def z81 : S81 := ⟨(0 : Int), ([] : List nu)⟩
def k81 : Kd S81 := Kd.iso (Kd.pair (Kd.int .i64) (Kd.slice 124 BG)) (fun x : S81 => (x.f0, x.f1))
theorem Hq {w : World} {x : S81} {cs : List Value} (h : k81.K w x cs) : ∃ A1 c1, cs = [.int .i64 x.f0, .slice A1 x.f1.length c1] ∧ x.f1.length ≤ c1 ∧ BG.C w A1 x.f1.length x.f1 := by
 obtain ⟨_, _, rfl, rfl, ⟨A1, c1, rfl, l1, g1⟩⟩ := h;exact ⟨A1, c1, rfl, l1, g1⟩
def kD (xs : List S81) (i : Int) : S81 := xs.getD i.toNat z81
theorem Gz {w : World} {A : Option Addr} {n : Nat} {xs : List S81} (h : Kd.C k81 w A n xs) (i : Int) (h0 : 0 ≤ i) (h1 : i < n) : ∃ ad A1 c1, A = some ad ∧ w.cell? (ad.add (i.toNat * 2)) = some (.int .i64 (kD xs i).f0) ∧ w.cell? ⟨(ad.add (i.toNat * 2)).block, (ad.add (i.toNat * 2)).off + 1, none⟩ = some (.slice A1 (kD xs i).f1.length c1) ∧ (kD xs i).f1.length ≤ c1 ∧ BG.C w A1 (kD xs i).f1.length (kD xs i).f1 := by
 obtain ⟨ad, c, e, _, hK, a⟩ := Kd.tu h z81 i h0 h1;have hc : ∀ j u, c[j]? = some u → w.cell? (ad.add (i.toNat * 2 + j)) = some u := a;obtain ⟨A1, c1, rfl, l1, g1⟩ := Hq hK;exact ⟨ad, A1, c1, e, hc 0 _ rfl, by rw [← jr _ _ 1 (by omega)]; exact hc 1 _ rfl, l1, g1⟩
structure S57 where
 f0 : ByteArray
 f1 : Int
def z57 : S57 := ⟨(⟨#[]⟩ : ByteArray), (0 : Int)⟩
def k57 : Kd S57 := Kd.iso (Kd.pair Kd.string (Kd.int .i64)) (fun x : S57 => (x.f0, x.f1))
theorem Hg {w : World} {x : S57} {cs : List Value} (h : k57.K w x cs) : cs = [.string x.f0, .int .i64 x.f1] := by
 obtain ⟨_, _, rfl, rfl, rfl⟩ := h;exact rfl
def lT (xs : List S57) (i : Int) : S57 := xs.getD i.toNat z57
theorem Gy {w : World} {A : Option Addr} {n : Nat} {xs : List S57} (h : Kd.C k57 w A n xs) (i : Int) (h0 : 0 ≤ i) (h1 : i < n) : ∃ ad , A = some ad ∧ w.cell? (ad.add (i.toNat * 2)) = some (.string (lT xs i).f0) ∧ w.cell? ⟨(ad.add (i.toNat * 2)).block, (ad.add (i.toNat * 2)).off + 1, none⟩ = some (.int .i64 (lT xs i).f1) := by
 obtain ⟨ad, c, e, _, hK, a⟩ := Kd.tu h z57 i h0 h1;have hc : ∀ j u, c[j]? = some u → w.cell? (ad.add (i.toNat * 2 + j)) = some u := a;obtain rfl := Hg hK;exact ⟨ad, e, hc 0 _ rfl, by rw [← jr _ _ 1 (by omega)]; exact hc 1 _ rfl⟩
structure dD where
 f0 : Int
 f1 : ByteArray
 f2 : Int
 f3 : Int
def Dt : dD := ⟨(0 : Int), (⟨#[]⟩ : ByteArray), (0 : Int), (0 : Int)⟩
def jC : Kd dD := Kd.iso (Kd.pair (Kd.int .i64) (Kd.pair Kd.string (Kd.pair (Kd.int .i64) (Kd.int .i64)))) (fun x : dD => (x.f0, x.f1, x.f2, x.f3))
theorem FZ {w : World} {x : dD} {cs : List Value} (h : jC.K w x cs) : cs = [.int .i64 x.f0, .string x.f1, .int .i64 x.f2, .int .i64 x.f3] := by
 obtain ⟨_, _, rfl, rfl, ⟨_, _, rfl, rfl, ⟨_, _, rfl, rfl, rfl⟩⟩⟩ := h;exact rfl
theorem Az {w : World} {base : Nat} {ok : Nat → Prop} {x : dD} {cs : List Value} (h : jC.M w base ok x cs) : cs = [.int .i64 x.f0, .string x.f1, .int .i64 x.f2, .int .i64 x.f3] := by
 obtain ⟨_, _, rfl, rfl, ⟨_, _, rfl, rfl, ⟨_, _, rfl, rfl, rfl⟩⟩⟩ := h;exact rfl
theorem DK (w : World) (base : Nat) (ok : Nat → Prop) (x : dD)  : jC.M w base ok x [.int .i64 x.f0, .string x.f1, .int .i64 x.f2, .int .i64 x.f3] := ⟨[.int .i64 x.f0], [.string x.f1, .int .i64 x.f2, .int .i64 x.f3], rfl, rfl, ⟨[.string x.f1], [.int .i64 x.f2, .int .i64 x.f3], rfl, rfl, ⟨[.int .i64 x.f2], [.int .i64 x.f3], rfl, rfl, rfl⟩⟩⟩
def aj (xs : List dD) (i : Int) : dD := xs.getD i.toNat Dt
theorem jT {w : World} {A : Option Addr} {n : Nat} {xs : List dD} (h : Kd.C jC w A n xs) (i : Int) (h0 : 0 ≤ i) (h1 : i < n) : ∃ ad , A = some ad ∧ w.cell? (ad.add (i.toNat * 4)) = some (.int .i64 (aj xs i).f0) ∧ w.cell? ⟨(ad.add (i.toNat * 4)).block, (ad.add (i.toNat * 4)).off + 1, none⟩ = some (.string (aj xs i).f1) ∧ w.cell? ⟨(ad.add (i.toNat * 4)).block, (ad.add (i.toNat * 4)).off + 2, none⟩ = some (.int .i64 (aj xs i).f2) ∧ w.cell? ⟨(ad.add (i.toNat * 4)).block, (ad.add (i.toNat * 4)).off + 3, none⟩ = some (.int .i64 (aj xs i).f3) := by
 obtain ⟨ad, c, e, _, hK, a⟩ := Kd.tu h Dt i h0 h1;have hc : ∀ j u, c[j]? = some u → w.cell? (ad.add (i.toNat * 4 + j)) = some u := a;obtain rfl := FZ hK;exact ⟨ad, e, hc 0 _ rfl, by rw [← jr _ _ 1 (by omega)]; exact hc 1 _ rfl, by rw [← jr _ _ 2 (by omega)]; exact hc 2 _ rfl, by rw [← jr _ _ 3 (by omega)]; exact hc 3 _ rfl⟩
structure S72 where
 f0 : Int
 f1 : (List dD)
def z72 : S72 := ⟨(0 : Int), ([] : List dD)⟩
def k72 : Kd S72 := Kd.iso (Kd.pair (Kd.int .i64) (Kd.slice 121 jC)) (fun x : S72 => (x.f0, x.f1))
theorem Ho {w : World} {x : S72} {cs : List Value} (h : k72.K w x cs) : ∃ A1 c1, cs = [.int .i64 x.f0, .slice A1 x.f1.length c1] ∧ x.f1.length ≤ c1 ∧ jC.C w A1 x.f1.length x.f1 := by
 obtain ⟨_, _, rfl, rfl, ⟨A1, c1, rfl, l1, g1⟩⟩ := h;exact ⟨A1, c1, rfl, l1, g1⟩
theorem Ce {w : World} {base : Nat} {ok : Nat → Prop} {x : S72} {cs : List Value} (h : k72.M w base ok x cs) : ∃ a, cs = [.int .i64 x.f0, a] ∧ jC.R 121 w base ok a x.f1 := by
 obtain ⟨_, _, rfl, rfl, ⟨a, rfl, g1⟩⟩ := h;exact ⟨a, rfl, g1⟩
theorem Fu (w : World) (base : Nat) (ok : Nat → Prop) (x : S72) {a : Value} (g1 : jC.R 121 w base ok a x.f1) : k72.M w base ok x [.int .i64 x.f0, a] := ⟨[.int .i64 x.f0], [a], rfl, rfl, ⟨a, rfl, g1⟩⟩
def fO (xs : List S72) (i : Int) : S72 := xs.getD i.toNat z72
theorem uN {w : World} {A : Option Addr} {n : Nat} {xs : List S72} (h : Kd.C k72 w A n xs) (i : Int) (h0 : 0 ≤ i) (h1 : i < n) : ∃ ad A1 c1, A = some ad ∧ w.cell? (ad.add (i.toNat * 2)) = some (.int .i64 (fO xs i).f0) ∧ w.cell? ⟨(ad.add (i.toNat * 2)).block, (ad.add (i.toNat * 2)).off + 1, none⟩ = some (.slice A1 (fO xs i).f1.length c1) ∧ (fO xs i).f1.length ≤ c1 ∧ jC.C w A1 (fO xs i).f1.length (fO xs i).f1 := by
 obtain ⟨ad, c, e, _, hK, a⟩ := Kd.tu h z72 i h0 h1;have hc : ∀ j u, c[j]? = some u → w.cell? (ad.add (i.toNat * 2 + j)) = some u := a;obtain ⟨A1, c1, rfl, l1, g1⟩ := Ho hK;exact ⟨ad, A1, c1, e, hc 0 _ rfl, by rw [← jr _ _ 1 (by omega)]; exact hc 1 _ rfl, l1, g1⟩
structure S62 where
 f0 : ByteArray
 f1 : Int
def z62 : S62 := ⟨(⟨#[]⟩ : ByteArray), (0 : Int)⟩
def k62 : Kd S62 := Kd.iso (Kd.pair Kd.string (Kd.int .i64)) (fun x : S62 => (x.f0, x.f1))
theorem Hl {w : World} {x : S62} {cs : List Value} (h : k62.K w x cs) : cs = [.string x.f0, .int .i64 x.f1] := by
 obtain ⟨_, _, rfl, rfl, rfl⟩ := h;exact rfl
theorem Cc {w : World} {base : Nat} {ok : Nat → Prop} {x : S62} {cs : List Value} (h : k62.M w base ok x cs) : cs = [.string x.f0, .int .i64 x.f1] := by
 obtain ⟨_, _, rfl, rfl, rfl⟩ := h;exact rfl
theorem Fq (w : World) (base : Nat) (ok : Nat → Prop) (x : S62)  : k62.M w base ok x [.string x.f0, .int .i64 x.f1] := ⟨[.string x.f0], [.int .i64 x.f1], rfl, rfl, rfl⟩
def gy (xs : List S62) (i : Int) : S62 := xs.getD i.toNat z62
theorem wZ {w : World} {A : Option Addr} {n : Nat} {xs : List S62} (h : Kd.C k62 w A n xs) (i : Int) (h0 : 0 ≤ i) (h1 : i < n) : ∃ ad , A = some ad ∧ w.cell? (ad.add (i.toNat * 2)) = some (.string (gy xs i).f0) ∧ w.cell? ⟨(ad.add (i.toNat * 2)).block, (ad.add (i.toNat * 2)).off + 1, none⟩ = some (.int .i64 (gy xs i).f1) := by
 obtain ⟨ad, c, e, _, hK, a⟩ := Kd.tu h z62 i h0 h1;have hc : ∀ j u, c[j]? = some u → w.cell? (ad.add (i.toNat * 2 + j)) = some u := a;obtain rfl := Hl hK;exact ⟨ad, e, hc 0 _ rfl, by rw [← jr _ _ 1 (by omega)]; exact hc 1 _ rfl⟩
structure S92 where
 f0 : Int
 f1 : Bool
 f2 : Int
 f3 : Int
def z92 : S92 := ⟨(0 : Int), false, (0 : Int), (0 : Int)⟩
def k92 : Kd S92 := Kd.iso (Kd.pair (Kd.int .i64) (Kd.pair Kd.bool (Kd.pair (Kd.int .i64) (Kd.int .i64)))) (fun x : S92 => (x.f0, x.f1, x.f2, x.f3))
theorem Hr {w : World} {x : S92} {cs : List Value} (h : k92.K w x cs) : cs = [.int .i64 x.f0, .bool x.f1, .int .i64 x.f2, .int .i64 x.f3] := by
 obtain ⟨_, _, rfl, rfl, ⟨_, _, rfl, rfl, ⟨_, _, rfl, rfl, rfl⟩⟩⟩ := h;exact rfl
theorem rD (w : World) (base : Nat) (ok : Nat → Prop) (x : S92)  : k92.M w base ok x [.int .i64 x.f0, .bool x.f1, .int .i64 x.f2, .int .i64 x.f3] := ⟨[.int .i64 x.f0], [.bool x.f1, .int .i64 x.f2, .int .i64 x.f3], rfl, rfl, ⟨[.bool x.f1], [.int .i64 x.f2, .int .i64 x.f3], rfl, rfl, ⟨[.int .i64 x.f2], [.int .i64 x.f3], rfl, rfl, rfl⟩⟩⟩
def aQ (xs : List S92) (i : Int) : S92 := xs.getD i.toNat z92
theorem pI {w : World} {A : Option Addr} {n : Nat} {xs : List S92} (h : Kd.C k92 w A n xs) (i : Int) (h0 : 0 ≤ i) (h1 : i < n) : ∃ ad , A = some ad ∧ w.cell? (ad.add (i.toNat * 4)) = some (.int .i64 (aQ xs i).f0) ∧ w.cell? ⟨(ad.add (i.toNat * 4)).block, (ad.add (i.toNat * 4)).off + 1, none⟩ = some (.bool (aQ xs i).f1) ∧ w.cell? ⟨(ad.add (i.toNat * 4)).block, (ad.add (i.toNat * 4)).off + 2, none⟩ = some (.int .i64 (aQ xs i).f2) ∧ w.cell? ⟨(ad.add (i.toNat * 4)).block, (ad.add (i.toNat * 4)).off + 3, none⟩ = some (.int .i64 (aQ xs i).f3) := by
 obtain ⟨ad, c, e, _, hK, a⟩ := Kd.tu h z92 i h0 h1;have hc : ∀ j u, c[j]? = some u → w.cell? (ad.add (i.toNat * 4 + j)) = some u := a;obtain rfl := Hr hK;exact ⟨ad, e, hc 0 _ rfl, by rw [← jr _ _ 1 (by omega)]; exact hc 1 _ rfl, by rw [← jr _ _ 2 (by omega)]; exact hc 2 _ rfl, by rw [← jr _ _ 3 (by omega)]; exact hc 3 _ rfl⟩
def iQ (xs : List (List Int)) (i : Int) : (List Int) := xs.getD i.toNat ([] : List Int)
theorem Cv {w : World} {A : Option Addr} {n : Nat} {xs : List (List Int)} (h : Kd.C (Kd.slice 3 (Kd.int .i64)) w A n xs) (i : Int) (h0 : 0 ≤ i) (h1 : i < n) : ∃ ad a m, A = some ad ∧ w.cell? (ad.add i.toNat) = some (.slice a (iQ xs i).length m) ∧ (iQ xs i).length ≤ m ∧ (Kd.int .i64).C w a (iQ xs i).length (iQ xs i) := by
 obtain ⟨ad, c, e, _, hK, o⟩ := Kd.tu h ([] : List Int) i h0 h1;have hc : ∀ j u, c[j]? = some u → w.cell? (ad.add (i.toNat * 1 + j)) = some u := o;obtain ⟨a, m, rfl, l0, g0⟩ := hK;exact ⟨ad, a, m, e, by have hq := hc 0 _ rfl; rwa [Nat.mul_one, Nat.add_zero] at hq, l0, g0⟩
def kY.f (La Lb : Int) (Lc : ByteArray) (a1 : Int) : Option (Int) := if (wrap64 (a1 - (Lc.size : Int))) < 0 then (some (-1)) else (some (wrap64 (a1 - (Lc.size : Int))))
theorem kY.calls (La Lb : Int) (Lc : ByteArray) (J r : Int) (w : World) (h : kY.f La Lb Lc J = some r) :
  Calls Tryz.prog 27 #[.agg #[.int .i64 La, .int .i64 Lb, .string Lc], .int .i64 J] w fun e w' => e = .returned (.int .i64 r) ∧ Below w.heap.size w w' := by
 have K := Tryz.underlying23;have HB := ah.mk (Below.refl w.heap.size w);unfold kY.f at h;have H := h;clear h;replace H := ah.mk H;go_enter Tryz.func27, Tryz.ntmps27;go_wp2_with (first | ((with_reducible refine aJ (N := 2) rfl ?_); refine aZ (N := 2) (cs := #[.int .i64 La, .int .i64 Lb, .string Lc]) (t := 23) ?_; intro E hg G hbox hb; have a := ah.mk hbox; have m := SZ (w := w) hg; have I := m; replace HB := BS (w := w) hb; clear hb hbox hg; obtain ⟨o, u, x, y, z, A⟩ := cz3 a.out; refine bR ?_));refine Hide.mk ?_;replace H := H.out;replace H := ifD H; rcases H with ⟨D, H⟩ | ⟨D, H⟩
 ·obtain rfl := Option.some.inj H;(try go_wp2);go_ret;exact ⟨EWW, BL⟩
 ·obtain rfl := Option.some.inj H;(try go_wp2);go_ret;exact ⟨EWW, BL⟩
def lg.f (La : Int) (Lb : ByteArray) (Lc a0_3 a1 : Int) : Option (Int) := if (wrap64 (a1 - (Lb.size : Int))) < 0 then (some (-1)) else (some (wrap64 (a1 - (Lb.size : Int))))
theorem lg.calls (La : Int) (Lb : ByteArray) (Lc a : Int) (O r : Int) (w : World) (h : lg.f La Lb Lc a O = some r) :
  Calls Tryz.prog 117 #[.agg #[.int .i64 La, .string Lb, .int .i64 Lc, .int .i64 a], .int .i64 O] w fun e w' => e = .returned (.int .i64 r) ∧ Below w.heap.size w w' := by
 have J := Tryz.underlying124;have HB := ah.mk (Below.refl w.heap.size w);unfold lg.f at h;have H := h;clear h;replace H := ah.mk H;go_enter Tryz.func117, Tryz.ntmps117;go_wp2_with (first | ((with_reducible refine aJ (N := 2) rfl ?_); refine aZ (N := 2) (cs := #[.int .i64 La, .string Lb, .int .i64 Lc, .int .i64 a]) (t := 124) ?_; intro K hg L hbox hb; have m := ah.mk hbox; have o := SZ (w := w) hg; have M := o; replace HB := BS (w := w) hb; clear hb hbox hg; obtain ⟨u, x, y, z, A, D, E, G⟩ := cz4 m.out; refine bR ?_));refine Hide.mk ?_;replace H := H.out;replace H := ifD H; rcases H with ⟨I, H⟩ | ⟨I, H⟩
 ·obtain rfl := Option.some.inj H;(try go_wp2);go_ret;exact ⟨EWW, BL⟩
 ·obtain rfl := Option.some.inj H;(try go_wp2);go_ret;exact ⟨EWW, BL⟩
def fZ.l0 : Nat → List (nu) → Int → Int → Option (Int)
 | 0, _, _, _ => none
 | k + 1, a, b, c => if c < (a.length : Int) then (if 0 ≤ c then ((lg.f ((gM a c).f0) ((gM a c).f1) ((gM a c).f2) ((gM a c).f3) b).bind fun d => (if d < 0 then (some (-1)) else (fZ.l0 k a d (wrap64 (c + 1))))) else (none)) else (some b)
def fZ.f (k : Nat) (l0 : List (nu)) (a1 : Int) : Option (Int) := if (wrap64 (a1 - (l0.length : Int))) < 0 then (some (-1)) else (fZ.l0 k l0 (wrap64 (a1 - (l0.length : Int))) 0)
theorem fZ.calls (k : Nat) (Z : Option Addr) (c0 : Nat) (l0 : List (nu)) (a1 r : Int) (w : World) (E : Kd.C BG w Z l0.length l0) (G : l0.length ≤ c0) (h : fZ.f k l0 a1 = some r) :
  Calls Tryz.prog 88 #[.slice Z l0.length c0, .int .i64 a1] w fun e w' => e = .returned (.int .i64 r) ∧ Below w.heap.size w w' := by
 have O := Tryz.underlying124;have P := ah.mk E;have xd := ah.mk G;clear E G;have HB := ah.mk (Below.refl w.heap.size w);unfold fZ.f at h;have H := h;clear h;replace H := ah.mk H;go_enter Tryz.func88, Tryz.ntmps88;replace H := H.out;replace H := ifD H; rcases H with ⟨D, H⟩ | ⟨D, H⟩
 ·obtain rfl := Option.some.inj H;(try go_wp2);go_ret;exact ⟨EWW, BL⟩
 ·have H' := ah.mk H;clear H;try go_wp2
  go_loopg [1, 5] k (fun kq v1 v5 w' => ∃ (y : Int) (a : Int), v1 = .int .i64 y ∧ v5 = .int .i64 a ∧ ah (fZ.l0 kq l0 y a = some r) ∧ ah (kq ≤ k) ∧ ah (Below w.heap.size w w'))
  case atStart => exact ⟨_, _, EQ, EQ, H', ⟨Nat.le_refl _⟩, ⟨BL⟩⟩
  case round =>
   clear H';(try clear c3);(try clear D);obtain ⟨y, a, rfl, rfl, HA, I, HB⟩ := hrel
   cases gk with
   | zero => exact absurd HA.out (by simp [fZ.l0])
   | succ k1 =>
    have H := HA.out;clear HA;simp only [fZ.l0] at H;replace H := ifD H; rcases H with ⟨J, H⟩ | ⟨J, H⟩
    ·replace H := ifN H; obtain ⟨xc, H⟩ := H;replace H := be H; obtain ⟨K, A6, H⟩ := H;have z : 0 ≤ (a : Int) := OD;have A : a < (l0.length : Int) := OD;obtain ⟨U, L, m, o, u, x⟩ := Fg P.out a z A
     cases L
     (try replace m := (HB.out.cell (World.block_lt_of_cell? w _ m)).trans m);(try replace o := (HB.out.cell (World.block_lt_of_cell? w _ o)).trans o);(try replace u := (HB.out.cell (World.block_lt_of_cell? w _ u)).trans u);(try replace x := (HB.out.cell (World.block_lt_of_cell? w _ x)).trans x);replace z := eq_true z;replace A := eq_true A;replace H := ah.mk H;go_wp2_with (first | ((with_reducible refine ay (f := 117) rfl ?_); refine bf (some 23) Tryz.func117 #[.agg #[.int .i64 ((gM l0 a).f0), .string ((gM l0 a).f1), .int .i64 ((gM l0 a).f2), .int .i64 ((gM l0 a).f3)], .int .i64 y] ?_; (with_reducible refine (lg.calls ((gM l0 a).f0) ((gM l0 a).f1) ((gM l0 a).f2) ((gM l0 a).f3) y K _ A6.out).mono ?_); rintro e Y ⟨rfl, hb⟩; refine ⟨_, rfl, ?_⟩; replace HB := BS (w := w) hb; (try clear hb); refine bR ?_));refine Hide.mk ?_;replace H := H.out;replace H := ifD H; rcases H with ⟨M, H⟩ | ⟨M, H⟩
     ·obtain rfl := Option.some.inj H;(try go_wp2);go_ret;exact ⟨EWW, BL⟩
     ·have H' := ah.mk H;clear H;(try go_wp2);go_roundg k1;case measure => have := I.out; omega
      case rel => exact ⟨_, _, EQ, EQ, H', ks I, ⟨BL⟩⟩
    ·obtain rfl := Option.some.inj H;go_wp2;go_ret;exact ⟨EWW, BL⟩
def kX.f (k : Nat) (La : Int) (l0_1 : List (nu)) (a1 : Int) : Option (Int) := (fZ.f k l0_1 a1).bind fun t106 => (if t106 < 0 then (some (-1)) else (some t106))
theorem kX.calls (k : Nat) (La : Int) (o : Option Addr) (u : Nat) (a : List (nu)) (M r : Int) (w : World) (x : Kd.C BG w o a.length a) (y : a.length ≤ u) (h : kX.f k La a M = some r) :
  Calls Tryz.prog 52 #[.agg #[.int .i64 La, .slice o a.length u], .int .i64 M] w fun e w' => e = .returned (.int .i64 r) ∧ Below w.heap.size w w' := by
 have Z := Tryz.underlying81;have z := ah.mk x;have A := ah.mk y;clear x y;have HB := ah.mk (Below.refl w.heap.size w);unfold kX.f at h;have H := h;clear h;replace H := be H; obtain ⟨K, A3, H⟩ := H;replace H := ah.mk H;go_enter Tryz.func52, Tryz.ntmps52;go_wp2_with (first | ((with_reducible refine aJ (N := 2) rfl ?_); refine aZ (N := 2) (cs := #[.int .i64 La, .slice o a.length u]) (t := 81) ?_; intro O hg P hbox hb; have m := ah.mk hbox; have D := SZ (w := w) hg; have U := D; replace HB := BS (w := w) hb; clear hb hbox hg; obtain ⟨E, G, I, J⟩ := cz2 m.out) | ((with_reducible refine ay (f := 88) rfl ?_); refine bf (some 8) Tryz.func88 #[.slice o a.length u, .int .i64 M] ?_; (with_reducible refine (fZ.calls k _ _ a M K _ ?side1 ?side2 A3.out).mono ?_); (case side1 => exact CB z); (case side2 => exact A.out); rintro e Y ⟨rfl, hb⟩; refine ⟨_, rfl, ?_⟩; replace m := KB m hb; replace HB := BS (w := w) hb; (try clear hb); refine bR ?_));refine Hide.mk ?_;replace H := H.out;replace H := ifD H; rcases H with ⟨L, H⟩ | ⟨L, H⟩
 ·obtain rfl := Option.some.inj H;(try go_wp2);go_ret;exact ⟨EWW, BL⟩
 ·obtain rfl := Option.some.inj H;(try go_wp2);go_ret;exact ⟨EWW, BL⟩
def fV.l0 : Nat → List (S81) → Int → Int → Option (Int)
 | 0, _, _, _ => none
 | k + 1, a, b, c => if c < (a.length : Int) then (if 0 ≤ c then ((kX.f k ((kD a c).f0) ((kD a c).f1) b).bind fun d => (if d < 0 then (some (-1)) else (fV.l0 k a d (wrap64 (c + 1))))) else (none)) else (some b)
def fV.f (k : Nat) (l0 : List (S81)) (a1 : Int) : Option (Int) := if (wrap64 (a1 - (l0.length : Int))) < 0 then (some (-1)) else (fV.l0 k l0 (wrap64 (a1 - (l0.length : Int))) 0)
theorem fV.calls (k : Nat) (A0 : Option Addr) (c0 : Nat) (l0 : List (S81)) (a1 r : Int) (w : World) (I : Kd.C k81 w A0 l0.length l0) (J : l0.length ≤ c0) (h : fV.f k l0 a1 = some r) :
  Calls Tryz.prog 28 #[.slice A0 l0.length c0, .int .i64 a1] w fun e w' => e = .returned (.int .i64 r) ∧ Below w.heap.size w w' := by
 have xd := Tryz.underlying81;have U := ah.mk I;have xf := ah.mk J;clear I J;have HB := ah.mk (Below.refl w.heap.size w);unfold fV.f at h;have H := h;clear h;replace H := ah.mk H;go_enter Tryz.func28, Tryz.ntmps28;replace H := H.out;replace H := ifD H; rcases H with ⟨G, H⟩ | ⟨G, H⟩
 ·obtain rfl := Option.some.inj H;(try go_wp2);go_ret;exact ⟨EWW, BL⟩
 ·have H' := ah.mk H;clear H;try go_wp2
  go_loopg [1, 5] k (fun kq v1 v5 w' => ∃ (u : Int) (a : Int), v1 = .int .i64 u ∧ v5 = .int .i64 a ∧ ah (fV.l0 kq l0 u a = some r) ∧ ah (kq ≤ k) ∧ ah (Below w.heap.size w w'))
  case atStart => exact ⟨_, _, EQ, EQ, H', ⟨Nat.le_refl _⟩, ⟨BL⟩⟩
  case round =>
   clear H';(try clear c3);(try clear G);obtain ⟨u, a, rfl, rfl, HA, K, HB⟩ := hrel
   cases gk with
   | zero => exact absurd HA.out (by simp [fV.l0])
   | succ k1 =>
    have H := HA.out;clear HA;simp only [fV.l0] at H;replace H := ifD H; rcases H with ⟨L, H⟩ | ⟨L, H⟩
    ·replace H := ifN H; obtain ⟨xe, H⟩ := H;replace H := be H; obtain ⟨M, A6, H⟩ := H;have x : 0 ≤ (a : Int) := OD;have y : a < (l0.length : Int) := OD;obtain ⟨Y, D, E, O, m, o, hl107_1, hi107_1⟩ := Gz U.out a x y
     cases O
     (try replace m := (HB.out.cell (World.block_lt_of_cell? w _ m)).trans m);(try replace o := (HB.out.cell (World.block_lt_of_cell? w _ o)).trans o);have z := ah.mk hi107_1;have A := ah.mk hl107_1;clear hi107_1 hl107_1;replace x := eq_true x;replace y := eq_true y;replace H := ah.mk H;go_wp2_with (first | ((with_reducible refine ay (f := 52) rfl ?_); refine bf (some 23) Tryz.func52 #[.agg #[.int .i64 ((kD l0 a).f0), .slice D ((kD l0 a).f1).length E], .int .i64 u] ?_; (with_reducible refine (kX.calls k1 ((kD l0 a).f0) _ _ ((kD l0 a).f1) u M _ ?side1 ?side2 A6.out).mono ?_); (case side1 => exact CB z); (case side2 => exact A.out); rintro e Z ⟨rfl, hb⟩; refine ⟨_, rfl, ?_⟩; replace HB := BS (w := w) hb; (try clear hb); refine bR ?_));refine Hide.mk ?_;replace H := H.out;replace H := ifD H; rcases H with ⟨P, H⟩ | ⟨P, H⟩
     ·obtain rfl := Option.some.inj H;(try go_wp2);go_ret;exact ⟨EWW, BL⟩
     ·have H' := ah.mk H;clear H;(try go_wp2);go_roundg k1;case measure => have := K.out; omega
      case rel => exact ⟨_, _, EQ, EQ, H', ks K, ⟨BL⟩⟩
    ·obtain rfl := Option.some.inj H;go_wp2;go_ret;exact ⟨EWW, BL⟩
def kZ.f (l0 : List Int) (a1 : Int) : Option (Int) := if (wrap64 (a1 - (l0.length : Int))) < 0 then (some (-1)) else (some (wrap64 (a1 - (l0.length : Int))))
theorem kZ.calls (u : Option Addr) (x : Nat) (l0 : List Int) (y r : Int) (w : World) (a : Kd.C (Kd.int .i64) w u l0.length l0) (m : l0.length ≤ x) (h : kZ.f l0 y = some r) :
  Calls Tryz.prog 29 #[.slice u l0.length x, .int .i64 y] w fun e w' => e = .returned (.int .i64 r) ∧ cB w w' := by
 have z := ah.mk a;have A := ah.mk m;clear a m;unfold kZ.f at h;have H := h;clear h;replace H := ah.mk H;go_enter Tryz.func29, Tryz.ntmps29;replace H := H.out;replace H := ifD H; rcases H with ⟨o, H⟩ | ⟨o, H⟩
 ·obtain rfl := Option.some.inj H;(try go_wp2);go_ret;exact ⟨EQ, DR⟩
 ·obtain rfl := Option.some.inj H;(try go_wp2);go_ret;exact ⟨EQ, DR⟩
def jQ.f (k : Nat) (La Lb : Int) (Lc : ByteArray) (Ld : List (S81)) (Le : List Int) (Lf a1 : Int) : Option (Int) := (kY.f La Lb Lc a1).bind fun t110 => (if t110 < 0 then (some (-1)) else ((fV.f k Ld t110).bind fun t111 => (if t111 < 0 then (some (-1)) else ((kZ.f Le t111).bind fun t112 => (if t112 < 0 then (some (-1)) else (some t112))))))
theorem jQ.calls (k : Nat) (La Lb : Int) (Lc : ByteArray) (A0_3 : Option Addr) (c0_3 : Nat) (Ld : List (S81)) (A0_4 : Option Addr) (c0_4 : Nat) (Le : List Int) (Lf a1 r : Int) (w : World) (hr0_3 : Kd.C k81 w A0_3 Ld.length Ld) (hc0_3 : Ld.length ≤ c0_3) (hr0_4 : Kd.C (Kd.int .i64) w A0_4 Le.length Le) (hc0_4 : Le.length ≤ c0_4) (h : jQ.f k La Lb Lc Ld Le Lf a1 = some r) :
  Calls Tryz.prog 6 #[.agg #[.int .i64 La, .int .i64 Lb, .string Lc, .slice A0_3 Ld.length c0_3, .slice A0_4 Le.length c0_4, .int .i64 Lf], .int .i64 a1] w fun e w' => e = .returned (.int .i64 r) ∧ Below w.heap.size w w' := by
 have xI := Tryz.underlying27;have xJ := Tryz.underlying23;have u := ah.mk hr0_3;have x := ah.mk hc0_3;clear hr0_3 hc0_3;have y := ah.mk hr0_4;have z := ah.mk hc0_4;clear hr0_4 hc0_4;have HB := ah.mk (Below.refl w.heap.size w);unfold jQ.f at h;have H := h;clear h;replace H := be H; obtain ⟨m, A3, H⟩ := H;replace H := ah.mk H;go_enter Tryz.func6, Tryz.ntmps6;go_wp2_with (first | ((with_reducible refine aJ (N := 2) rfl ?_); refine aZ (N := 2) (cs := #[.int .i64 La, .int .i64 Lb, .string Lc, .slice A0_3 Ld.length c0_3, .slice A0_4 Le.length c0_4, .int .i64 Lf]) (t := 27) ?_; intro xC hg xD hbox hb; have a := ah.mk hbox; have A := SZ (w := w) hg; have xE := A; replace HB := BS (w := w) hb; clear hb hbox hg; obtain ⟨D, E, G, I, J, K, L, M, O, P, U, Y⟩ := cz6 a.out) | ((with_reducible refine ay (f := 27) rfl ?_); refine bf (some 8) Tryz.func27 #[.agg #[.int .i64 La, .int .i64 Lb, .string Lc], .int .i64 a1] ?_; (with_reducible refine (kY.calls La Lb Lc a1 m _ A3.out).mono ?_); rintro e xF ⟨rfl, hb⟩; refine ⟨_, rfl, ?_⟩; replace a := KB a hb; replace HB := BS (w := w) hb; (try clear hb); obtain ⟨Z, xa, xb, xc, xd, xe, xf, xg, xh, xi, xj, xk⟩ := cz6 a.out; refine bR ?_));refine Hide.mk ?_;replace H := H.out;replace H := ifD H; rcases H with ⟨xy, H⟩ | ⟨xy, H⟩
 ·obtain rfl := Option.some.inj H;(try go_wp2);go_ret;exact ⟨EWW, BL⟩
 ·replace H := be H; obtain ⟨o, A8, H⟩ := H;replace H := ah.mk H;go_wp2_with (first | ((with_reducible refine ay (f := 28) rfl ?_); refine bf (some 14) Tryz.func28 #[.slice A0_3 Ld.length c0_3, .int .i64 m] ?_; (with_reducible refine (fV.calls k _ _ Ld m o _ ?side1 ?side2 A8.out).mono ?_); (case side1 => exact CB u); (case side2 => exact x.out); rintro e xG ⟨rfl, hb⟩; refine ⟨_, rfl, ?_⟩; replace a := KB a hb; replace HB := BS (w := w) hb; (try clear hb); obtain ⟨xl, xm, xn, xo, xp, xq, xr, xs, xt, xu, xv, xw⟩ := cz6 a.out; refine bR ?_));refine Hide.mk ?_;replace H := H.out;replace H := ifD H; rcases H with ⟨xz, H⟩ | ⟨xz, H⟩
  ·obtain rfl := Option.some.inj H;(try go_wp2);go_ret;exact ⟨EWW, BL⟩
  ·replace H := be H; obtain ⟨xA, xH, H⟩ := H;replace H := ah.mk H;go_wp2_with (first | ((with_reducible refine ay (f := 29) rfl ?_); refine bf (some 20) Tryz.func29 #[.slice A0_4 Le.length c0_4, .int .i64 o] ?_; (with_reducible refine (kZ.calls _ _ Le o xA _ ?side1 ?side2 xH.out).mono ?_); (case side1 => exact CB y); (case side2 => exact z.out); rintro e w' ⟨rfl, ⟨nd, rfl⟩⟩; refine ⟨_, rfl, ?_⟩; refine bR ?_));refine Hide.mk ?_;replace H := H.out;replace H := ifD H; rcases H with ⟨xx, H⟩ | ⟨xx, H⟩
   ·obtain rfl := Option.some.inj H;(try go_wp2);go_ret;exact ⟨EWW, BL⟩
   ·obtain rfl := Option.some.inj H;(try go_wp2);go_ret;exact ⟨EWW, BL⟩
def jD.f (La : ByteArray) (Lb a1 : Int) : Option (Int) := if (wrap64 (a1 - (La.size : Int))) < 0 then (some (-1)) else (some (wrap64 (a1 - (La.size : Int))))
theorem jD.calls (La : ByteArray) (Lb G r : Int) (w : World) (h : jD.f La Lb G = some r) :
  Calls Tryz.prog 30 #[.agg #[.string La, .int .i64 Lb], .int .i64 G] w fun e w' => e = .returned (.int .i64 r) ∧ Below w.heap.size w w' := by
 have I := Tryz.underlying57;have HB := ah.mk (Below.refl w.heap.size w);unfold jD.f at h;have H := h;clear h;replace H := ah.mk H;go_enter Tryz.func30, Tryz.ntmps30;go_wp2_with (first | ((with_reducible refine aJ (N := 2) rfl ?_); refine aZ (N := 2) (cs := #[.string La, .int .i64 Lb]) (t := 57) ?_; intro A hg D hbox hb; have a := ah.mk hbox; have m := SZ (w := w) hg; have E := m; replace HB := BS (w := w) hb; clear hb hbox hg; obtain ⟨o, u, x, y⟩ := cz2 a.out; refine bR ?_));refine Hide.mk ?_;replace H := H.out;replace H := ifD H; rcases H with ⟨z, H⟩ | ⟨z, H⟩
 ·obtain rfl := Option.some.inj H;(try go_wp2);go_ret;exact ⟨EWW, BL⟩
 ·obtain rfl := Option.some.inj H;(try go_wp2);go_ret;exact ⟨EWW, BL⟩
def eu.l0 : Nat → List (S57) → Int → Int → Option (Int)
 | 0, _, _, _ => none
 | k + 1, a, b, c => if c < (a.length : Int) then (if 0 ≤ c then ((jD.f ((lT a c).f0) ((lT a c).f1) b).bind fun d => (if d < 0 then (some (-1)) else (eu.l0 k a d (wrap64 (c + 1))))) else (none)) else (some b)
def eu.f (k : Nat) (l0 : List (S57)) (a1 : Int) : Option (Int) := if (wrap64 (a1 - (l0.length : Int))) < 0 then (some (-1)) else (eu.l0 k l0 (wrap64 (a1 - (l0.length : Int))) 0)
theorem eu.calls (k : Nat) (P : Option Addr) (U : Nat) (l0 : List (S57)) (Y r : Int) (w : World) (A : Kd.C k57 w P l0.length l0) (D : l0.length ≤ U) (h : eu.f k l0 Y = some r) :
  Calls Tryz.prog 7 #[.slice P l0.length U, .int .i64 Y] w fun e w' => e = .returned (.int .i64 r) ∧ Below w.heap.size w w' := by
 have Z := Tryz.underlying57;have L := ah.mk A;have xb := ah.mk D;clear A D;have HB := ah.mk (Below.refl w.heap.size w);unfold eu.f at h;have H := h;clear h;replace H := ah.mk H;go_enter Tryz.func7, Tryz.ntmps7;replace H := H.out;replace H := ifD H; rcases H with ⟨z, H⟩ | ⟨z, H⟩
 ·obtain rfl := Option.some.inj H;(try go_wp2);go_ret;exact ⟨EWW, BL⟩
 ·have H' := ah.mk H;clear H;try go_wp2
  go_loopg [1, 5] k (fun kq v1 v5 w' => ∃ (u : Int) (a : Int), v1 = .int .i64 u ∧ v5 = .int .i64 a ∧ ah (eu.l0 kq l0 u a = some r) ∧ ah (kq ≤ k) ∧ ah (Below w.heap.size w w'))
  case atStart => exact ⟨_, _, EQ, EQ, H', ⟨Nat.le_refl _⟩, ⟨BL⟩⟩
  case round =>
   clear H';(try clear c3);(try clear z);obtain ⟨u, a, rfl, rfl, HA, E, HB⟩ := hrel
   cases gk with
   | zero => exact absurd HA.out (by simp [eu.l0])
   | succ k1 =>
    have H := HA.out;clear HA;simp only [eu.l0] at H;replace H := ifD H; rcases H with ⟨G, H⟩ | ⟨G, H⟩
    ·replace H := ifN H; obtain ⟨xa, H⟩ := H;replace H := be H; obtain ⟨I, A6, H⟩ := H;have x : 0 ≤ (a : Int) := OD;have y : a < (l0.length : Int) := OD;obtain ⟨M, J, m, o⟩ := Gy L.out a x y
     cases J
     (try replace m := (HB.out.cell (World.block_lt_of_cell? w _ m)).trans m);(try replace o := (HB.out.cell (World.block_lt_of_cell? w _ o)).trans o);replace x := eq_true x;replace y := eq_true y;replace H := ah.mk H;go_wp2_with (first | ((with_reducible refine ay (f := 30) rfl ?_); refine bf (some 23) Tryz.func30 #[.agg #[.string ((lT l0 a).f0), .int .i64 ((lT l0 a).f1)], .int .i64 u] ?_; (with_reducible refine (jD.calls ((lT l0 a).f0) ((lT l0 a).f1) u I _ A6.out).mono ?_); rintro e O ⟨rfl, hb⟩; refine ⟨_, rfl, ?_⟩; replace HB := BS (w := w) hb; (try clear hb); refine bR ?_));refine Hide.mk ?_;replace H := H.out;replace H := ifD H; rcases H with ⟨K, H⟩ | ⟨K, H⟩
     ·obtain rfl := Option.some.inj H;(try go_wp2);go_ret;exact ⟨EWW, BL⟩
     ·have H' := ah.mk H;clear H;(try go_wp2);go_roundg k1;case measure => have := E.out; omega
      case rel => exact ⟨_, _, EQ, EQ, H', ks E, ⟨BL⟩⟩
    ·obtain rfl := Option.some.inj H;go_wp2;go_ret;exact ⟨EWW, BL⟩
def eX.l0 : Nat → List ByteArray → Int → Int → Option (Int)
 | 0, _, _, _ => none
 | k + 1, a, b, c => if c < (a.length : Int) then (if 0 ≤ c then (if (wrap64 (b - ((fG ByteArray.empty a c).size : Int))) < 0 then (some (-1)) else (eX.l0 k a (wrap64 (b - ((fG ByteArray.empty a c).size : Int))) (wrap64 (c + 1)))) else (none)) else (some b)
def eX.f (k : Nat) (l0 : List ByteArray) (a1 : Int) : Option (Int) := if (wrap64 (a1 - (l0.length : Int))) < 0 then (some (-1)) else (eX.l0 k l0 (wrap64 (a1 - (l0.length : Int))) 0)
theorem eX.calls (k : Nat) (L : Option Addr) (M : Nat) (l0 : List ByteArray) (O r : Int) (w : World) (y : Kd.C Kd.string w L l0.length l0) (z : l0.length ≤ M) (h : eX.f k l0 O = some r) :
  Calls Tryz.prog 8 #[.slice L l0.length M, .int .i64 O] w fun e w' => e = .returned (.int .i64 r) ∧ cB w w' := by
 have J := ah.mk y;have U := ah.mk z;clear y z;unfold eX.f at h;have H := h;clear h;replace H := ah.mk H;go_enter Tryz.func8, Tryz.ntmps8;replace H := H.out;replace H := ifD H; rcases H with ⟨x, H⟩ | ⟨x, H⟩
 ·obtain rfl := Option.some.inj H;(try go_wp2);go_ret;exact ⟨EQ, DR⟩
 ·have H' := ah.mk H;clear H;try go_wp2
  go_loopg [1, 5] k (fun kq Y Z w' => ∃ (m : Int) (a : Int), Y = .int .i64 m ∧ Z = .int .i64 a ∧ ah (eX.l0 kq l0 m a = some r) ∧ ah (kq ≤ k) ∧ cB w w')
  case atStart => exact ⟨_, _, EQ, EQ, H', ⟨Nat.le_refl _⟩, DR⟩
  case round =>
   clear H';(try clear c3);(try clear x);obtain ⟨m, a, rfl, rfl, HA, A, ⟨m1, rfl⟩⟩ := hrel
   cases gk with
   | zero => exact absurd HA.out (by simp [eX.l0])
   | succ k1 =>
    have H := HA.out;clear HA;simp only [eX.l0] at H;replace H := ifD H; rcases H with ⟨D, H⟩ | ⟨D, H⟩
    ·replace H := ifN H; obtain ⟨P, H⟩ := H;have o : 0 ≤ (a : Int) := OD;have u : a < (l0.length : Int) := OD;obtain ⟨K, E, G⟩ := Kd.jv J.out a o u
     cases E
     replace o := eq_true o;replace u := eq_true u;replace H := ifD H; rcases H with ⟨I, H⟩ | ⟨I, H⟩
     ·obtain rfl := Option.some.inj H;go_wp2;go_ret;exact ⟨EQ, DR⟩
     ·have H' := ah.mk H;clear H;go_wp2;go_roundg k1;case measure => have := A.out; omega
      case rel => exact ⟨_, _, EQ, EQ, H', ks A, DR⟩
    ·obtain rfl := Option.some.inj H;go_wp2;go_ret;exact ⟨EQ, DR⟩
def mK.f (La Lb : Int) (Lc : ByteArray) : Option (Int × Int × ByteArray) := some (La, Lb, Lc)
theorem mK.calls (La Lb : Int) (Lc : ByteArray) (r1 r2 : Int) (r3 : ByteArray) (w : World) (h : mK.f La Lb Lc = some (r1, r2, r3)) :
  Calls Tryz.prog 32 #[.agg #[.int .i64 La, .int .i64 Lb, .string Lc]] w fun e w' => e = .returned (.agg #[.int .i64 r1, .int .i64 r2, .string r3]) ∧ Below w.heap.size w w' := by
 have xp := Tryz.underlying23;have xq := Tryz.underlying34;have HB := ah.mk (Below.refl w.heap.size w);unfold mK.f at h;have H := h;clear h;simp only [Option.some.injEq, Prod.mk.injEq] at H;obtain ⟨rfl, rfl, rfl⟩ := H;go_enter Tryz.func32, Tryz.ntmps32;go_wp2_with (first | ((with_reducible refine aJ (N := 1) rfl ?_); refine aZ (N := 1) (cs := #[.int .i64 La, .int .i64 Lb, .string Lc]) (t := 23) ?_; intro xk hg w2 hbox hb; have a := ah.mk hbox; have D := SZ (w := w) hg; have xl := D; replace HB := BS (w := w) hb; clear hb hbox hg) | ((with_reducible refine aJ (N := 2) rfl ?_); refine aZ (N := 2) (cs := #[.int .i64 0, .int .i64 0, .string (⟨#[]⟩ : ByteArray)]) (t := 34) ?_; intro E hg w3 hbox hb; have o := ah.mk (hbox); have G := SZ (w := w) hg; have xm := G; replace HB := BS (w := w) hb; have u := NL a hg; have x := NG a hg; replace a := KB a hb; clear hb hbox hg) | ((with_reducible refine aJ (N := 3) rfl ?_); refine aZ (N := 3) (cs := #[.int .i64 0, .int .i64 0, .string (⟨#[]⟩ : ByteArray)]) (t := 34) ?_; intro xn hg w4 hbox hb; have I := ah.mk (hbox); have J := SZ (w := w) hg; have xo := J; replace HB := BS (w := w) hb; have y := NL a hg; have z := NG a hg; replace a := KB a hb; have m := NL o hg; have A := NG o hg; replace o := KB o hb; clear hb hbox hg; have xr := u.out; have xs := x.out; have xt := y.out; have xu := z.out; obtain ⟨Y, Z, xa, xb, xc, xd⟩ := cz3 a.out; have xv := A.out; have xw := m.out; obtain ⟨xe, xf, xg, xh, xi, xj⟩ := cz3 I.out; obtain ⟨K, L, M, O, P, U⟩ := cz3 o.out));refine bodyPost_ret (results_cell_row rfl _ _ E 34 #[.int .i64 La, .int .i64 Lb, .string Lc] (0, 0) _ rfl (by (with_reducible repeat (first | refine aD ?_ _ | refine aH ?_ | refine aC ?_ _)); refine aW (cs := #[.int .i64 La, .int .i64 Lb, .string (⟨#[]⟩ : ByteArray)]) ?_ 2 _ rfl; (with_reducible repeat (first | refine aD ?_ _ | refine aH ?_ | refine aC ?_ _)); refine aW (cs := #[.int .i64 La, .int .i64 0, .string (⟨#[]⟩ : ByteArray)]) ?_ 1 _ rfl; (with_reducible repeat (first | refine aD ?_ _ | refine aH ?_ | refine aC ?_ _)); refine aW (cs := #[.int .i64 0, .int .i64 0, .string (⟨#[]⟩ : ByteArray)]) ?_ 0 _ rfl; (with_reducible repeat (first | refine aD ?_ _ | refine aH ?_ | refine aC ?_ _)); refine dO ?_ m.out _; (with_reducible repeat (first | refine aD ?_ _ | refine aH ?_ | refine aC ?_ _)); refine dO ?_ m.out _; (with_reducible repeat (first | refine aD ?_ _ | refine aH ?_ | refine aC ?_ _)); refine dO ?_ m.out _; (with_reducible repeat (first | refine aD ?_ _ | refine aH ?_ | refine aC ?_ _)); exact o.out) Tryz.underlying34 rfl (by kernel_rfl)) rfl ?_;exact ⟨EWW, BL⟩
def mM.f (La : Int) (Lb : ByteArray) (Lc a0_3 : Int) : Option (Int × ByteArray × Int × Int) := some (La, Lb, Lc, a0_3)
theorem mM.calls (La : Int) (Lb : ByteArray) (Lc D r1 : Int) (r2 : ByteArray) (r3 r4 : Int) (w : World) (h : mM.f La Lb Lc D = some (r1, r2, r3, r4)) :
  Calls Tryz.prog 124 #[.agg #[.int .i64 La, .string Lb, .int .i64 Lc, .int .i64 D]] w fun e w' => e = .returned (.agg #[.int .i64 r1, .string r2, .int .i64 r3, .int .i64 r4]) ∧ Below w.heap.size w w' := by
 have xr := Tryz.underlying124;have xs := Tryz.underlying121;have HB := ah.mk (Below.refl w.heap.size w);unfold mM.f at h;have H := h;clear h;simp only [Option.some.injEq, Prod.mk.injEq] at H;obtain ⟨rfl, rfl, rfl, rfl⟩ := H;go_enter Tryz.func124, Tryz.ntmps124;go_wp2_with (first | ((with_reducible refine aJ (N := 1) rfl ?_); refine aZ (N := 1) (cs := #[.int .i64 La, .string Lb, .int .i64 Lc, .int .i64 D]) (t := 124) ?_; intro xt hg w2 hbox hb; have m := ah.mk hbox; have E := SZ (w := w) hg; have xu := E; replace HB := BS (w := w) hb; clear hb hbox hg) | ((with_reducible refine aJ (N := 2) rfl ?_); refine aZ (N := 2) (cs := #[.int .i64 0, .string (⟨#[]⟩ : ByteArray), .int .i64 0, .int .i64 0]) (t := 121) ?_; intro G hg w3 hbox hb; have o := ah.mk (hbox); have I := SZ (w := w) hg; have xv := I; replace HB := BS (w := w) hb; have u := NL m hg; have x := NG m hg; replace m := KB m hb; clear hb hbox hg) | ((with_reducible refine aJ (N := 3) rfl ?_); refine aZ (N := 3) (cs := #[.int .i64 0, .string (⟨#[]⟩ : ByteArray), .int .i64 0, .int .i64 0]) (t := 121) ?_; intro xw hg w4 hbox hb; have J := ah.mk (hbox); have K := SZ (w := w) hg; have xx := K; replace HB := BS (w := w) hb; have y := NL m hg; have z := NG m hg; replace m := KB m hb; have a := NL o hg; have A := NG o hg; replace o := KB o hb; clear hb hbox hg; have xy := u.out; have xz := x.out; have xA := y.out; have xB := z.out; obtain ⟨xb, xc, xd, xe, xf, xg, xh, xi⟩ := cz4 m.out; have xC := A.out; have xD := a.out; obtain ⟨xj, xk, xl, xm, xn, xo, xp, xq⟩ := cz4 J.out; obtain ⟨L, M, O, P, U, Y, Z, xa⟩ := cz4 o.out));refine bodyPost_ret (results_cell_row rfl _ _ G 121 #[.int .i64 La, .string Lb, .int .i64 Lc, .int .i64 D] (0, 0) _ rfl (by (with_reducible repeat (first | refine aD ?_ _ | refine aH ?_ | refine aC ?_ _)); refine aW (cs := #[.int .i64 La, .string Lb, .int .i64 Lc, .int .i64 0]) ?_ 3 _ rfl; (with_reducible repeat (first | refine aD ?_ _ | refine aH ?_ | refine aC ?_ _)); refine aW (cs := #[.int .i64 La, .string Lb, .int .i64 0, .int .i64 0]) ?_ 2 _ rfl; (with_reducible repeat (first | refine aD ?_ _ | refine aH ?_ | refine aC ?_ _)); refine aW (cs := #[.int .i64 La, .string (⟨#[]⟩ : ByteArray), .int .i64 0, .int .i64 0]) ?_ 1 _ rfl; (with_reducible repeat (first | refine aD ?_ _ | refine aH ?_ | refine aC ?_ _)); refine aW (cs := #[.int .i64 0, .string (⟨#[]⟩ : ByteArray), .int .i64 0, .int .i64 0]) ?_ 0 _ rfl; (with_reducible repeat (first | refine aD ?_ _ | refine aH ?_ | refine aC ?_ _)); refine dO ?_ a.out _; (with_reducible repeat (first | refine aD ?_ _ | refine aH ?_ | refine aC ?_ _)); refine dO ?_ a.out _; (with_reducible repeat (first | refine aD ?_ _ | refine aH ?_ | refine aC ?_ _)); refine dO ?_ a.out _; (with_reducible repeat (first | refine aD ?_ _ | refine aH ?_ | refine aC ?_ _)); refine dO ?_ a.out _; (with_reducible repeat (first | refine aD ?_ _ | refine aH ?_ | refine aC ?_ _)); exact o.out) Tryz.underlying121 rfl (by kernel_rfl)) rfl ?_;exact ⟨EWW, BL⟩
def fJ.l0 : Nat → List (nu) → List (dD) → Int → Option ((List (dD)))
 | 0, _, _, _ => none
 | k + 1, a, b, c => if c < (a.length : Int) then (if 0 ≤ c then ((mM.f ((gM a c).f0) ((gM a c).f1) ((gM a c).f2) ((gM a c).f3)).bind fun d => (if c < (b.length : Int) then (fJ.l0 k a (b.set (c : Int).toNat (⟨d.1, d.2.1, d.2.2.1, d.2.2.2⟩ : dD)) (wrap64 (c + 1))) else (none))) else (none)) else (some b)
def fJ.f (k : Nat) (l0 : List (nu)) : Option ((List (dD))) := if 0 ≤ (l0.length : Int) then (if ((l0.length : Int) : Int).toNat ≤ 7036874417766 then (fJ.l0 k l0 (List.replicate ((l0.length : Int) : Int).toNat Dt) 0) else (none)) else (none)
theorem fJ.calls (k : Nat) (A0 : Option Addr) (c0 : Nat) (l0 : List (nu)) (r : List (dD)) (w : World) (xk : Kd.C BG w A0 l0.length l0) (xl : l0.length ≤ c0) (h : fJ.f k l0 = some r) :
  Calls Tryz.prog 95 #[.slice A0 l0.length c0] w fun e w' => ∃ v0_ : Value, e = .returned (v0_) ∧ Kd.R jC 121 w' w.heap.size (fun _ => True) v0_ r ∧ Below w.heap.size w w' := by
 have xz := Tryz.underlying124;have xA := Tryz.underlying121;have xB := ah.mk xk;have xI := ah.mk xl;clear xk xl;have HB := ah.mk (Below.refl w.heap.size w);unfold fJ.f at h;have H := h;clear h;replace H := ifP H; obtain ⟨c2, H⟩ := H;have xm := eq_true c2;have xn : decide (0 ≤ (l0.length : Int)) = true := decide_eq_true c2;clear c2;replace H := ifP H; obtain ⟨c3, H⟩ := H;have xo := eq_true c3;have xp : decide (((l0.length : Int) : Int).toNat ≤ 7036874417766) = true := decide_eq_true c3;clear c3;obtain ⟨xq, x⟩ : ∃ y_ : List (dD), y_ = (List.replicate ((l0.length : Int) : Int).toNat Dt) := ⟨_, rfl⟩;replace H : (fJ.l0 k l0 xq 0) = some r := by first | (rw [x]; with_reducible exact H) | (have H2_ := (Option.bind_some _ _).symm.trans H; rw [x]; with_reducible exact H2_) | (have H2_ := (Option.bind_some _ _).symm.trans H; with_reducible exact H2_) | with_reducible exact H | (rw [x]; exact H) | exact H
 have P := ah.mk x;clear x;have H' := ah.mk H;clear H;go_enter Tryz.func95, Tryz.ntmps95;go_wp2_with (first | ((with_reducible refine aJ (N := 7) rfl ?_); refine Kd.uK jC _ 121 rfl (N := 7) rfl 70 _ _ rfl (l0.length : Int) rfl rfl Tryz.underlying70 (.agg #[(.int .i64 0), (.string ⟨#[]⟩), (.int .i64 0), (.int .i64 0)]) 40 IZ rfl (by decide) (by omega) Dt (ok := fun _ => True) (okp := fun _ => True) (DK _ _ _ Dt ) (fun _ hk => hk) trivial (OD) (Nat.le_trans (Nat.mul_le_mul_right _ (OD : (l0.length : Int).toNat ≤ 7036874417766)) (by omega)) (Below.refl _ _) (Nat.le_refl _) ?_; intro xr xC U hb hg_ hnew_; clear hg_ hnew_; (first | rw [← P.out] at U | (simp only [Int.reduceToNat] at U; rw [← P.out] at U)); have xg := ah.mk (Kd.cK U (aM BL)); replace HB := BS (w := w) hb; clear hb U))
 go_loopg [4] k (fun kq v4 w' => ∃ (o : List (dD)) (a : Int), v4 = .int .i64 a ∧ ah (fJ.l0 kq l0 o a = some r) ∧ ah (kq ≤ k) ∧ ah (Kd.R jC 121 w' w.heap.size (fun _ => True) xr o) ∧ ah (Below w.heap.size w w'))
 case atStart => exact ⟨_, _, EQ, H', ⟨Nat.le_refl _⟩, ⟨(RR xg)⟩, ⟨BL⟩⟩
 case round =>
  clear H';(try clear c2);(try clear xm);(try clear xn);(try clear c3);(try clear xo);(try clear xp);obtain ⟨o, a, rfl, HA, xs, u, HB⟩ := hrel
  cases gk with
  | zero => exact absurd HA.out (by simp [fJ.l0])
  | succ k1 =>
   have H := HA.out;clear HA;simp only [fJ.l0] at H;replace H := ifD H; rcases H with ⟨xt, H⟩ | ⟨xt, H⟩
   ·replace H := ifN H; obtain ⟨xG, H⟩ := H;replace H := be H; obtain ⟨⟨G, I, J, K⟩, A8, H⟩ := H;dsimp only at H;replace H := ifN H; obtain ⟨xH, H⟩ := H;obtain ⟨xe, y⟩ : ∃ y_ : List (dD), y_ = (o.set (a : Int).toNat (⟨G, I, J, K⟩ : dD)) := ⟨_, rfl⟩;replace H : (fJ.l0 k1 l0 xe (wrap64 (a + 1))) = some r := by first | (rw [y]; with_reducible exact H) | (have H2_ := (Option.bind_some _ _).symm.trans H; rw [y]; with_reducible exact H2_) | (have H2_ := (Option.bind_some _ _).symm.trans H; with_reducible exact H2_) | with_reducible exact H | (rw [y]; exact H) | exact H
    have xh := ah.mk y;clear y;have H' := ah.mk H;clear H;have Y : 0 ≤ (a : Int) := OD;have Z : a < (l0.length : Int) := OD;obtain ⟨xD, xu, z, A, D, E⟩ := Fg xB.out a Y Z
    cases xu
    (try replace z := (HB.out.cell (World.block_lt_of_cell? w _ z)).trans z);(try replace A := (HB.out.cell (World.block_lt_of_cell? w _ A)).trans A);(try replace D := (HB.out.cell (World.block_lt_of_cell? w _ D)).trans D);(try replace E := (HB.out.cell (World.block_lt_of_cell? w _ E)).trans E);replace Y := eq_true Y;replace Z := eq_true Z;go_wp2_with (first | ((with_reducible refine ay (f := 124) rfl ?_); refine bf (some 20) Tryz.func124 #[.agg #[.int .i64 ((gM l0 a).f0), .string ((gM l0 a).f1), .int .i64 ((gM l0 a).f2), .int .i64 ((gM l0 a).f3)]] ?_; (with_reducible refine (mM.calls ((gM l0 a).f0) ((gM l0 a).f1) ((gM l0 a).f2) ((gM l0 a).f3) G I J K _ A8.out).mono ?_); rintro e m ⟨rfl, hb⟩; refine ⟨_, rfl, ?_⟩; replace u := RB u hb; replace HB := BS (w := w) hb; (try clear hb); (try clear hk); have xi : 0 ≤ (a : Int) := OD; have xj : (a : Int) < ((o.length : Int) : Int) := OD; obtain ⟨go10, M, O, xf, gl10, cl10, HG10⟩ := Kd.qE u.out (by omega); (first | cases O | (injection O with ea_ en_ ec_; (first | subst ea_ | (injection ea_ with ea_; subst ea_)); subst ec_; clear en_)); have GB10 := ah.mk xf; have GG10 := ah.mk HG10; clear xf gl10 HG10; obtain ⟨ce10, hcl10, hM10, hcc10, hfr10⟩ := Kd.uJ u.out Dt (a : Int) xi xj; obtain rfl := Az hM10; have xv : m.cell? ⟨go10, (a : Int).toNat * 4, none⟩ = some (.int .i64 ((aj o a).f0)) := hcc10 0 _ rfl; have xw : m.cell? ⟨go10, (a : Int).toNat * 4 + 1, none⟩ = some (.string ((aj o a).f1)) := hcc10 1 _ rfl; have xx : m.cell? ⟨go10, (a : Int).toNat * 4 + 2, none⟩ = some (.int .i64 ((aj o a).f2)) := hcc10 2 _ rfl; have xy : m.cell? ⟨go10, (a : Int).toNat * 4 + 3, none⟩ = some (.int .i64 ((aj o a).f3)) := hcc10 3 _ rfl; have hf10_0 : m.frozen? ⟨go10, (a : Int).toNat * 4, none⟩ = false := hfr10 0; have hf10_1 : m.frozen? ⟨go10, (a : Int).toNat * 4 + 1, none⟩ = false := hfr10 1; have hf10_2 : m.frozen? ⟨go10, (a : Int).toNat * 4 + 2, none⟩ = false := hfr10 2; have hf10_3 : m.frozen? ⟨go10, (a : Int).toNat * 4 + 3, none⟩ = false := hfr10 3; clear hcl10 hcc10 hfr10 hM10; replace xi := eq_true xi; replace xj := eq_true xj; have HX12 := ah.mk (show Kd.R jC 121 m w.heap.size (fun _ => True) (.slice (some ⟨go10, 0, none⟩) o.length M) o from (RR u)); obtain ⟨ce12, hcl12, hM12, hcc12, hfr12⟩ := Kd.uJ HX12.out Dt (a : Int) (OD) (by have h_ : (a : Int) < ((o.length : Int) : Int) := OD; first | exact h_ | (have e_ := (Kd.bO u.out).1; omega) | simpa using h_); obtain rfl := Az hM12; have HP12 := Kd.Gu HX12.out (a : Int) (OD) (by have h_ : (a : Int) < ((o.length : Int) : Int) := OD; first | exact h_ | (have e_ := (Kd.bO u.out).1; omega) | simpa using h_) (seg := [.int .i64 G, .string I, .int .i64 J, .int .i64 K]) (j := 0) hcl12 hcc12 (show 4 ≤ 4 from by decide) (x' := (⟨G, I, J, K⟩ : dD)) (DK _ _ _ (⟨G, I, J, K⟩ : dD) ) (fun _ hk => hk); have xa := hcc12 0 _ rfl; (try simp only [show (jC).sz = 4 from rfl, Nat.mul_one, Nat.add_zero] at xa); have hf12_0 := hfr12 0; (try simp only [show (jC).sz = 4 from rfl, Nat.mul_one, Nat.add_zero] at hf12_0); have xb := hcc12 1 _ rfl; (try simp only [show (jC).sz = 4 from rfl, Nat.mul_one, Nat.add_zero] at xb); have hf12_1 := hfr12 1; (try simp only [show (jC).sz = 4 from rfl, Nat.mul_one, Nat.add_zero] at hf12_1); have xc := hcc12 2 _ rfl; (try simp only [show (jC).sz = 4 from rfl, Nat.mul_one, Nat.add_zero] at xc); have hf12_2 := hfr12 2; (try simp only [show (jC).sz = 4 from rfl, Nat.mul_one, Nat.add_zero] at hf12_2); have xd := hcc12 3 _ rfl; (try simp only [show (jC).sz = 4 from rfl, Nat.mul_one, Nat.add_zero] at xd); have hf12_3 := hfr12 3; (try simp only [show (jC).sz = 4 from rfl, Nat.mul_one, Nat.add_zero] at hf12_3); clear hcl12 hcc12 hfr12 hM12) | ((with_reducible refine kr (t := 121) (p := 21) rfl ?_); refine jM (t := 121) (p := 21) (v := ?vo_w13) (w1 := ((((m.setCell ⟨go10, (a : Int).toNat * 4, none⟩ (.int .i64 G)).setCell ⟨go10, (a : Int).toNat * 4 + 1, none⟩ (.string I)).setCell ⟨go10, (a : Int).toNat * 4 + 2, none⟩ (.int .i64 J)).setCell ⟨go10, (a : Int).toNat * 4 + 3, none⟩ (.int .i64 K))) ?hg ?ho ?hn ?hr ?_; (case ho => rfl); (case hg => rfl); (case hn => rfl); (case hr => first | (go_simp; done) | (go_simp; rfl)); intro L hw; have hg : m.grownBy L (some go10) := (by rw [hw]; exact HP12.2); have hp_ : Kd.R jC 121 L w.heap.size (fun _ => True) (.slice (some ⟨go10, 0, none⟩) o.length M) xe := (by rw [hw, xh.out]; exact HP12.1); clear HP12; replace u := ah.mk (hp_); replace HB := ah.mk ((by rw [hw]; exact iq (iq (iq (iq (HB.out) GB10.out) GB10.out) GB10.out) GB10.out : Below w.heap.size w L)); clear hg hw hp_));go_roundg k1;case measure => have := xs.out; omega
    case rel => exact ⟨_, _, EQ, H', ks xs, ⟨(RR u)⟩, ⟨BL⟩⟩
   ·obtain rfl := Option.some.inj H;go_wp2;go_ret;exact ⟨_, EWW, (RR u), BL⟩
def lq.f (k : Nat) (La : Int) (l0_1 : List (nu)) : Option (Int × (List (dD))) := (fJ.f k l0_1).bind fun t135 => (some (La, t135))
theorem lq.calls (k : Nat) (La : Int) (D : Option Addr) (E : Nat) (x : List (nu)) (r1 : Int) (r2 : List (dD)) (w : World) (M : Kd.C BG w D x.length x) (O : x.length ≤ E) (h : lq.f k La x = some (r1, r2)) :
  Calls Tryz.prog 57 #[.agg #[.int .i64 La, .slice D x.length E]] w fun e w' => ∃ v1_ : Value, e = .returned (.agg #[.int .i64 r1, v1_]) ∧ Kd.R jC 121 w' w.heap.size (fun _ => True) v1_ r2 ∧ Below w.heap.size w w' := by
 have xB := Tryz.underlying81;have xC := Tryz.underlying72;have xa := ah.mk M;have xb := ah.mk O;clear M O;have HB := ah.mk (Below.refl w.heap.size w);unfold lq.f at h;have H := h;clear h;replace H := be H; obtain ⟨L, A2, H⟩ := H;simp only [Option.some.injEq, Prod.mk.injEq] at H;obtain ⟨rfl, rfl⟩ := H;go_enter Tryz.func57, Tryz.ntmps57;go_wp2_with (first | ((with_reducible refine aJ (N := 1) rfl ?_); refine aZ (N := 1) (cs := #[.int .i64 La, .slice D x.length E]) (t := 81) ?_; intro xc hg w3 hbox hb; have a := ah.mk hbox; have xd := SZ (w := w) hg; have xy := xd; replace HB := BS (w := w) hb; clear hb hbox hg) | ((with_reducible refine aJ (N := 2) rfl ?_); refine aZ (N := 2) (cs := #[.int .i64 0, .slice none 0 0]) (t := 72) ?_; intro A hg w4 hbox hb; have m := ah.mk (hbox); have xe := SZ (w := w) hg; have xz := xe; replace HB := BS (w := w) hb; have G := NL a hg; have I := NG a hg; replace a := KB a hb; clear hb hbox hg) | ((with_reducible refine aJ (N := 3) rfl ?_); refine aZ (N := 3) (cs := #[.int .i64 0, .slice none 0 0]) (t := 72) ?_; intro P hg w5 hbox hb; have y := ah.mk (hbox); have xf := SZ (w := w) hg; have xA := xf; replace HB := BS (w := w) hb; have z := NL a hg; have J := NG a hg; replace a := KB a hb; have u := NL m hg; have K := NG m hg; replace m := KB m hb; clear hb hbox hg; have xD := G.out; have xE := I.out; have xF := z.out; have xG := J.out; obtain ⟨xu, xv, xw, xx⟩ := cz2 a.out; have xH := K.out; have xI := u.out; obtain ⟨xg, xh, xi, xj⟩ := cz2 y.out) | ((with_reducible refine ay (f := 95) rfl ?_); refine bf (some 9) Tryz.func95 #[.slice D x.length E] ?_; (with_reducible refine (fJ.calls k _ _ x L _ ?side1 ?side2 A2.out).mono ?_); (case side1 => exact Kd.eP xa.out BL); (case side2 => exact xb.out); rintro e xK ⟨xJ, rfl, xk, hb⟩; refine ⟨_, rfl, ?_⟩; have n0_ := ah.mk (Kd.cK xk (aM BL)); have n1_ := ah.mk (dn (g := xc) (o := .cells #[.int .i64 La, .slice D x.length E] 81 (0, 0)) (by (with_reducible repeat (first | refine aD ?_ _ | refine aH ?_ | refine aC ?_ _)); refine dO ?_ z.out _; (with_reducible repeat (first | refine aD ?_ _ | refine aH ?_ | refine aC ?_ _)); exact a.out) hb); have n2_ := ah.mk (dn (g := A) (o := .cells #[.int .i64 0, .slice none 0 0] 72 (0, 0)) (by (with_reducible repeat (first | refine aD ?_ _ | refine aH ?_ | refine aC ?_ _)); refine dO ?_ u.out _; (with_reducible repeat (first | refine aD ?_ _ | refine aH ?_ | refine aC ?_ _)); exact m.out) hb); have n3_ := ah.mk (dn (g := P) (o := .cells #[.int .i64 La, .slice none 0 0] 72 (0, 0)) (by (with_reducible repeat (first | refine aD ?_ _ | refine aH ?_ | refine aC ?_ _)); refine aW (cs := #[.int .i64 0, .slice none 0 0]) ?_ 0 _ rfl; (with_reducible repeat (first | refine aD ?_ _ | refine aH ?_ | refine aC ?_ _)); exact y.out) hb); replace HB := BS (w := w) hb; clear a m y; have U := n0_; have a := n1_; have m := n2_; have y := n3_; clear n0_ n1_ n2_ n3_; (try clear hb); (try clear xk); obtain ⟨Y, Z, xl⟩ := Kd.dN U.out; subst xl; obtain ⟨xm, xn, xo, xp⟩ := cz2 y.out; obtain ⟨xq, xr, xs, xt⟩ := cz2 m.out));refine bodyPost_ret (results_cell_row rfl _ _ A 72 #[.int .i64 La, .slice Y L.length Z] (0, 0) _ rfl (by (with_reducible repeat (first | refine aD ?_ _ | refine aH ?_ | refine aC ?_ _)); refine aW (cs := #[.int .i64 La, .slice none 0 0]) ?_ 1 _ rfl; (with_reducible repeat (first | refine aD ?_ _ | refine aH ?_ | refine aC ?_ _)); refine aW (cs := #[.int .i64 0, .slice none 0 0]) ?_ 0 _ rfl; (with_reducible repeat (first | refine aD ?_ _ | refine aH ?_ | refine aC ?_ _)); refine dO ?_ u.out _; (with_reducible repeat (first | refine aD ?_ _ | refine aH ?_ | refine aC ?_ _)); exact m.out) Tryz.underlying72 rfl (by kernel_rfl)) rfl ?_;exact ⟨_, EWW, by (with_reducible repeat (first | apply Kd.fQ | apply Kd.fT | apply Kd.eH)); exact Kd.eD (Kd.gu (p := ⟨A, 1, none⟩) (Kd.gu (p := ⟨A, 0, none⟩) (Kd.gu (p := ⟨P, 1, none⟩) (Kd.nL (Kd.nL U.out y.out (by decide)) m.out (by decide)) (fun _ hk => hk.1.2) (.slice Y L.length Z)) (fun _ hk => hk.2) (.int .i64 La)) (fun _ hk => hk.2) (.slice Y L.length Z)) (fun _ hk => trivial), BL⟩
def fI.l0 : Nat → List (S81) → List (S72) → Int → Option ((List (S72)))
 | 0, _, _, _ => none
 | k + 1, a, b, c => if c < (a.length : Int) then (if 0 ≤ c then ((lq.f k ((kD a c).f0) ((kD a c).f1)).bind fun d => (if c < (b.length : Int) then (fI.l0 k a (b.set (c : Int).toNat (⟨d.1, d.2⟩ : S72)) (wrap64 (c + 1))) else (none))) else (none)) else (some b)
def fI.f (k : Nat) (l0 : List (S81)) : Option ((List (S72))) := if 0 ≤ (l0.length : Int) then (if ((l0.length : Int) : Int).toNat ≤ 8796093022208 then (fI.l0 k l0 (List.replicate ((l0.length : Int) : Int).toNat z72) 0) else (none)) else (none)
theorem fI.calls (k : Nat) (A0 : Option Addr) (c0 : Nat) (l0 : List (S81)) (r : List (S72)) (w : World) (xl : Kd.C k81 w A0 l0.length l0) (xm : l0.length ≤ c0) (h : fI.f k l0 = some r) :
  Calls Tryz.prog 33 #[.slice A0 l0.length c0] w fun e w' => ∃ v0_ : Value, e = .returned (v0_) ∧ Kd.S k72 72 w' w.heap.size (fun _ => True) v0_ r ∧ Below w.heap.size w w' := by
 have xD := Tryz.underlying81;have xE := Tryz.underlying72;have xy := ah.mk xl;have xH := ah.mk xm;clear xl xm;have HB := ah.mk (Below.refl w.heap.size w);unfold fI.f at h;have H := h;clear h;replace H := ifP H; obtain ⟨c2, H⟩ := H;have xn := eq_true c2;have xo : decide (0 ≤ (l0.length : Int)) = true := decide_eq_true c2;clear c2;replace H := ifP H; obtain ⟨c3, H⟩ := H;have xp := eq_true c3;have xq : decide (((l0.length : Int) : Int).toNat ≤ 8796093022208) = true := decide_eq_true c3;clear c3;obtain ⟨xr, x⟩ : ∃ y_ : List (S72), y_ = (List.replicate ((l0.length : Int) : Int).toNat z72) := ⟨_, rfl⟩;replace H : (fI.l0 k l0 xr 0) = some r := by first | (rw [x]; with_reducible exact H) | (have H2_ := (Option.bind_some _ _).symm.trans H; rw [x]; with_reducible exact H2_) | (have H2_ := (Option.bind_some _ _).symm.trans H; with_reducible exact H2_) | with_reducible exact H | (rw [x]; exact H) | exact H
 have M := ah.mk x;clear x;have H' := ah.mk H;clear H;go_enter Tryz.func33, Tryz.ntmps33;go_wp2_with (first | ((with_reducible refine aJ (N := 7) rfl ?_); refine Kd.JO k72 _ 72 rfl (N := 7) rfl 35 _ _ rfl (l0.length : Int) rfl rfl Tryz.underlying35 (.agg #[(.int .i64 0), (.slice none 0 0)]) 32 Ka rfl (by decide) (by omega) z72 (ok := fun _ => True) (okp := fun _ => True) (Fu _ _ _ z72 (Kd.oF _ _ _ _ _)) (fun _ hk => hk) trivial (OD) (Nat.le_trans (Nat.mul_le_mul_right _ (OD : (l0.length : Int).toNat ≤ 8796093022208)) (by omega)) (Below.refl _ _) (Nat.le_refl _) ?_; intro xs xz O hb hg_ hnew_; clear hg_ hnew_; (first | rw [← M.out] at O | (simp only [Int.reduceToNat] at O; rw [← M.out] at O)); have xg := ah.mk (Kd.ou O (aM BL)); replace HB := BS (w := w) hb; clear hb O))
 go_loopg [4] k (fun kq v4 w' => ∃ (o : List (S72)) (a : Int), v4 = .int .i64 a ∧ ah (fI.l0 kq l0 o a = some r) ∧ ah (kq ≤ k) ∧ ah (Kd.S k72 72 w' w.heap.size (fun _ => True) xs o) ∧ ah (Below w.heap.size w w'))
 case atStart => exact ⟨_, _, EQ, H', ⟨Nat.le_refl _⟩, ⟨(SR xg)⟩, ⟨BL⟩⟩
 case round =>
  clear H';(try clear c2);(try clear xn);(try clear xo);(try clear c3);(try clear xp);(try clear xq);obtain ⟨o, a, rfl, HA, xt, m, HB⟩ := hrel
  cases gk with
  | zero => exact absurd HA.out (by simp [fI.l0])
  | succ k1 =>
   have H := HA.out;clear HA;simp only [fI.l0] at H;replace H := ifD H; rcases H with ⟨xu, H⟩ | ⟨xu, H⟩
   ·replace H := ifN H; obtain ⟨xF, H⟩ := H;replace H := be H; obtain ⟨⟨D, J⟩, A8, H⟩ := H;dsimp only at H;replace H := ifN H; obtain ⟨xG, H⟩ := H;obtain ⟨xe, y⟩ : ∃ y_ : List (S72), y_ = (o.set (a : Int).toNat (⟨D, J⟩ : S72)) := ⟨_, rfl⟩;replace H : (fI.l0 k1 l0 xe (wrap64 (a + 1))) = some r := by first | (rw [y]; with_reducible exact H) | (have H2_ := (Option.bind_some _ _).symm.trans H; rw [y]; with_reducible exact H2_) | (have H2_ := (Option.bind_some _ _).symm.trans H; with_reducible exact H2_) | with_reducible exact H | (rw [y]; exact H) | exact H
    have xh := ah.mk y;clear y;have H' := ah.mk H;clear H;have P : 0 ≤ (a : Int) := OD;have U : a < (l0.length : Int) := OD;obtain ⟨xA, xa, xb, xv, z, A, hl141_1, hi141_1⟩ := Gz xy.out a P U
    cases xv
    (try replace z := (HB.out.cell (World.block_lt_of_cell? w _ z)).trans z);(try replace A := (HB.out.cell (World.block_lt_of_cell? w _ A)).trans A);have Y := ah.mk hi141_1;have Z := ah.mk hl141_1;clear hi141_1 hl141_1;replace P := eq_true P;replace U := eq_true U;go_wp2_with (first | ((with_reducible refine ay (f := 57) rfl ?_); refine bf (some 20) Tryz.func57 #[.agg #[.int .i64 ((kD l0 a).f0), .slice xa ((kD l0 a).f1).length xb]] ?_; (with_reducible refine (lq.calls k1 ((kD l0 a).f0) _ _ ((kD l0 a).f1) D J _ ?side1 ?side2 A8.out).mono ?_); (case side1 => exact CB Y); (case side2 => exact Z.out); rintro e u ⟨E, rfl, xi, hb⟩; refine ⟨_, rfl, ?_⟩; replace m := ah.mk (Kd.qG (SR m) (Kd.mh xi) hb); have G := ah.mk (Kd.cK xi (aM BL)); replace HB := BS (w := w) hb; (try clear hb); (try clear hk); (try clear xi); have xj : 0 ≤ (a : Int) := OD; have xk : (a : Int) < ((o.length : Int) : Int) := OD; obtain ⟨go10, K, L, xf, gl10, cl10, HG10⟩ := Kd.JL m.out (by omega); (first | cases L | (injection L with ea_ en_ ec_; (first | subst ea_ | (injection ea_ with ea_; subst ea_)); subst ec_; clear en_)); have GB10 := ah.mk xf; have GG10 := ah.mk HG10; clear xf gl10 HG10; obtain ⟨_, ce10, hcl10, hM10, hcc10, hfr10, _, _⟩ := Kd.Gx m.out z72 (a : Int) xj xk; obtain ⟨ve10_1, rfl, ge10_1⟩ := Ce hM10; have xw : u.cell? ⟨go10, (a : Int).toNat * 2, none⟩ = some (.int .i64 ((fO o a).f0)) := hcc10 0 _ rfl; have xx : u.cell? ⟨go10, (a : Int).toNat * 2 + 1, none⟩ = some (ve10_1) := hcc10 1 _ rfl; have hf10_0 : u.frozen? ⟨go10, (a : Int).toNat * 2, none⟩ = false := hfr10 0; have hf10_1 : u.frozen? ⟨go10, (a : Int).toNat * 2 + 1, none⟩ = false := hfr10 1; clear hcl10 hcc10 hfr10 hM10; replace xj := eq_true xj; replace xk := eq_true xk; have n_ := ah.mk (Kd.nA (ok' := (fun k_ => some k_ ≠ (E : Value).ownBlock)) m.out (fun k_ hk => hk.2)); clear m; have m := n_; clear n_; have HX12 := ah.mk (show Kd.S k72 72 u w.heap.size (fun k_ => ((fun _ => True)) k_ ∧ ¬ ((fun k_ => some k_ = (E : Value).ownBlock)) k_) (.slice (some ⟨go10, 0, none⟩) o.length K) o from (by (with_reducible repeat (first | apply Kd.mR | apply Kd.mU | apply Kd.ny)); exact Kd.nA m.out (fun k_ hk => ⟨trivial, fun e_ => hk e_⟩))); obtain ⟨oki12, ce12, hcl12, hM12, hcc12, hfr12, hoki12, hH12⟩ := Kd.Gx HX12.out z72 (a : Int) (OD) (by have h_ : (a : Int) < ((o.length : Int) : Int) := OD; first | exact h_ | (have e_ := (Kd.iN m.out).1; omega) | simpa using h_); obtain ⟨ve12_1, rfl, ge12_1⟩ := Ce hM12; have HP12 := Kd.KC hH12 (OD) (by have h_ : (a : Int) < ((o.length : Int) : Int) := OD; first | exact h_ | (have e_ := (Kd.iN m.out).1; omega) | simpa using h_) (seg := [.int .i64 D, E]) (j := 0) (show 2 ≤ 2 from by decide) (x' := (⟨D, J⟩ : S72)) (Fu _ _ _ (⟨D, J⟩ : S72) (Kd.eD (Kd.Ct rfl (Kd.eD (ok' := fun k_ => ((fun _ => True)) k_ ∧ k_ ≠ go10) (Kd.tC (G.out) (Kd.tJ m.out) (by decide)) (fun k_ hk => ⟨trivial, fun e_ => (hk.2) (by rw [e_]; rfl)⟩))) (fun _ h_ => Or.inr (h_)))) (fun _ hk => hk) (fun k_ hk_ => ((Kd.eD (ok' := fun k_ => ((fun _ => True)) k_ ∧ k_ ≠ go10) (Kd.tC (G.out) (Kd.tJ m.out) (by decide)) (fun k_ hk => ⟨trivial, fun e_ => (hk.2) (by rw [e_]; rfl)⟩))).1 k_ hk_.symm); have hs12_0 : ∀ (P_ : Program) (w_ : World) (a_ : Addr) (m_ : Mode), (store a_ E m_).run P_ w_ = stored P_ w_ a_ E m_ := fun P_ w_ a_ m_ => run_store P_ w_ a_ _ m_ (by obtain ⟨_, _, e_⟩ := Kd.dN G.out; rw [e_]; rfl); have xc := hcc12 0 _ rfl; (try simp only [show (k72).sz = 2 from rfl, Nat.mul_one, Nat.add_zero] at xc); have hf12_0 := hfr12 0; (try simp only [show (k72).sz = 2 from rfl, Nat.mul_one, Nat.add_zero] at hf12_0); have xd := hcc12 1 _ rfl; (try simp only [show (k72).sz = 2 from rfl, Nat.mul_one, Nat.add_zero] at xd); have hf12_1 := hfr12 1; (try simp only [show (k72).sz = 2 from rfl, Nat.mul_one, Nat.add_zero] at hf12_1); clear hcl12 hcc12 hfr12 hM12 hoki12 hH12) | ((with_reducible refine kr (t := 72) (p := 21) rfl ?_); refine jM (t := 72) (p := 21) (v := ?vo_w13) (w1 := ((u.setCell ⟨go10, (a : Int).toNat * 2, none⟩ (.int .i64 D)).setCell ⟨go10, (a : Int).toNat * 2 + 1, none⟩ (E))) ?hg ?ho ?hn ?hr ?_; (case ho => rfl); (case hg => rfl); (case hn => rfl); (case hr => first | (go_simp; done) | (go_simp; rfl)); intro I hw; have hg : u.grownBy I (some go10) := (by rw [hw]; exact HP12.2); have hp_ : Kd.S k72 72 I w.heap.size (fun _ => True) (.slice (some ⟨go10, 0, none⟩) o.length K) xe := (by rw [hw, xh.out]; exact HP12.1); clear HP12; replace m := ah.mk (hp_); replace HB := ah.mk ((by rw [hw]; exact iq (iq (HB.out) GB10.out) GB10.out : Below w.heap.size w I)); clear G; clear hg hw hp_));go_roundg k1;case measure => have := xt.out; omega
    case rel => exact ⟨_, _, EQ, H', ks xt, ⟨(SR m)⟩, ⟨BL⟩⟩
   ·obtain rfl := Option.some.inj H;go_wp2;go_ret;exact ⟨_, EWW, (SR m), BL⟩
end Go.Proofs.YthkfjbodohaglaaGreatDoor.PFnExactRoundsNeeded
