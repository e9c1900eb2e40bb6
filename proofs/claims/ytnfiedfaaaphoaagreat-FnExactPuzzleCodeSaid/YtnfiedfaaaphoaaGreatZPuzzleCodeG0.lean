/- Walks of functions: what each computes. -/
import Derived.Test.YtnfiedfaaaphoaaGreatProg
import Derived.Below
import Derived.Deep.Draws
import Derived.Deep.AppendLies
import Derived.Maps.AppendAt
import Derived.OwnWalk
import Derived.Laws.BytesArg
import Derived.Laws.MakeOwn
import Derived.Laws.OwnMore
import Derived.Deep.OwnRows
import Derived.Tactics
import Derived.Lib.ConvBytes
import Derived.Laws.Slices
import Derived.WalkKit
import Derived.KernelRfl
import Derived.RowKit3
import Derived.Deep.LoopGhost
import Derived.Deep.QuietTactic
import Derived.BigQuiet
import Derived.WideLaws
import Derived.Deep.DeepCutAuto
import Derived.Deep.CutBlock
import Derived.Deep.RegionHeld3
import Derived.Laws.Rows
import Derived.Lib.AppendStr
import Derived.ArgAppend
import Derived.Laws.IdiomCopy
import Derived.OrdersHeld
import Derived.Laws.BitsLemmas
import Derived.RowKit
import Derived.Test.YtnfiedfaaaphoaaGreatZPuzzleCodeW
import Derived.Test.YtnfiedfaaaphoaaGreatZPuzzleCodeShelf
import Derived.Test.YtnfiedfaaaphoaaGreatZPuzzleCodeHandSort
import Derived.Test.YtnfiedfaaaphoaaGreatZPuzzleCodeHandForm
import Derived.Test.YtnfiedfaaaphoaaGreatZPuzzleCodeHandAlone
import Derived.Test.YtnfiedfaaaphoaaGreatZPuzzleCodeHandReach
import Derived.Test.YtnfiedfaaaphoaaGreatZPuzzleCodeHandPut
namespace Go.Proofs.YtnfiedfaaaphoaaGreat.PFnExactPuzzleCode
open Go.RowKit Go.Proofs.YtnfiedfaaaphoaaGreatW.PrintWords Go.Proofs.YtnfiedfaaaphoaaGreatW.PrintLast Go.Proofs.YtnfiedfaaaphoaaGreatW.PrintMore Go.Proofs.YtnfiedfaaaphoaaGreat.Sq
attribute [local go_sem] iH iJ jD jC gV gU iK iG
set_option linter.unusedVariables false
set_option linter.unusedSimpArgs false
set_option maxHeartbeats 8000000
set_option maxRecDepth 100000
def EA : Option Int → Value
 | none => .nilIface
 | some c => .iface 0 (.int .i64 c)
theorem lN : EA none = .nilIface := rfl
theorem lJ (c : Int) : EA (some c) = .iface 0 (.int .i64 c) := rfl
theorem info3 : (Tryz.prog.info? 3).map (fun i => (i.zero, i.size, i.bytes)) = some (some (.int .i64 0), 1, 8) := by kernel_rfl
theorem Dl : (Tryz.prog.info? 4).map (fun i => (i.zero, i.size, i.bytes)) = some (some (.bool false), 1, 1) := by kernel_rfl
theorem info5 : (Tryz.prog.info? 5).map (fun i => (i.zero, i.size, i.bytes)) = some (some (.int .u8 0), 1, 1) := by kernel_rfl
theorem qX : (Tryz.prog.info? 9).map (fun i => (i.zero, i.size, i.bytes)) = some (some (.string ⟨#[]⟩), 1, 16) := by kernel_rfl
theorem DY : (Tryz.prog.info? 43).map (fun i => (i.zero, i.size, i.bytes)) = some (some (.slice none 0 0), 1, 24) := by kernel_rfl
theorem D6 : (Tryz.prog.info? 82).map (fun i => (i.zero, i.size, i.bytes)) = some (some (.agg #[(.int .i64 0), (.slice none 0 0)]), 2, 32) := by kernel_rfl
theorem Dz : (Tryz.prog.info? 84).map (fun i => (i.zero, i.size, i.bytes)) = some (some (.agg #[(.string ⟨#[]⟩), (.int .i64 0)]), 2, 24) := by kernel_rfl
theorem qm : (Tryz.prog.info? 115).map (fun i => (i.zero, i.size, i.bytes)) = some (some (.agg #[(.int .i64 0), (.bool false), (.int .i64 0), (.int .i64 0)]), 4, 32) := by kernel_rfl
theorem Df : (Tryz.prog.info? 141).map (fun i => (i.zero, i.size, i.bytes)) = some (some (.agg #[(.int .i64 0), (.string ⟨#[]⟩), (.int .i64 0), (.int .i64 0)]), 4, 40) := by kernel_rfl
structure l8 where
 f0 : Int
 f1 : ByteArray
 f2 : Int
 f3 : Int
def z143 : l8 := ⟨(0 : Int), (⟨#[]⟩ : ByteArray), (0 : Int), (0 : Int)⟩
def xg : Kd l8 := Kd.iso (Kd.pair (Kd.int .i64) (Kd.pair Kd.string (Kd.pair (Kd.int .i64) (Kd.int .i64)))) (fun x : l8 => (x.f0, x.f1, x.f2, x.f3))
theorem Ay {w : World} {x : l8} {cs : List Value} (h : xg.K w x cs) : cs = [.int .i64 x.f0, .string x.f1, .int .i64 x.f2, .int .i64 x.f3] := by
 obtain ⟨_, _, rfl, rfl, ⟨_, _, rfl, rfl, ⟨_, _, rfl, rfl, rfl⟩⟩⟩ := h
 exact rfl
def gq (xs : List l8) (i : Int) : l8 := xs.getD i.toNat z143
theorem zY {w : World} {A : Option Addr} {n : Nat} {xs : List l8} (h : Kd.C xg w A n xs) (i : Int) (h0 : 0 ≤ i) (h1 : i < n) : ∃ ad , A = some ad ∧ w.cell? (ad.add (i.toNat * 4)) = some (.int .i64 (gq xs i).f0) ∧ w.cell? ⟨(ad.add (i.toNat * 4)).block, (ad.add (i.toNat * 4)).off + 1, none⟩ = some (.string (gq xs i).f1) ∧ w.cell? ⟨(ad.add (i.toNat * 4)).block, (ad.add (i.toNat * 4)).off + 2, none⟩ = some (.int .i64 (gq xs i).f2) ∧ w.cell? ⟨(ad.add (i.toNat * 4)).block, (ad.add (i.toNat * 4)).off + 3, none⟩ = some (.int .i64 (gq xs i).f3) := by
 obtain ⟨ad, c, e, _, hK, hc0⟩ := Kd.sO h z143 i h0 h1
 have hc : ∀ j u, c[j]? = some u → w.cell? (ad.add (i.toNat * 4 + j)) = some u := hc0
 obtain rfl := Ay hK
 exact ⟨ad, e, hc 0 _ rfl, by rw [← jm _ _ 1 (by omega)]; exact hc 1 _ rfl, by rw [← jm _ _ 2 (by omega)]; exact hc 2 _ rfl, by rw [← jm _ _ 3 (by omega)]; exact hc 3 _ rfl⟩
structure S68 where
 f0 : Int
 f1 : (List l8)
def z68 : S68 := ⟨(0 : Int), ([] : List l8)⟩
def k68 : Kd S68 := Kd.iso (Kd.pair (Kd.int .i64) (Kd.slice 143 xg)) (fun x : S68 => (x.f0, x.f1))
theorem Bp {w : World} {x : S68} {cs : List Value} (h : k68.K w x cs) : ∃ A1 c1, cs = [.int .i64 x.f0, .slice A1 x.f1.length c1] ∧ x.f1.length ≤ c1 ∧ xg.C w A1 x.f1.length x.f1 := by
 obtain ⟨_, _, rfl, rfl, ⟨A1, c1, rfl, l1, g1⟩⟩ := h
 exact ⟨A1, c1, rfl, l1, g1⟩
def ku (xs : List S68) (i : Int) : S68 := xs.getD i.toNat z68
theorem Bq {w : World} {A : Option Addr} {n : Nat} {xs : List S68} (h : Kd.C k68 w A n xs) (i : Int) (h0 : 0 ≤ i) (h1 : i < n) : ∃ ad A1 c1, A = some ad ∧ w.cell? (ad.add (i.toNat * 2)) = some (.int .i64 (ku xs i).f0) ∧ w.cell? ⟨(ad.add (i.toNat * 2)).block, (ad.add (i.toNat * 2)).off + 1, none⟩ = some (.slice A1 (ku xs i).f1.length c1) ∧ (ku xs i).f1.length ≤ c1 ∧ xg.C w A1 (ku xs i).f1.length (ku xs i).f1 := by
 obtain ⟨ad, c, e, _, hK, hc0⟩ := Kd.sO h z68 i h0 h1
 have hc : ∀ j u, c[j]? = some u → w.cell? (ad.add (i.toNat * 2 + j)) = some u := hc0
 obtain ⟨A1, c1, rfl, l1, g1⟩ := Bp hK
 exact ⟨ad, A1, c1, e, hc 0 _ rfl, by rw [← jm _ _ 1 (by omega)]; exact hc 1 _ rfl, l1, g1⟩
structure S71 where
 f0 : ByteArray
 f1 : Int
def z71 : S71 := ⟨(⟨#[]⟩ : ByteArray), (0 : Int)⟩
def k71 : Kd S71 := Kd.iso (Kd.pair Kd.string (Kd.int .i64)) (fun x : S71 => (x.f0, x.f1))
theorem Co {w : World} {x : S71} {cs : List Value} (h : k71.K w x cs) : cs = [.string x.f0, .int .i64 x.f1] := by
 obtain ⟨_, _, rfl, rfl, rfl⟩ := h
 exact rfl
def kW (xs : List S71) (i : Int) : S71 := xs.getD i.toNat z71
theorem Ce {w : World} {A : Option Addr} {n : Nat} {xs : List S71} (h : Kd.C k71 w A n xs) (i : Int) (h0 : 0 ≤ i) (h1 : i < n) : ∃ ad , A = some ad ∧ w.cell? (ad.add (i.toNat * 2)) = some (.string (kW xs i).f0) ∧ w.cell? ⟨(ad.add (i.toNat * 2)).block, (ad.add (i.toNat * 2)).off + 1, none⟩ = some (.int .i64 (kW xs i).f1) := by
 obtain ⟨ad, c, e, _, hK, hc0⟩ := Kd.sO h z71 i h0 h1
 have hc : ∀ j u, c[j]? = some u → w.cell? (ad.add (i.toNat * 2 + j)) = some u := hc0
 obtain rfl := Co hK
 exact ⟨ad, e, hc 0 _ rfl, by rw [← jm _ _ 1 (by omega)]; exact hc 1 _ rfl⟩
structure dI where
 f0 : Int
 f1 : Bool
 f2 : Int
 f3 : Int
def Es : dI := ⟨(0 : Int), false, (0 : Int), (0 : Int)⟩
def kX : Kd dI := Kd.iso (Kd.pair (Kd.int .i64) (Kd.pair Kd.bool (Kd.pair (Kd.int .i64) (Kd.int .i64)))) (fun x : dI => (x.f0, x.f1, x.f2, x.f3))
theorem AU {w : World} {x : dI} {cs : List Value} (h : kX.K w x cs) : cs = [.int .i64 x.f0, .bool x.f1, .int .i64 x.f2, .int .i64 x.f3] := by
 obtain ⟨_, _, rfl, rfl, ⟨_, _, rfl, rfl, ⟨_, _, rfl, rfl, rfl⟩⟩⟩ := h
 exact rfl
theorem nX (w : World) (base : Nat) (ok : Nat → Prop) (x : dI)  : kX.M w base ok x [.int .i64 x.f0, .bool x.f1, .int .i64 x.f2, .int .i64 x.f3] := ⟨[.int .i64 x.f0], [.bool x.f1, .int .i64 x.f2, .int .i64 x.f3], rfl, rfl, ⟨[.bool x.f1], [.int .i64 x.f2, .int .i64 x.f3], rfl, rfl, ⟨[.int .i64 x.f2], [.int .i64 x.f3], rfl, rfl, rfl⟩⟩⟩
def aM (xs : List dI) (i : Int) : dI := xs.getD i.toNat Es
theorem mX {w : World} {A : Option Addr} {n : Nat} {xs : List dI} (h : Kd.C kX w A n xs) (i : Int) (h0 : 0 ≤ i) (h1 : i < n) : ∃ ad , A = some ad ∧ w.cell? (ad.add (i.toNat * 4)) = some (.int .i64 (aM xs i).f0) ∧ w.cell? ⟨(ad.add (i.toNat * 4)).block, (ad.add (i.toNat * 4)).off + 1, none⟩ = some (.bool (aM xs i).f1) ∧ w.cell? ⟨(ad.add (i.toNat * 4)).block, (ad.add (i.toNat * 4)).off + 2, none⟩ = some (.int .i64 (aM xs i).f2) ∧ w.cell? ⟨(ad.add (i.toNat * 4)).block, (ad.add (i.toNat * 4)).off + 3, none⟩ = some (.int .i64 (aM xs i).f3) := by
 obtain ⟨ad, c, e, _, hK, hc0⟩ := Kd.sO h Es i h0 h1
 have hc : ∀ j u, c[j]? = some u → w.cell? (ad.add (i.toNat * 4 + j)) = some u := hc0
 obtain rfl := AU hK
 exact ⟨ad, e, hc 0 _ rfl, by rw [← jm _ _ 1 (by omega)]; exact hc 1 _ rfl, by rw [← jm _ _ 2 (by omega)]; exact hc 2 _ rfl, by rw [← jm _ _ 3 (by omega)]; exact hc 3 _ rfl⟩
structure bZ where
 f0 : Int
 f1 : ByteArray
 f2 : Int
 f3 : Int
def z141 : bZ := ⟨(0 : Int), (⟨#[]⟩ : ByteArray), (0 : Int), (0 : Int)⟩
def je : Kd bZ := Kd.iso (Kd.pair (Kd.int .i64) (Kd.pair Kd.string (Kd.pair (Kd.int .i64) (Kd.int .i64)))) (fun x : bZ => (x.f0, x.f1, x.f2, x.f3))
theorem Bl {w : World} {x : bZ} {cs : List Value} (h : je.K w x cs) : cs = [.int .i64 x.f0, .string x.f1, .int .i64 x.f2, .int .i64 x.f3] := by
 obtain ⟨_, _, rfl, rfl, ⟨_, _, rfl, rfl, ⟨_, _, rfl, rfl, rfl⟩⟩⟩ := h
 exact rfl
theorem wh {w : World} {base : Nat} {ok : Nat → Prop} {x : bZ} {cs : List Value} (h : je.M w base ok x cs) : cs = [.int .i64 x.f0, .string x.f1, .int .i64 x.f2, .int .i64 x.f3] := by
 obtain ⟨_, _, rfl, rfl, ⟨_, _, rfl, rfl, ⟨_, _, rfl, rfl, rfl⟩⟩⟩ := h
 exact rfl
theorem yN (w : World) (base : Nat) (ok : Nat → Prop) (x : bZ)  : je.M w base ok x [.int .i64 x.f0, .string x.f1, .int .i64 x.f2, .int .i64 x.f3] := ⟨[.int .i64 x.f0], [.string x.f1, .int .i64 x.f2, .int .i64 x.f3], rfl, rfl, ⟨[.string x.f1], [.int .i64 x.f2, .int .i64 x.f3], rfl, rfl, ⟨[.int .i64 x.f2], [.int .i64 x.f3], rfl, rfl, rfl⟩⟩⟩
def aj (xs : List bZ) (i : Int) : bZ := xs.getD i.toNat z141
theorem jh {w : World} {A : Option Addr} {n : Nat} {xs : List bZ} (h : Kd.C je w A n xs) (i : Int) (h0 : 0 ≤ i) (h1 : i < n) : ∃ ad , A = some ad ∧ w.cell? (ad.add (i.toNat * 4)) = some (.int .i64 (aj xs i).f0) ∧ w.cell? ⟨(ad.add (i.toNat * 4)).block, (ad.add (i.toNat * 4)).off + 1, none⟩ = some (.string (aj xs i).f1) ∧ w.cell? ⟨(ad.add (i.toNat * 4)).block, (ad.add (i.toNat * 4)).off + 2, none⟩ = some (.int .i64 (aj xs i).f2) ∧ w.cell? ⟨(ad.add (i.toNat * 4)).block, (ad.add (i.toNat * 4)).off + 3, none⟩ = some (.int .i64 (aj xs i).f3) := by
 obtain ⟨ad, c, e, _, hK, hc0⟩ := Kd.sO h z141 i h0 h1
 have hc : ∀ j u, c[j]? = some u → w.cell? (ad.add (i.toNat * 4 + j)) = some u := hc0
 obtain rfl := Bl hK
 exact ⟨ad, e, hc 0 _ rfl, by rw [← jm _ _ 1 (by omega)]; exact hc 1 _ rfl, by rw [← jm _ _ 2 (by omega)]; exact hc 2 _ rfl, by rw [← jm _ _ 3 (by omega)]; exact hc 3 _ rfl⟩
structure S84 where
 f0 : ByteArray
 f1 : Int
def z84 : S84 := ⟨(⟨#[]⟩ : ByteArray), (0 : Int)⟩
def k84 : Kd S84 := Kd.iso (Kd.pair Kd.string (Kd.int .i64)) (fun x : S84 => (x.f0, x.f1))
theorem Bw {w : World} {x : S84} {cs : List Value} (h : k84.K w x cs) : cs = [.string x.f0, .int .i64 x.f1] := by
 obtain ⟨_, _, rfl, rfl, rfl⟩ := h
 exact rfl
theorem xI {w : World} {base : Nat} {ok : Nat → Prop} {x : S84} {cs : List Value} (h : k84.M w base ok x cs) : cs = [.string x.f0, .int .i64 x.f1] := by
 obtain ⟨_, _, rfl, rfl, rfl⟩ := h
 exact rfl
theorem Ah (w : World) (base : Nat) (ok : Nat → Prop) (x : S84)  : k84.M w base ok x [.string x.f0, .int .i64 x.f1] := ⟨[.string x.f0], [.int .i64 x.f1], rfl, rfl, rfl⟩
def fK (xs : List S84) (i : Int) : S84 := xs.getD i.toNat z84
theorem vR {w : World} {A : Option Addr} {n : Nat} {xs : List S84} (h : Kd.C k84 w A n xs) (i : Int) (h0 : 0 ≤ i) (h1 : i < n) : ∃ ad , A = some ad ∧ w.cell? (ad.add (i.toNat * 2)) = some (.string (fK xs i).f0) ∧ w.cell? ⟨(ad.add (i.toNat * 2)).block, (ad.add (i.toNat * 2)).off + 1, none⟩ = some (.int .i64 (fK xs i).f1) := by
 obtain ⟨ad, c, e, _, hK, hc0⟩ := Kd.sO h z84 i h0 h1
 have hc : ∀ j u, c[j]? = some u → w.cell? (ad.add (i.toNat * 2 + j)) = some u := hc0
 obtain rfl := Bw hK
 exact ⟨ad, e, hc 0 _ rfl, by rw [← jm _ _ 1 (by omega)]; exact hc 1 _ rfl⟩
structure S82 where
 f0 : Int
 f1 : (List bZ)
def z82 : S82 := ⟨(0 : Int), ([] : List bZ)⟩
def k82 : Kd S82 := Kd.iso (Kd.pair (Kd.int .i64) (Kd.slice 141 je)) (fun x : S82 => (x.f0, x.f1))
theorem BJ {w : World} {x : S82} {cs : List Value} (h : k82.K w x cs) : ∃ A1 c1, cs = [.int .i64 x.f0, .slice A1 x.f1.length c1] ∧ x.f1.length ≤ c1 ∧ je.C w A1 x.f1.length x.f1 := by
 obtain ⟨_, _, rfl, rfl, ⟨A1, c1, rfl, l1, g1⟩⟩ := h
 exact ⟨A1, c1, rfl, l1, g1⟩
theorem xH {w : World} {base : Nat} {ok : Nat → Prop} {x : S82} {cs : List Value} (h : k82.M w base ok x cs) : ∃ v1, cs = [.int .i64 x.f0, v1] ∧ je.R 141 w base ok v1 x.f1 := by
 obtain ⟨_, _, rfl, rfl, ⟨v1, rfl, g1⟩⟩ := h
 exact ⟨v1, rfl, g1⟩
theorem zU (w : World) (base : Nat) (ok : Nat → Prop) (x : S82) {v1 : Value} (g1 : je.R 141 w base ok v1 x.f1) : k82.M w base ok x [.int .i64 x.f0, v1] := ⟨[.int .i64 x.f0], [v1], rfl, rfl, ⟨v1, rfl, g1⟩⟩
def dW (xs : List S82) (i : Int) : S82 := xs.getD i.toNat z82
theorem xR {w : World} {A : Option Addr} {n : Nat} {xs : List S82} (h : Kd.C k82 w A n xs) (i : Int) (h0 : 0 ≤ i) (h1 : i < n) : ∃ ad A1 c1, A = some ad ∧ w.cell? (ad.add (i.toNat * 2)) = some (.int .i64 (dW xs i).f0) ∧ w.cell? ⟨(ad.add (i.toNat * 2)).block, (ad.add (i.toNat * 2)).off + 1, none⟩ = some (.slice A1 (dW xs i).f1.length c1) ∧ (dW xs i).f1.length ≤ c1 ∧ je.C w A1 (dW xs i).f1.length (dW xs i).f1 := by
 obtain ⟨ad, c, e, _, hK, hc0⟩ := Kd.sO h z82 i h0 h1
 have hc : ∀ j u, c[j]? = some u → w.cell? (ad.add (i.toNat * 2 + j)) = some u := hc0
 obtain ⟨A1, c1, rfl, l1, g1⟩ := BJ hK
 exact ⟨ad, A1, c1, e, hc 0 _ rfl, by rw [← jm _ _ 1 (by omega)]; exact hc 1 _ rfl, l1, g1⟩
def jg (xs : List (List Int)) (i : Int) : (List Int) := xs.getD i.toNat ([] : List Int)
theorem zI {w : World} {A : Option Addr} {n : Nat} {xs : List (List Int)} (h : Kd.C (Kd.slice 3 (Kd.int .i64)) w A n xs) (i : Int) (h0 : 0 ≤ i) (h1 : i < n) : ∃ ad A0 c0, A = some ad ∧ w.cell? (ad.add i.toNat) = some (.slice A0 (jg xs i).length c0) ∧ (jg xs i).length ≤ c0 ∧ (Kd.int .i64).C w A0 (jg xs i).length (jg xs i) := by
 obtain ⟨ad, c, e, _, hK, hc0⟩ := Kd.sO h ([] : List Int) i h0 h1
 have hc : ∀ j u, c[j]? = some u → w.cell? (ad.add (i.toNat * 1 + j)) = some u := hc0
 obtain ⟨A0, c0, rfl, l0, g0⟩ := hK
 exact ⟨ad, A0, c0, e, by have hq := hc 0 _ rfl; rwa [Nat.mul_one, Nat.add_zero] at hq, l0, g0⟩
def kG.f (EU EW : Int) (EX : ByteArray) (a1 : Int) : Option (Int) := if (wrap64 (a1 - (EX.size : Int))) < 0 then (some (-1)) else (some (wrap64 (a1 - (EX.size : Int))))
theorem kG.calls (EU EW : Int) (EX : ByteArray) (a1 r : Int) (w : World) (h : kG.f EU EW EX a1 = some r) :
  Calls Tryz.prog 9 #[.agg #[.int .i64 EU, .int .i64 EW, .string EX], .int .i64 a1] w fun e w' => e = .returned (.int .i64 r) ∧ Below w.heap.size w w' := by
 have hu23 := Tryz.underlying23
 have HB := ah.mk (Below.refl w.heap.size w)
 unfold kG.f at h
 have H := h
 clear h
 replace H := ah.mk H
 go_enter Tryz.func9, Tryz.ntmps9
 go_wp2_with (first | ((with_reducible refine aN (N := 2) rfl ?_); refine bC (N := 2) (cs := #[.int .i64 EU, .int .i64 EW, .string EX]) (t := 23) ?_; intro gb101 hg w9000 hbox hb; have BK101 := ah.mk hbox; have GW101 := SZ (w := w) hg; have GE101 := GW101; replace HB := BS (w := w) hb; clear hb hbox hg; obtain ⟨hcz9001_0, hcz9001_1, hcz9001_2, hfz9001_0, hfz9001_1, hfz9001_2⟩ := cz3 BK101.out; refine bP ?_))
 refine Hide.mk ?_
 replace H := H.out
 replace H := ifD H; rcases H with ⟨c3b0, H⟩ | ⟨c3b0, H⟩
 ·obtain rfl := Option.some.inj H
  try go_wp2
  go_ret
  exact ⟨EWW, BL⟩
 ·obtain rfl := Option.some.inj H
  try go_wp2
  go_ret
  exact ⟨EWW, BL⟩
def kJ.f (EU : Int) (EW : ByteArray) (EX a0_3 a1 : Int) : Option (Int) := if (wrap64 (a1 - (EW.size : Int))) < 0 then (some (-1)) else (some (wrap64 (a1 - (EW.size : Int))))
theorem kJ.calls (EU : Int) (EW : ByteArray) (EX a0_3 : Int) (a1 r : Int) (w : World) (h : kJ.f EU EW EX a0_3 a1 = some r) :
  Calls Tryz.prog 152 #[.agg #[.int .i64 EU, .string EW, .int .i64 EX, .int .i64 a0_3], .int .i64 a1] w fun e w' => e = .returned (.int .i64 r) ∧ Below w.heap.size w w' := by
 have hu143 := Tryz.underlying143
 have HB := ah.mk (Below.refl w.heap.size w)
 unfold kJ.f at h
 have H := h
 clear h
 replace H := ah.mk H
 go_enter Tryz.func152, Tryz.ntmps152
 go_wp2_with (first | ((with_reducible refine aN (N := 2) rfl ?_); refine bC (N := 2) (cs := #[.int .i64 EU, .string EW, .int .i64 EX, .int .i64 a0_3]) (t := 143) ?_; intro gb102 hg w9000 hbox hb; have BK102 := ah.mk hbox; have GW102 := SZ (w := w) hg; have GE102 := GW102; replace HB := BS (w := w) hb; clear hb hbox hg; obtain ⟨hcz9001_0, hcz9001_1, hcz9001_2, hcz9001_3, hfz9001_0, hfz9001_1, hfz9001_2, hfz9001_3⟩ := cz4 BK102.out; refine bP ?_))
 refine Hide.mk ?_
 replace H := H.out
 replace H := ifD H; rcases H with ⟨c3b0, H⟩ | ⟨c3b0, H⟩
 ·obtain rfl := Option.some.inj H
  try go_wp2
  go_ret
  exact ⟨EWW, BL⟩
 ·obtain rfl := Option.some.inj H
  try go_wp2
  go_ret
  exact ⟨EWW, BL⟩
def fG.l0 : Nat → List (l8) → Int → Int → Option (Int)
 | 0, _, _, _ => none
 | k + 1, a, b, c => if c < (a.length : Int) then (if 0 ≤ c then ((kJ.f ((gq a c).f0) ((gq a c).f1) ((gq a c).f2) ((gq a c).f3) b).bind fun d => (if d < 0 then (some (-1)) else (fG.l0 k a d (wrap64 (c + 1))))) else (none)) else (some b)
def fG.f (k : Nat) (l0 : List (l8)) (a1 : Int) : Option (Int) := if (wrap64 (a1 - (l0.length : Int))) < 0 then (some (-1)) else (fG.l0 k l0 (wrap64 (a1 - (l0.length : Int))) 0)
theorem fG.calls (k : Nat) (A0 : Option Addr) (c0 : Nat) (l0 : List (l8)) (a1 r : Int) (w : World) (hr0 : Kd.C xg w A0 l0.length l0) (hc0 : l0.length ≤ c0) (h : fG.f k l0 a1 = some r) :
  Calls Tryz.prog 95 #[.slice A0 l0.length c0, .int .i64 a1] w fun e w' => e = .returned (.int .i64 r) ∧ Below w.heap.size w w' := by
 have hu143 := Tryz.underlying143
 have HR0 := ah.mk hr0
 have HC0 := ah.mk hc0
 clear hr0 hc0
 have HB := ah.mk (Below.refl w.heap.size w)
 unfold fG.f at h
 have H := h
 clear h
 replace H := ah.mk H
 go_enter Tryz.func95, Tryz.ntmps95
 replace H := H.out
 replace H := ifD H; rcases H with ⟨c3b0, H⟩ | ⟨c3b0, H⟩
 ·obtain rfl := Option.some.inj H
  try go_wp2
  go_ret
  exact ⟨EWW, BL⟩
 ·have H' := ah.mk H
  clear H
  try go_wp2
  go_loopg [1, 5] k (fun kq v1 v5 w' => ∃ (x1_1 : Int) (x5_1 : Int), v1 = .int .i64 x1_1 ∧ v5 = .int .i64 x5_1 ∧ ah (fG.l0 kq l0 x1_1 x5_1 = some r) ∧ ah (kq ≤ k) ∧ ah (Below w.heap.size w w'))
  case atStart => exact ⟨(wrap64 (a1 - (l0.length : Int))), (0), EQ, EQ, H', ⟨Nat.le_refl _⟩, ⟨BL⟩⟩
  case round =>
   clear H'
   try clear c3
   try clear c3b0
   obtain ⟨x1_1, x5_1, rfl, rfl, HA, HK1, HB⟩ := hrel
   cases gk with
   | zero => exact absurd HA.out (by simp [fG.l0])
   | succ k1 =>
    have H := HA.out
    clear HA
    simp only [fG.l0] at H
    replace H := ifD H; rcases H with ⟨c4b0, H⟩ | ⟨c4b0, H⟩
    ·replace H := ifN H; obtain ⟨c5b0, H⟩ := H
     replace H := be H; obtain ⟨t104, A6, H⟩ := H
     have p103 : 0 ≤ (x5_1 : Int) := OD
     have q103 : x5_1 < (l0.length : Int) := OD
     obtain ⟨ad103, e103, hx103_0, hx103_1, hx103_2, hx103_3⟩ := zY HR0.out x5_1 p103 q103
     cases e103
     try replace hx103_0 := (HB.out.cell (World.block_lt_of_cell? w _ hx103_0)).trans hx103_0
     try replace hx103_1 := (HB.out.cell (World.block_lt_of_cell? w _ hx103_1)).trans hx103_1
     try replace hx103_2 := (HB.out.cell (World.block_lt_of_cell? w _ hx103_2)).trans hx103_2
     try replace hx103_3 := (HB.out.cell (World.block_lt_of_cell? w _ hx103_3)).trans hx103_3
     replace p103 := eq_true p103
     replace q103 := eq_true q103
     replace H := ah.mk H
     go_wp2_with (first | ((with_reducible refine ay (f := 152) rfl ?_); refine bq (some 23) Tryz.func152 #[.agg #[.int .i64 ((gq l0 x5_1).f0), .string ((gq l0 x5_1).f1), .int .i64 ((gq l0 x5_1).f2), .int .i64 ((gq l0 x5_1).f3)], .int .i64 x1_1] ?_; (with_reducible refine (kJ.calls ((gq l0 x5_1).f0) ((gq l0 x5_1).f1) ((gq l0 x5_1).f2) ((gq l0 x5_1).f3) x1_1 t104 _ A6.out).mono ?_); rintro e w9000 ⟨rfl, hb⟩; refine ⟨_, rfl, ?_⟩; replace HB := BS (w := w) hb; (try clear hb); refine bP ?_))
     refine Hide.mk ?_
     replace H := H.out
     replace H := ifD H; rcases H with ⟨c7b0, H⟩ | ⟨c7b0, H⟩
     ·obtain rfl := Option.some.inj H
      try go_wp2
      go_ret
      exact ⟨EWW, BL⟩
     ·have H' := ah.mk H
      clear H
      try go_wp2
      go_roundg k1
      case measure => have := HK1.out; omega
      case rel => exact ⟨(t104), (wrap64 (x5_1 + 1)), EQ, EQ, H', ⟨by have := HK1.out; omega⟩, ⟨BL⟩⟩
    ·obtain rfl := Option.some.inj H
     go_wp2
     go_ret
     exact ⟨EWW, BL⟩
def kM.f (k : Nat) (EU : Int) (E8 : List (l8)) (a1 : Int) : Option (Int) := (fG.f k E8 a1).bind fun t106 => (if t106 < 0 then (some (-1)) else (some t106))
theorem kM.calls (k : Nat) (EU : Int) (A0_1 : Option Addr) (c0_1 : Nat) (E8 : List (l8)) (a1 r : Int) (w : World) (hr0_1 : Kd.C xg w A0_1 E8.length E8) (hc0_1 : E8.length ≤ c0_1) (h : kM.f k EU E8 a1 = some r) :
  Calls Tryz.prog 44 #[.agg #[.int .i64 EU, .slice A0_1 E8.length c0_1], .int .i64 a1] w fun e w' => e = .returned (.int .i64 r) ∧ Below w.heap.size w w' := by
 have hu68 := Tryz.underlying68
 have HR0_1 := ah.mk hr0_1
 have HC0_1 := ah.mk hc0_1
 clear hr0_1 hc0_1
 have HB := ah.mk (Below.refl w.heap.size w)
 unfold kM.f at h
 have H := h
 clear h
 replace H := be H; obtain ⟨t106, A3, H⟩ := H
 replace H := ah.mk H
 go_enter Tryz.func44, Tryz.ntmps44
 go_wp2_with (first | ((with_reducible refine aN (N := 2) rfl ?_); refine bC (N := 2) (cs := #[.int .i64 EU, .slice A0_1 E8.length c0_1]) (t := 68) ?_; intro gb105 hg w9000 hbox hb; have BK105 := ah.mk hbox; have GW105 := SZ (w := w) hg; have GE105 := GW105; replace HB := BS (w := w) hb; clear hb hbox hg; obtain ⟨hcz9001_0, hcz9001_1, hfz9001_0, hfz9001_1⟩ := cz2 BK105.out) | ((with_reducible refine ay (f := 95) rfl ?_); refine bq (some 8) Tryz.func95 #[.slice A0_1 E8.length c0_1, .int .i64 a1] ?_; (with_reducible refine (fG.calls k _ _ E8 a1 t106 _ ?side1 ?side2 A3.out).mono ?_); (case side1 => exact CB HR0_1); (case side2 => exact HC0_1.out); rintro e w9002 ⟨rfl, hb⟩; refine ⟨_, rfl, ?_⟩; replace BK105 := KB BK105 hb; replace HB := BS (w := w) hb; (try clear hb); refine bP ?_))
 refine Hide.mk ?_
 replace H := H.out
 replace H := ifD H; rcases H with ⟨c4b0, H⟩ | ⟨c4b0, H⟩
 ·obtain rfl := Option.some.inj H
  try go_wp2
  go_ret
  exact ⟨EWW, BL⟩
 ·obtain rfl := Option.some.inj H
  try go_wp2
  go_ret
  exact ⟨EWW, BL⟩
def fJ.l0 : Nat → List (S68) → Int → Int → Option (Int)
 | 0, _, _, _ => none
 | k + 1, a, b, c => if c < (a.length : Int) then (if 0 ≤ c then ((kM.f k ((ku a c).f0) ((ku a c).f1) b).bind fun d => (if d < 0 then (some (-1)) else (fJ.l0 k a d (wrap64 (c + 1))))) else (none)) else (some b)
def fJ.f (k : Nat) (l0 : List (S68)) (a1 : Int) : Option (Int) := if (wrap64 (a1 - (l0.length : Int))) < 0 then (some (-1)) else (fJ.l0 k l0 (wrap64 (a1 - (l0.length : Int))) 0)
theorem fJ.calls (k : Nat) (A0 : Option Addr) (c0 : Nat) (l0 : List (S68)) (a1 r : Int) (w : World) (hr0 : Kd.C k68 w A0 l0.length l0) (hc0 : l0.length ≤ c0) (h : fJ.f k l0 a1 = some r) :
  Calls Tryz.prog 10 #[.slice A0 l0.length c0, .int .i64 a1] w fun e w' => e = .returned (.int .i64 r) ∧ Below w.heap.size w w' := by
 have hu68 := Tryz.underlying68
 have HR0 := ah.mk hr0
 have HC0 := ah.mk hc0
 clear hr0 hc0
 have HB := ah.mk (Below.refl w.heap.size w)
 unfold fJ.f at h
 have H := h
 clear h
 replace H := ah.mk H
 go_enter Tryz.func10, Tryz.ntmps10
 replace H := H.out
 replace H := ifD H; rcases H with ⟨c3b0, H⟩ | ⟨c3b0, H⟩
 ·obtain rfl := Option.some.inj H
  try go_wp2
  go_ret
  exact ⟨EWW, BL⟩
 ·have H' := ah.mk H
  clear H
  try go_wp2
  go_loopg [1, 5] k (fun kq v1 v5 w' => ∃ (x1_1 : Int) (x5_1 : Int), v1 = .int .i64 x1_1 ∧ v5 = .int .i64 x5_1 ∧ ah (fJ.l0 kq l0 x1_1 x5_1 = some r) ∧ ah (kq ≤ k) ∧ ah (Below w.heap.size w w'))
  case atStart => exact ⟨(wrap64 (a1 - (l0.length : Int))), (0), EQ, EQ, H', ⟨Nat.le_refl _⟩, ⟨BL⟩⟩
  case round =>
   clear H'
   try clear c3
   try clear c3b0
   obtain ⟨x1_1, x5_1, rfl, rfl, HA, HK1, HB⟩ := hrel
   cases gk with
   | zero => exact absurd HA.out (by simp [fJ.l0])
   | succ k1 =>
    have H := HA.out
    clear HA
    simp only [fJ.l0] at H
    replace H := ifD H; rcases H with ⟨c4b0, H⟩ | ⟨c4b0, H⟩
    ·replace H := ifN H; obtain ⟨c5b0, H⟩ := H
     replace H := be H; obtain ⟨t108, A6, H⟩ := H
     have p107 : 0 ≤ (x5_1 : Int) := OD
     have q107 : x5_1 < (l0.length : Int) := OD
     obtain ⟨ad107, A107_1, c107_1, e107, hx107_0, hx107_1, hl107_1, hi107_1⟩ := Bq HR0.out x5_1 p107 q107
     cases e107
     try replace hx107_0 := (HB.out.cell (World.block_lt_of_cell? w _ hx107_0)).trans hx107_0
     try replace hx107_1 := (HB.out.cell (World.block_lt_of_cell? w _ hx107_1)).trans hx107_1
     have HR107_1 := ah.mk hi107_1
     have HC107_1 := ah.mk hl107_1
     clear hi107_1 hl107_1
     replace p107 := eq_true p107
     replace q107 := eq_true q107
     replace H := ah.mk H
     go_wp2_with (first | ((with_reducible refine ay (f := 44) rfl ?_); refine bq (some 23) Tryz.func44 #[.agg #[.int .i64 ((ku l0 x5_1).f0), .slice A107_1 ((ku l0 x5_1).f1).length c107_1], .int .i64 x1_1] ?_; (with_reducible refine (kM.calls k1 ((ku l0 x5_1).f0) _ _ ((ku l0 x5_1).f1) x1_1 t108 _ ?side1 ?side2 A6.out).mono ?_); (case side1 => exact CB HR107_1); (case side2 => exact HC107_1.out); rintro e w9000 ⟨rfl, hb⟩; refine ⟨_, rfl, ?_⟩; replace HB := BS (w := w) hb; (try clear hb); refine bP ?_))
     refine Hide.mk ?_
     replace H := H.out
     replace H := ifD H; rcases H with ⟨c7b0, H⟩ | ⟨c7b0, H⟩
     ·obtain rfl := Option.some.inj H
      try go_wp2
      go_ret
      exact ⟨EWW, BL⟩
     ·have H' := ah.mk H
      clear H
      try go_wp2
      go_roundg k1
      case measure => have := HK1.out; omega
      case rel => exact ⟨(t108), (wrap64 (x5_1 + 1)), EQ, EQ, H', ⟨by have := HK1.out; omega⟩, ⟨BL⟩⟩
    ·obtain rfl := Option.some.inj H
     go_wp2
     go_ret
     exact ⟨EWW, BL⟩
def jA.f (EU : ByteArray) (EW a1 : Int) : Option (Int) := if (wrap64 (a1 - (EU.size : Int))) < 0 then (some (-1)) else (some (wrap64 (a1 - (EU.size : Int))))
theorem jA.calls (EU : ByteArray) (EW a1 r : Int) (w : World) (h : jA.f EU EW a1 = some r) :
  Calls Tryz.prog 45 #[.agg #[.string EU, .int .i64 EW], .int .i64 a1] w fun e w' => e = .returned (.int .i64 r) ∧ Below w.heap.size w w' := by
 have hu71 := Tryz.underlying71
 have HB := ah.mk (Below.refl w.heap.size w)
 unfold jA.f at h
 have H := h
 clear h
 replace H := ah.mk H
 go_enter Tryz.func45, Tryz.ntmps45
 go_wp2_with (first | ((with_reducible refine aN (N := 2) rfl ?_); refine bC (N := 2) (cs := #[.string EU, .int .i64 EW]) (t := 71) ?_; intro gb109 hg w9000 hbox hb; have BK109 := ah.mk hbox; have GW109 := SZ (w := w) hg; have GE109 := GW109; replace HB := BS (w := w) hb; clear hb hbox hg; obtain ⟨hcz9001_0, hcz9001_1, hfz9001_0, hfz9001_1⟩ := cz2 BK109.out; refine bP ?_))
 refine Hide.mk ?_
 replace H := H.out
 replace H := ifD H; rcases H with ⟨c3b0, H⟩ | ⟨c3b0, H⟩
 ·obtain rfl := Option.some.inj H
  try go_wp2
  go_ret
  exact ⟨EWW, BL⟩
 ·obtain rfl := Option.some.inj H
  try go_wp2
  go_ret
  exact ⟨EWW, BL⟩
def dQ.l0 : Nat → List (S71) → Int → Int → Option (Int)
 | 0, _, _, _ => none
 | k + 1, a, b, c => if c < (a.length : Int) then (if 0 ≤ c then ((jA.f ((kW a c).f0) ((kW a c).f1) b).bind fun d => (if d < 0 then (some (-1)) else (dQ.l0 k a d (wrap64 (c + 1))))) else (none)) else (some b)
def dQ.f (k : Nat) (l0 : List (S71)) (a1 : Int) : Option (Int) := if (wrap64 (a1 - (l0.length : Int))) < 0 then (some (-1)) else (dQ.l0 k l0 (wrap64 (a1 - (l0.length : Int))) 0)
theorem dQ.calls (k : Nat) (A0 : Option Addr) (c0 : Nat) (l0 : List (S71)) (a1 r : Int) (w : World) (hr0 : Kd.C k71 w A0 l0.length l0) (hc0 : l0.length ≤ c0) (h : dQ.f k l0 a1 = some r) :
  Calls Tryz.prog 11 #[.slice A0 l0.length c0, .int .i64 a1] w fun e w' => e = .returned (.int .i64 r) ∧ Below w.heap.size w w' := by
 have hu71 := Tryz.underlying71
 have HR0 := ah.mk hr0
 have HC0 := ah.mk hc0
 clear hr0 hc0
 have HB := ah.mk (Below.refl w.heap.size w)
 unfold dQ.f at h
 have H := h
 clear h
 replace H := ah.mk H
 go_enter Tryz.func11, Tryz.ntmps11
 replace H := H.out
 replace H := ifD H; rcases H with ⟨c3b0, H⟩ | ⟨c3b0, H⟩
 ·obtain rfl := Option.some.inj H
  try go_wp2
  go_ret
  exact ⟨EWW, BL⟩
 ·have H' := ah.mk H
  clear H
  try go_wp2
  go_loopg [1, 5] k (fun kq v1 v5 w' => ∃ (x1_1 : Int) (x5_1 : Int), v1 = .int .i64 x1_1 ∧ v5 = .int .i64 x5_1 ∧ ah (dQ.l0 kq l0 x1_1 x5_1 = some r) ∧ ah (kq ≤ k) ∧ ah (Below w.heap.size w w'))
  case atStart => exact ⟨(wrap64 (a1 - (l0.length : Int))), (0), EQ, EQ, H', ⟨Nat.le_refl _⟩, ⟨BL⟩⟩
  case round =>
   clear H'
   try clear c3
   try clear c3b0
   obtain ⟨x1_1, x5_1, rfl, rfl, HA, HK1, HB⟩ := hrel
   cases gk with
   | zero => exact absurd HA.out (by simp [dQ.l0])
   | succ k1 =>
    have H := HA.out
    clear HA
    simp only [dQ.l0] at H
    replace H := ifD H; rcases H with ⟨c4b0, H⟩ | ⟨c4b0, H⟩
    ·replace H := ifN H; obtain ⟨c5b0, H⟩ := H
     replace H := be H; obtain ⟨t111, A6, H⟩ := H
     have p110 : 0 ≤ (x5_1 : Int) := OD
     have q110 : x5_1 < (l0.length : Int) := OD
     obtain ⟨ad110, e110, hx110_0, hx110_1⟩ := Ce HR0.out x5_1 p110 q110
     cases e110
     try replace hx110_0 := (HB.out.cell (World.block_lt_of_cell? w _ hx110_0)).trans hx110_0
     try replace hx110_1 := (HB.out.cell (World.block_lt_of_cell? w _ hx110_1)).trans hx110_1
     replace p110 := eq_true p110
     replace q110 := eq_true q110
     replace H := ah.mk H
     go_wp2_with (first | ((with_reducible refine ay (f := 45) rfl ?_); refine bq (some 23) Tryz.func45 #[.agg #[.string ((kW l0 x5_1).f0), .int .i64 ((kW l0 x5_1).f1)], .int .i64 x1_1] ?_; (with_reducible refine (jA.calls ((kW l0 x5_1).f0) ((kW l0 x5_1).f1) x1_1 t111 _ A6.out).mono ?_); rintro e w9000 ⟨rfl, hb⟩; refine ⟨_, rfl, ?_⟩; replace HB := BS (w := w) hb; (try clear hb); refine bP ?_))
     refine Hide.mk ?_
     replace H := H.out
     replace H := ifD H; rcases H with ⟨c7b0, H⟩ | ⟨c7b0, H⟩
     ·obtain rfl := Option.some.inj H
      try go_wp2
      go_ret
      exact ⟨EWW, BL⟩
     ·have H' := ah.mk H
      clear H
      try go_wp2
      go_roundg k1
      case measure => have := HK1.out; omega
      case rel => exact ⟨(t111), (wrap64 (x5_1 + 1)), EQ, EQ, H', ⟨by have := HK1.out; omega⟩, ⟨BL⟩⟩
    ·obtain rfl := Option.some.inj H
     go_wp2
     go_ret
     exact ⟨EWW, BL⟩
def eu.l0 : Nat → List ByteArray → Int → Int → Option (Int)
 | 0, _, _, _ => none
 | k + 1, a, b, c => if c < (a.length : Int) then (if 0 ≤ c then (if (wrap64 (b - ((dD ByteArray.empty a c).size : Int))) < 0 then (some (-1)) else (eu.l0 k a (wrap64 (b - ((dD ByteArray.empty a c).size : Int))) (wrap64 (c + 1)))) else (none)) else (some b)
def eu.f (k : Nat) (l0 : List ByteArray) (a1 : Int) : Option (Int) := if (wrap64 (a1 - (l0.length : Int))) < 0 then (some (-1)) else (eu.l0 k l0 (wrap64 (a1 - (l0.length : Int))) 0)
theorem eu.calls (k : Nat) (A0 : Option Addr) (c0 : Nat) (l0 : List ByteArray) (a1 r : Int) (w : World) (hr0 : Kd.C Kd.string w A0 l0.length l0) (hc0 : l0.length ≤ c0) (h : eu.f k l0 a1 = some r) :
  Calls Tryz.prog 12 #[.slice A0 l0.length c0, .int .i64 a1] w fun e w' => e = .returned (.int .i64 r) ∧ aC w w' := by
 have HR0 := ah.mk hr0
 have HC0 := ah.mk hc0
 clear hr0 hc0
 unfold eu.f at h
 have H := h
 clear h
 replace H := ah.mk H
 go_enter Tryz.func12, Tryz.ntmps12
 replace H := H.out
 replace H := ifD H; rcases H with ⟨c3b0, H⟩ | ⟨c3b0, H⟩
 ·obtain rfl := Option.some.inj H
  try go_wp2
  go_ret
  exact ⟨by first | rfl | (simp; done) | (simp [*]; done), by repeat (first | exact aC.refl _ | apply aC.step)⟩
 ·have H' := ah.mk H
  clear H
  try go_wp2
  go_loopg [1, 5] k (fun kq v1 v5 w' => ∃ (x1_1 : Int) (x5_1 : Int), v1 = .int .i64 x1_1 ∧ v5 = .int .i64 x5_1 ∧ ah (eu.l0 kq l0 x1_1 x5_1 = some r) ∧ ah (kq ≤ k) ∧ aC w w')
  case atStart => exact ⟨(wrap64 (a1 - (l0.length : Int))), (0), EQ, EQ, H', ⟨Nat.le_refl _⟩, by repeat (first | exact aC.refl _ | apply aC.step)⟩
  case round =>
   clear H'
   try clear c3
   try clear c3b0
   obtain ⟨x1_1, x5_1, rfl, rfl, HA, HK1, ⟨m1, rfl⟩⟩ := hrel
   cases gk with
   | zero => exact absurd HA.out (by simp [eu.l0])
   | succ k1 =>
    have H := HA.out
    clear HA
    simp only [eu.l0] at H
    replace H := ifD H; rcases H with ⟨c4b0, H⟩ | ⟨c4b0, H⟩
    ·replace H := ifN H; obtain ⟨c5b0, H⟩ := H
     have p112 : 0 ≤ (x5_1 : Int) := OD
     have q112 : x5_1 < (l0.length : Int) := OD
     obtain ⟨ad112, e112, hx112_0⟩ := Kd.gG HR0.out x5_1 p112 q112
     cases e112
     replace p112 := eq_true p112
     replace q112 := eq_true q112
     replace H := ifD H; rcases H with ⟨c6b0, H⟩ | ⟨c6b0, H⟩
     ·obtain rfl := Option.some.inj H
      go_wp2
      go_ret
      exact ⟨by first | rfl | (simp; done) | (simp [*]; done), by repeat (first | exact aC.refl _ | apply aC.step)⟩
     ·have H' := ah.mk H
      clear H
      go_wp2
      go_roundg k1
      case measure => have := HK1.out; omega
      case rel => exact ⟨(wrap64 (x1_1 - ((dD ByteArray.empty l0 x5_1).size : Int))), (wrap64 (x5_1 + 1)), EQ, EQ, H', ⟨by have := HK1.out; omega⟩, by repeat (first | exact aC.refl _ | apply aC.step)⟩
    ·obtain rfl := Option.some.inj H
     go_wp2
     go_ret
     exact ⟨by first | rfl | (simp; done) | (simp [*]; done), by repeat (first | exact aC.refl _ | apply aC.step)⟩
def bD.f (a0 a1 a2 : Int) : Option (Bool) := if a0 ≥ a1 then (some (decide (a0 ≤ a2))) else (some false)
theorem bD.calls (a0 a1 a2 : Int) (r : Bool) (w : World) (h : bD.f a0 a1 a2 = some r) :
  Calls Tryz.prog 86 #[.int .i64 a0, .int .i64 a1, .int .i64 a2] w fun e w' => e = .returned (.bool r) ∧ aC w w' := by
 unfold bD.f at h
 have H := h
 clear h
 replace H := ah.mk H
 go_enter Tryz.func86, Tryz.ntmps86
 replace H := H.out
 by_cases c4 : a0 ≥ a1
 ·rw [if_pos c4] at H
  have c4b0 : decide (a1 ≤ a0) = true := decide_eq_true c4
  clear c4
  obtain rfl := Option.some.inj H
  try go_wp2
  go_ret
  exact ⟨by first | rfl | (simp; done) | (simp [*]; done), by repeat (first | exact aC.refl _ | apply aC.step)⟩
 ·rw [if_neg c4] at H
  have c4b0 : decide (a1 ≤ a0) = false := decide_eq_false c4
  clear c4
  obtain rfl := Option.some.inj H
  try go_wp2
  go_ret
  exact ⟨by first | rfl | (simp; done) | (simp [*]; done), by repeat (first | exact aC.refl _ | apply aC.step)⟩
mutual
def bI.j0 : Nat → Bool → Int → Int → ByteArray → Option (Bool)
 | 0, _, _, _, _ => none
 | k + 1, a, b, c, d => if a = true then (some false) else (bI.l0 k 0 b c d)
def bI.l0 : Nat → Int → Int → Int → ByteArray → Option (Bool)
 | 0, _, _, _, _ => none
 | k + 1, a, b, c, d => if a < (d.size : Int) then (if 0 ≤ a then (if (bt d a) = 35 then (bI.l0 k (wrap64 (a + 1)) b c d) else (if (bt d a) = 46 then (bI.l0 k (wrap64 (a + 1)) b c d) else (some false))) else (none)) else (some true)
end
def bI.f (k : Nat) (EU EW : Int) (EX : ByteArray) : Option (Bool) := (bD.f EU 2 6).bind fun t114 => (if t114 = true then ((bD.f EW 2 6).bind fun t115 => (if t115 = true then (bI.j0 k ((EX.size : Int) != (wrap64 (EU * EW))) EU EW EX) else (bI.j0 k true EU EW EX))) else (bI.j0 k true EU EW EX))
theorem bI.calls (k : Nat) (EU EW : Int) (EX : ByteArray) (r : Bool) (w : World) (h : bI.f k EU EW EX = some r) :
  Calls Tryz.prog 96 #[.agg #[.int .i64 EU, .int .i64 EW, .string EX]] w fun e w' => e = .returned (.bool r) ∧ Below w.heap.size w w' := by
 have hu32 := Tryz.underlying32
 have HB := ah.mk (Below.refl w.heap.size w)
 unfold bI.f at h
 have H := h
 clear h
 have HC2 := ah.mk H
 clear H
 go_enter Tryz.func96, Tryz.ntmps96
 go_upto_region 1 with (first | ((with_reducible refine aN (N := 1) rfl ?_); (try (refine jX (by rfl) ?_; dsimp only)); refine bC (N := 1) (cs := #[.int .i64 EU, .int .i64 EW, .string EX]) (t := 32) ?_; intro gb113 hg w3 hbox hb; have BK113 := ah.mk hbox; have GW113 := SZ (w := w) hg; have GE113 := GW113; replace HB := BS (w := w) hb; clear hb hbox hg))
 (try simp only [Act.put, List.setIfInBounds_toArray, List.set_cons_zero, List.set_cons_succ])
 go_cut [24] (fun v24 wc => ∃ (kq : Nat) (x24_1 : Bool), v24 = .bool x24_1 ∧ ah (bI.j0 kq x24_1 EU EW EX = some r) ∧ ah (kq ≤ k) ∧ ah (wc.heap[gb113]? = some (.cells #[.int .i64 EU, .int .i64 EW, .string EX] 32 (0, 0))) ∧ ah (Below w.heap.size w wc))
 case first =>
  have H := HC2.out
  clear HC2
  replace H := be H; obtain ⟨t114, A4, H⟩ := H
  obtain ⟨hcz8000_0, hcz8000_1, hcz8000_2, hfz8000_0, hfz8000_1, hfz8000_2⟩ := cz3 BK113.out
  replace H := ah.mk H
  go_wp2_with (first | ((with_reducible refine ay (f := 86) rfl ?_); refine bq (some 6) Tryz.func86 #[.int .i64 EU, .int .i64 2, .int .i64 6] ?_; (with_reducible refine (bD.calls EU 2 6 _ _ A4.out).mono ?_); rintro e w' ⟨rfl, ⟨nd, rfl⟩⟩; refine ⟨_, rfl, ?_⟩; refine bP ?_))
  refine Hide.mk ?_
  replace H := H.out
  replace H := ifB H; rcases H with ⟨rfl, H⟩ | ⟨rfl, H⟩
  ·replace H := be H; obtain ⟨t115, A6, H⟩ := H
   replace H := ah.mk H
   go_wp2_with (first | (go_at_call 86; (with_reducible refine (bD.calls EW 2 6 _ _ A6.out).mono ?_); rintro e w' ⟨rfl, ⟨nd, rfl⟩⟩; refine bP ?_))
   refine Hide.mk ?_
   replace H := H.out
   replace H := ifB H; rcases H with ⟨rfl, H⟩ | ⟨rfl, H⟩
   ·have H' := ah.mk H
    clear H
    try go_wp2
    go_meet
    case rel => exact ⟨_, (((EX.size : Int) != (wrap64 (EU * EW)))), EQ, H', ⟨by first | omega | exact Nat.le_refl _⟩, ⟨BK⟩, ⟨BL⟩⟩
   ·have H' := ah.mk H
    clear H
    try go_wp2
    go_meet
    case rel => exact ⟨_, (true), EQ, H', ⟨by first | omega | exact Nat.le_refl _⟩, ⟨BK⟩, ⟨BL⟩⟩
  ·have H' := ah.mk H
   clear H
   try go_wp2
   go_meet
   case rel => exact ⟨_, (true), EQ, H', ⟨by first | omega | exact Nat.le_refl _⟩, ⟨BK⟩, ⟨BL⟩⟩
 case rest =>
  clear HC2
  obtain ⟨kq, x24_1, rfl, HA, HJ1, BK113, HB⟩ := hcut
  cases kq with
  | zero => exact absurd HA.out (by simp [bI.j0])
  | succ kj1 =>
   have H := HA.out
   clear HA
   simp only [bI.j0] at H
   replace H := ifB H; rcases H with ⟨rfl, H⟩ | ⟨rfl, H⟩
   ·obtain rfl := Option.some.inj H
    go_wp2
    go_ret
    exact ⟨EWW, BL⟩
   ·have H' := ah.mk H
    clear H
    go_wp2
    go_loopg [3] kj1 (fun kq v3 w' => ∃ (x3_2 : Int), v3 = .int .i64 x3_2 ∧ ah (bI.l0 kq x3_2 EU EW EX = some r) ∧ ah (kq ≤ kj1) ∧ ah (w'.heap[gb113]? = some (.cells #[.int .i64 EU, .int .i64 EW, .string EX] 32 (0, 0))) ∧ ah (Below w.heap.size w w'))
    case atStart => exact ⟨(0), EQ, H', ⟨Nat.le_refl _⟩, ⟨BK⟩, ⟨BL⟩⟩
    case round =>
     clear H'
     try clear c11
     obtain ⟨x3_2, rfl, HA, HK2, BK113, HB⟩ := hrel
     cases gk with
     | zero => exact absurd HA.out (by simp [bI.l0])
     | succ k2 =>
      have H := HA.out
      clear HA
      simp only [bI.l0] at H
      obtain ⟨hcz7000_0, hcz7000_1, hcz7000_2, hfz7000_0, hfz7000_1, hfz7000_2⟩ := cz3 BK113.out
      replace H := ifD H; rcases H with ⟨c12b0, H⟩ | ⟨c12b0, H⟩
      ·replace H := ifN H; obtain ⟨c13b0, H⟩ := H
       have p14 : (0 ≤ (x3_2 : Int)) = True := OT
       have q14 : (x3_2 < (EX.size : Int)) = True := OT
       have hx14 := gI EX x3_2
       replace H := ifE H; rcases H with ⟨c15b0, c15b1, H⟩ | ⟨c15, c15b0, c15b1, H⟩
       ·have H' := ah.mk H
        clear H
        go_wp2
        go_roundg k2
        case measure => have := HJ1.out; have := HK2.out; omega
        case rel => exact ⟨(wrap64 (x3_2 + 1)), EQ, H', ⟨by have := HJ1.out; have := HK2.out; omega⟩, ⟨BK⟩, ⟨BL⟩⟩
       ·have p17 : (0 ≤ (x3_2 : Int)) = True := OT
        have q17 : (x3_2 < (EX.size : Int)) = True := OT
        have hx17 := gI EX x3_2
        replace H := ifE H; rcases H with ⟨c18b0, c18b1, H⟩ | ⟨c18, c18b0, c18b1, H⟩
        ·have H' := ah.mk H
         clear H
         go_wp2
         go_roundg k2
         case measure => have := HJ1.out; have := HK2.out; omega
         case rel => exact ⟨(wrap64 (x3_2 + 1)), EQ, H', ⟨by have := HJ1.out; have := HK2.out; omega⟩, ⟨BK⟩, ⟨BL⟩⟩
        ·obtain rfl := Option.some.inj H
         go_wp2
         go_ret
         exact ⟨EWW, BL⟩
      ·obtain rfl := Option.some.inj H
       go_wp2
       go_ret
       exact ⟨EWW, BL⟩
end Go.Proofs.YtnfiedfaaaphoaaGreat.PFnExactPuzzleCode
