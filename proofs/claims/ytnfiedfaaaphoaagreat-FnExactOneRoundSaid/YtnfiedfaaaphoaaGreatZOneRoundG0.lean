/- Walks of functions: what each computes. -/
import Derived.Test.YtnfiedfaaaphoaaGreatProg
import Derived.Below
import Derived.Deep.Draws
import Derived.Deep.AppendLies
import Derived.Maps.AppendAt
import Derived.OwnWalk
import Derived.Laws.BytesArg
import Derived.Laws.MakeOwn
import Derived.Laws.OwnMore
import Derived.Deep.OwnRows
import Derived.Tactics
import Derived.Lib.ConvBytes
import Derived.Laws.Slices
import Derived.WalkKit
import Derived.KernelRfl
import Derived.RowKit3
import Derived.Deep.LoopGhost
import Derived.Deep.QuietTactic
import Derived.BigQuiet
import Derived.WideLaws
import Derived.Deep.DeepCutAuto
import Derived.Deep.CutBlock
import Derived.Deep.RegionHeld3
import Derived.Laws.Rows
import Derived.Lib.AppendStr
import Derived.ArgAppend
import Derived.Laws.IdiomCopy
import Derived.OrdersHeld
import Derived.Laws.BitsLemmas
import Derived.RowKit
import Derived.Test.YtnfiedfaaaphoaaGreatZOneRoundW
import Derived.Test.YtnfiedfaaaphoaaGreatZOneRoundShelf
import Derived.Test.YtnfiedfaaaphoaaGreatZOneRoundHandSort
import Derived.Test.YtnfiedfaaaphoaaGreatZOneRoundHandForm
import Derived.Test.YtnfiedfaaaphoaaGreatZOneRoundHandAlone
import Derived.Test.YtnfiedfaaaphoaaGreatZOneRoundHandReach
import Derived.Test.YtnfiedfaaaphoaaGreatZOneRoundHandPut
namespace Go.Proofs.YtnfiedfaaaphoaaGreat.PFnExactOneRound
open Go.RowKit Go.Proofs.YtnfiedfaaaphoaaGreatW.PrintWords Go.Proofs.YtnfiedfaaaphoaaGreatW.PrintLast Go.Proofs.YtnfiedfaaaphoaaGreatW.PrintMore Go.Proofs.YtnfiedfaaaphoaaGreat.Sq
attribute [local go_sem] lK lG ng mY kD kE lJ lF
set_option linter.unusedVariables false
set_option linter.unusedSimpArgs false
set_option maxHeartbeats 8000000
set_option maxRecDepth 100000
def FB : Option Int → Value
 | none => .nilIface
 | some c => .iface 0 (.int .i64 c)
theorem l9 : FB none = .nilIface := rfl
theorem lY (c : Int) : FB (some c) = .iface 0 (.int .i64 c) := rfl
theorem info3 : (Tryz.prog.info? 3).map (fun i => (i.zero, i.size, i.bytes)) = some (some (.int .i64 0), 1, 8) := by kernel_rfl
theorem Ej : (Tryz.prog.info? 4).map (fun i => (i.zero, i.size, i.bytes)) = some (some (.bool false), 1, 1) := by kernel_rfl
theorem info5 : (Tryz.prog.info? 5).map (fun i => (i.zero, i.size, i.bytes)) = some (some (.int .u8 0), 1, 1) := by kernel_rfl
theorem zA : (Tryz.prog.info? 9).map (fun i => (i.zero, i.size, i.bytes)) = some (some (.string ⟨#[]⟩), 1, 16) := by kernel_rfl
theorem ES : (Tryz.prog.info? 43).map (fun i => (i.zero, i.size, i.bytes)) = some (some (.slice none 0 0), 1, 24) := by kernel_rfl
theorem EI : (Tryz.prog.info? 82).map (fun i => (i.zero, i.size, i.bytes)) = some (some (.agg #[(.int .i64 0), (.slice none 0 0)]), 2, 32) := by kernel_rfl
theorem Eo : (Tryz.prog.info? 84).map (fun i => (i.zero, i.size, i.bytes)) = some (some (.agg #[(.string ⟨#[]⟩), (.int .i64 0)]), 2, 24) := by kernel_rfl
theorem qz : (Tryz.prog.info? 115).map (fun i => (i.zero, i.size, i.bytes)) = some (some (.agg #[(.int .i64 0), (.bool false), (.int .i64 0), (.int .i64 0)]), 4, 32) := by kernel_rfl
theorem Ec : (Tryz.prog.info? 141).map (fun i => (i.zero, i.size, i.bytes)) = some (some (.agg #[(.int .i64 0), (.string ⟨#[]⟩), (.int .i64 0), (.int .i64 0)]), 4, 40) := by kernel_rfl
structure S71 where
 f0 : ByteArray
 f1 : Int
def z71 : S71 := ⟨(⟨#[]⟩ : ByteArray), (0 : Int)⟩
def k71 : Kd S71 := Kd.iso (Kd.pair Kd.string (Kd.int .i64)) (fun x : S71 => (x.f0, x.f1))
theorem CX {w : World} {x : S71} {cs : List Value} (h : k71.K w x cs) : cs = [.string x.f0, .int .i64 x.f1] := by
 obtain ⟨_, _, rfl, rfl, rfl⟩ := h
 exact rfl
def lC (xs : List S71) (i : Int) : S71 := xs.getD i.toNat z71
theorem Ce {w : World} {A : Option Addr} {n : Nat} {xs : List S71} (h : Kd.C k71 w A n xs) (i : Int) (h0 : 0 ≤ i) (h1 : i < n) : ∃ ad , A = some ad ∧ w.cell? (ad.add (i.toNat * 2)) = some (.string (lC xs i).f0) ∧ w.cell? ⟨(ad.add (i.toNat * 2)).block, (ad.add (i.toNat * 2)).off + 1, none⟩ = some (.int .i64 (lC xs i).f1) := by
 obtain ⟨ad, c, e, _, hK, hc0⟩ := Kd.sQ h z71 i h0 h1
 have hc : ∀ j u, c[j]? = some u → w.cell? (ad.add (i.toNat * 2 + j)) = some u := hc0
 obtain rfl := CX hK
 exact ⟨ad, e, hc 0 _ rfl, by rw [← jm _ _ 1 (by omega)]; exact hc 1 _ rfl⟩
structure S84 where
 f0 : ByteArray
 f1 : Int
def z84 : S84 := ⟨(⟨#[]⟩ : ByteArray), (0 : Int)⟩
def k84 : Kd S84 := Kd.iso (Kd.pair Kd.string (Kd.int .i64)) (fun x : S84 => (x.f0, x.f1))
theorem Dp {w : World} {x : S84} {cs : List Value} (h : k84.K w x cs) : cs = [.string x.f0, .int .i64 x.f1] := by
 obtain ⟨_, _, rfl, rfl, rfl⟩ := h
 exact rfl
theorem xL {w : World} {base : Nat} {ok : Nat → Prop} {x : S84} {cs : List Value} (h : k84.M w base ok x cs) : cs = [.string x.f0, .int .i64 x.f1] := by
 obtain ⟨_, _, rfl, rfl, rfl⟩ := h
 exact rfl
theorem Az (w : World) (base : Nat) (ok : Nat → Prop) (x : S84)  : k84.M w base ok x [.string x.f0, .int .i64 x.f1] := ⟨[.string x.f0], [.int .i64 x.f1], rfl, rfl, rfl⟩
def fQ (xs : List S84) (i : Int) : S84 := xs.getD i.toNat z84
theorem wD {w : World} {A : Option Addr} {n : Nat} {xs : List S84} (h : Kd.C k84 w A n xs) (i : Int) (h0 : 0 ≤ i) (h1 : i < n) : ∃ ad , A = some ad ∧ w.cell? (ad.add (i.toNat * 2)) = some (.string (fQ xs i).f0) ∧ w.cell? ⟨(ad.add (i.toNat * 2)).block, (ad.add (i.toNat * 2)).off + 1, none⟩ = some (.int .i64 (fQ xs i).f1) := by
 obtain ⟨ad, c, e, _, hK, hc0⟩ := Kd.sQ h z84 i h0 h1
 have hc : ∀ j u, c[j]? = some u → w.cell? (ad.add (i.toNat * 2 + j)) = some u := hc0
 obtain rfl := Dp hK
 exact ⟨ad, e, hc 0 _ rfl, by rw [← jm _ _ 1 (by omega)]; exact hc 1 _ rfl⟩
structure mP where
 f0 : Int
 f1 : ByteArray
 f2 : Int
 f3 : Int
def z143 : mP := ⟨(0 : Int), (⟨#[]⟩ : ByteArray), (0 : Int), (0 : Int)⟩
def xD : Kd mP := Kd.iso (Kd.pair (Kd.int .i64) (Kd.pair Kd.string (Kd.pair (Kd.int .i64) (Kd.int .i64)))) (fun x : mP => (x.f0, x.f1, x.f2, x.f3))
theorem BM {w : World} {x : mP} {cs : List Value} (h : xD.K w x cs) : cs = [.int .i64 x.f0, .string x.f1, .int .i64 x.f2, .int .i64 x.f3] := by
 obtain ⟨_, _, rfl, rfl, ⟨_, _, rfl, rfl, ⟨_, _, rfl, rfl, rfl⟩⟩⟩ := h
 exact rfl
def gK (xs : List mP) (i : Int) : mP := xs.getD i.toNat z143
theorem AQ {w : World} {A : Option Addr} {n : Nat} {xs : List mP} (h : Kd.C xD w A n xs) (i : Int) (h0 : 0 ≤ i) (h1 : i < n) : ∃ ad , A = some ad ∧ w.cell? (ad.add (i.toNat * 4)) = some (.int .i64 (gK xs i).f0) ∧ w.cell? ⟨(ad.add (i.toNat * 4)).block, (ad.add (i.toNat * 4)).off + 1, none⟩ = some (.string (gK xs i).f1) ∧ w.cell? ⟨(ad.add (i.toNat * 4)).block, (ad.add (i.toNat * 4)).off + 2, none⟩ = some (.int .i64 (gK xs i).f2) ∧ w.cell? ⟨(ad.add (i.toNat * 4)).block, (ad.add (i.toNat * 4)).off + 3, none⟩ = some (.int .i64 (gK xs i).f3) := by
 obtain ⟨ad, c, e, _, hK, hc0⟩ := Kd.sQ h z143 i h0 h1
 have hc : ∀ j u, c[j]? = some u → w.cell? (ad.add (i.toNat * 4 + j)) = some u := hc0
 obtain rfl := BM hK
 exact ⟨ad, e, hc 0 _ rfl, by rw [← jm _ _ 1 (by omega)]; exact hc 1 _ rfl, by rw [← jm _ _ 2 (by omega)]; exact hc 2 _ rfl, by rw [← jm _ _ 3 (by omega)]; exact hc 3 _ rfl⟩
structure S68 where
 f0 : Int
 f1 : (List mP)
def z68 : S68 := ⟨(0 : Int), ([] : List mP)⟩
def k68 : Kd S68 := Kd.iso (Kd.pair (Kd.int .i64) (Kd.slice 143 xD)) (fun x : S68 => (x.f0, x.f1))
theorem Ca {w : World} {x : S68} {cs : List Value} (h : k68.K w x cs) : ∃ A1 c1, cs = [.int .i64 x.f0, .slice A1 x.f1.length c1] ∧ x.f1.length ≤ c1 ∧ xD.C w A1 x.f1.length x.f1 := by
 obtain ⟨_, _, rfl, rfl, ⟨A1, c1, rfl, l1, g1⟩⟩ := h
 exact ⟨A1, c1, rfl, l1, g1⟩
def j6 (xs : List S68) (i : Int) : S68 := xs.getD i.toNat z68
theorem CQ {w : World} {A : Option Addr} {n : Nat} {xs : List S68} (h : Kd.C k68 w A n xs) (i : Int) (h0 : 0 ≤ i) (h1 : i < n) : ∃ ad A1 c1, A = some ad ∧ w.cell? (ad.add (i.toNat * 2)) = some (.int .i64 (j6 xs i).f0) ∧ w.cell? ⟨(ad.add (i.toNat * 2)).block, (ad.add (i.toNat * 2)).off + 1, none⟩ = some (.slice A1 (j6 xs i).f1.length c1) ∧ (j6 xs i).f1.length ≤ c1 ∧ xD.C w A1 (j6 xs i).f1.length (j6 xs i).f1 := by
 obtain ⟨ad, c, e, _, hK, hc0⟩ := Kd.sQ h z68 i h0 h1
 have hc : ∀ j u, c[j]? = some u → w.cell? (ad.add (i.toNat * 2 + j)) = some u := hc0
 obtain ⟨A1, c1, rfl, l1, g1⟩ := Ca hK
 exact ⟨ad, A1, c1, e, hc 0 _ rfl, by rw [← jm _ _ 1 (by omega)]; exact hc 1 _ rfl, l1, g1⟩
structure dJ where
 f0 : Int
 f1 : Bool
 f2 : Int
 f3 : Int
def EX : dJ := ⟨(0 : Int), false, (0 : Int), (0 : Int)⟩
def lW : Kd dJ := Kd.iso (Kd.pair (Kd.int .i64) (Kd.pair Kd.bool (Kd.pair (Kd.int .i64) (Kd.int .i64)))) (fun x : dJ => (x.f0, x.f1, x.f2, x.f3))
theorem BA {w : World} {x : dJ} {cs : List Value} (h : lW.K w x cs) : cs = [.int .i64 x.f0, .bool x.f1, .int .i64 x.f2, .int .i64 x.f3] := by
 obtain ⟨_, _, rfl, rfl, ⟨_, _, rfl, rfl, ⟨_, _, rfl, rfl, rfl⟩⟩⟩ := h
 exact rfl
theorem oP (w : World) (base : Nat) (ok : Nat → Prop) (x : dJ)  : lW.M w base ok x [.int .i64 x.f0, .bool x.f1, .int .i64 x.f2, .int .i64 x.f3] := ⟨[.int .i64 x.f0], [.bool x.f1, .int .i64 x.f2, .int .i64 x.f3], rfl, rfl, ⟨[.bool x.f1], [.int .i64 x.f2, .int .i64 x.f3], rfl, rfl, ⟨[.int .i64 x.f2], [.int .i64 x.f3], rfl, rfl, rfl⟩⟩⟩
def aM (xs : List dJ) (i : Int) : dJ := xs.getD i.toNat EX
theorem nu {w : World} {A : Option Addr} {n : Nat} {xs : List dJ} (h : Kd.C lW w A n xs) (i : Int) (h0 : 0 ≤ i) (h1 : i < n) : ∃ ad , A = some ad ∧ w.cell? (ad.add (i.toNat * 4)) = some (.int .i64 (aM xs i).f0) ∧ w.cell? ⟨(ad.add (i.toNat * 4)).block, (ad.add (i.toNat * 4)).off + 1, none⟩ = some (.bool (aM xs i).f1) ∧ w.cell? ⟨(ad.add (i.toNat * 4)).block, (ad.add (i.toNat * 4)).off + 2, none⟩ = some (.int .i64 (aM xs i).f2) ∧ w.cell? ⟨(ad.add (i.toNat * 4)).block, (ad.add (i.toNat * 4)).off + 3, none⟩ = some (.int .i64 (aM xs i).f3) := by
 obtain ⟨ad, c, e, _, hK, hc0⟩ := Kd.sQ h EX i h0 h1
 have hc : ∀ j u, c[j]? = some u → w.cell? (ad.add (i.toNat * 4 + j)) = some u := hc0
 obtain rfl := BA hK
 exact ⟨ad, e, hc 0 _ rfl, by rw [← jm _ _ 1 (by omega)]; exact hc 1 _ rfl, by rw [← jm _ _ 2 (by omega)]; exact hc 2 _ rfl, by rw [← jm _ _ 3 (by omega)]; exact hc 3 _ rfl⟩
structure dB where
 f0 : Int
 f1 : ByteArray
 f2 : Int
 f3 : Int
def z141 : dB := ⟨(0 : Int), (⟨#[]⟩ : ByteArray), (0 : Int), (0 : Int)⟩
def jw : Kd dB := Kd.iso (Kd.pair (Kd.int .i64) (Kd.pair Kd.string (Kd.pair (Kd.int .i64) (Kd.int .i64)))) (fun x : dB => (x.f0, x.f1, x.f2, x.f3))
theorem Bb {w : World} {x : dB} {cs : List Value} (h : jw.K w x cs) : cs = [.int .i64 x.f0, .string x.f1, .int .i64 x.f2, .int .i64 x.f3] := by
 obtain ⟨_, _, rfl, rfl, ⟨_, _, rfl, rfl, ⟨_, _, rfl, rfl, rfl⟩⟩⟩ := h
 exact rfl
theorem vI {w : World} {base : Nat} {ok : Nat → Prop} {x : dB} {cs : List Value} (h : jw.M w base ok x cs) : cs = [.int .i64 x.f0, .string x.f1, .int .i64 x.f2, .int .i64 x.f3] := by
 obtain ⟨_, _, rfl, rfl, ⟨_, _, rfl, rfl, ⟨_, _, rfl, rfl, rfl⟩⟩⟩ := h
 exact rfl
theorem zk (w : World) (base : Nat) (ok : Nat → Prop) (x : dB)  : jw.M w base ok x [.int .i64 x.f0, .string x.f1, .int .i64 x.f2, .int .i64 x.f3] := ⟨[.int .i64 x.f0], [.string x.f1, .int .i64 x.f2, .int .i64 x.f3], rfl, rfl, ⟨[.string x.f1], [.int .i64 x.f2, .int .i64 x.f3], rfl, rfl, ⟨[.int .i64 x.f2], [.int .i64 x.f3], rfl, rfl, rfl⟩⟩⟩
def aj (xs : List dB) (i : Int) : dB := xs.getD i.toNat z141
theorem jN {w : World} {A : Option Addr} {n : Nat} {xs : List dB} (h : Kd.C jw w A n xs) (i : Int) (h0 : 0 ≤ i) (h1 : i < n) : ∃ ad , A = some ad ∧ w.cell? (ad.add (i.toNat * 4)) = some (.int .i64 (aj xs i).f0) ∧ w.cell? ⟨(ad.add (i.toNat * 4)).block, (ad.add (i.toNat * 4)).off + 1, none⟩ = some (.string (aj xs i).f1) ∧ w.cell? ⟨(ad.add (i.toNat * 4)).block, (ad.add (i.toNat * 4)).off + 2, none⟩ = some (.int .i64 (aj xs i).f2) ∧ w.cell? ⟨(ad.add (i.toNat * 4)).block, (ad.add (i.toNat * 4)).off + 3, none⟩ = some (.int .i64 (aj xs i).f3) := by
 obtain ⟨ad, c, e, _, hK, hc0⟩ := Kd.sQ h z141 i h0 h1
 have hc : ∀ j u, c[j]? = some u → w.cell? (ad.add (i.toNat * 4 + j)) = some u := hc0
 obtain rfl := Bb hK
 exact ⟨ad, e, hc 0 _ rfl, by rw [← jm _ _ 1 (by omega)]; exact hc 1 _ rfl, by rw [← jm _ _ 2 (by omega)]; exact hc 2 _ rfl, by rw [← jm _ _ 3 (by omega)]; exact hc 3 _ rfl⟩
structure S82 where
 f0 : Int
 f1 : (List dB)
def z82 : S82 := ⟨(0 : Int), ([] : List dB)⟩
def k82 : Kd S82 := Kd.iso (Kd.pair (Kd.int .i64) (Kd.slice 141 jw)) (fun x : S82 => (x.f0, x.f1))
theorem Dh {w : World} {x : S82} {cs : List Value} (h : k82.K w x cs) : ∃ A1 c1, cs = [.int .i64 x.f0, .slice A1 x.f1.length c1] ∧ x.f1.length ≤ c1 ∧ jw.C w A1 x.f1.length x.f1 := by
 obtain ⟨_, _, rfl, rfl, ⟨A1, c1, rfl, l1, g1⟩⟩ := h
 exact ⟨A1, c1, rfl, l1, g1⟩
theorem xM {w : World} {base : Nat} {ok : Nat → Prop} {x : S82} {cs : List Value} (h : k82.M w base ok x cs) : ∃ v1, cs = [.int .i64 x.f0, v1] ∧ jw.R 141 w base ok v1 x.f1 := by
 obtain ⟨_, _, rfl, rfl, ⟨v1, rfl, g1⟩⟩ := h
 exact ⟨v1, rfl, g1⟩
theorem AO (w : World) (base : Nat) (ok : Nat → Prop) (x : S82) {v1 : Value} (g1 : jw.R 141 w base ok v1 x.f1) : k82.M w base ok x [.int .i64 x.f0, v1] := ⟨[.int .i64 x.f0], [v1], rfl, rfl, ⟨v1, rfl, g1⟩⟩
def fG (xs : List S82) (i : Int) : S82 := xs.getD i.toNat z82
theorem ug {w : World} {A : Option Addr} {n : Nat} {xs : List S82} (h : Kd.C k82 w A n xs) (i : Int) (h0 : 0 ≤ i) (h1 : i < n) : ∃ ad A1 c1, A = some ad ∧ w.cell? (ad.add (i.toNat * 2)) = some (.int .i64 (fG xs i).f0) ∧ w.cell? ⟨(ad.add (i.toNat * 2)).block, (ad.add (i.toNat * 2)).off + 1, none⟩ = some (.slice A1 (fG xs i).f1.length c1) ∧ (fG xs i).f1.length ≤ c1 ∧ jw.C w A1 (fG xs i).f1.length (fG xs i).f1 := by
 obtain ⟨ad, c, e, _, hK, hc0⟩ := Kd.sQ h z82 i h0 h1
 have hc : ∀ j u, c[j]? = some u → w.cell? (ad.add (i.toNat * 2 + j)) = some u := hc0
 obtain ⟨A1, c1, rfl, l1, g1⟩ := Dh hK
 exact ⟨ad, A1, c1, e, hc 0 _ rfl, by rw [← jm _ _ 1 (by omega)]; exact hc 1 _ rfl, l1, g1⟩
def iO (xs : List (List Int)) (i : Int) : (List Int) := xs.getD i.toNat ([] : List Int)
theorem yc {w : World} {A : Option Addr} {n : Nat} {xs : List (List Int)} (h : Kd.C (Kd.slice 3 (Kd.int .i64)) w A n xs) (i : Int) (h0 : 0 ≤ i) (h1 : i < n) : ∃ ad A0 c0, A = some ad ∧ w.cell? (ad.add i.toNat) = some (.slice A0 (iO xs i).length c0) ∧ (iO xs i).length ≤ c0 ∧ (Kd.int .i64).C w A0 (iO xs i).length (iO xs i) := by
 obtain ⟨ad, c, e, _, hK, hc0⟩ := Kd.sQ h ([] : List Int) i h0 h1
 have hc : ∀ j u, c[j]? = some u → w.cell? (ad.add (i.toNat * 1 + j)) = some u := hc0
 obtain ⟨A0, c0, rfl, l0, g0⟩ := hK
 exact ⟨ad, A0, c0, e, by have hq := hc 0 _ rfl; rwa [Nat.mul_one, Nat.add_zero] at hq, l0, g0⟩
def jr.f (FV : ByteArray) (FW a1 : Int) : Option (Int) := if (wrap64 (a1 - (FV.size : Int))) < 0 then (some (-1)) else (some (wrap64 (a1 - (FV.size : Int))))
theorem jr.calls (FV : ByteArray) (FW a1 r : Int) (w : World) (h : jr.f FV FW a1 = some r) :
  Calls Tryz.prog 45 #[.agg #[.string FV, .int .i64 FW], .int .i64 a1] w fun e w' => e = .returned (.int .i64 r) ∧ Below w.heap.size w w' := by
 have hu71 := Tryz.underlying71
 have HB := ah.mk (Below.refl w.heap.size w)
 unfold jr.f at h
 have H := h
 clear h
 replace H := ah.mk H
 go_enter Tryz.func45, Tryz.ntmps45
 go_wp2_with (first | ((with_reducible refine aJ (N := 2) rfl ?_); refine bg (N := 2) (cs := #[.string FV, .int .i64 FW]) (t := 71) ?_; intro gb101 hg w9000 hbox hb; have BK101 := ah.mk hbox; have GW101 := SZ (w := w) hg; have GE101 := GW101; replace HB := BS (w := w) hb; clear hb hbox hg; obtain ⟨hcz9001_0, hcz9001_1, hfz9001_0, hfz9001_1⟩ := cz2 BK101.out; refine bU ?_))
 refine Hide.mk ?_
 replace H := H.out
 replace H := ifD H; rcases H with ⟨c3b0, H⟩ | ⟨c3b0, H⟩
 ·obtain rfl := Option.some.inj H
  try go_wp2
  go_ret
  exact ⟨EWW, BL⟩
 ·obtain rfl := Option.some.inj H
  try go_wp2
  go_ret
  exact ⟨EWW, BL⟩
def dW.l0 : Nat → List (S71) → Int → Int → Option (Int)
 | 0, _, _, _ => none
 | k + 1, a, b, c => if c < (a.length : Int) then (if 0 ≤ c then ((jr.f ((lC a c).f0) ((lC a c).f1) b).bind fun d => (if d < 0 then (some (-1)) else (dW.l0 k a d (wrap64 (c + 1))))) else (none)) else (some b)
def dW.f (k : Nat) (l0 : List (S71)) (a1 : Int) : Option (Int) := if (wrap64 (a1 - (l0.length : Int))) < 0 then (some (-1)) else (dW.l0 k l0 (wrap64 (a1 - (l0.length : Int))) 0)
theorem dW.calls (k : Nat) (A0 : Option Addr) (c0 : Nat) (l0 : List (S71)) (a1 r : Int) (w : World) (hr0 : Kd.C k71 w A0 l0.length l0) (hc0 : l0.length ≤ c0) (h : dW.f k l0 a1 = some r) :
  Calls Tryz.prog 11 #[.slice A0 l0.length c0, .int .i64 a1] w fun e w' => e = .returned (.int .i64 r) ∧ Below w.heap.size w w' := by
 have hu71 := Tryz.underlying71
 have HR0 := ah.mk hr0
 have HC0 := ah.mk hc0
 clear hr0 hc0
 have HB := ah.mk (Below.refl w.heap.size w)
 unfold dW.f at h
 have H := h
 clear h
 replace H := ah.mk H
 go_enter Tryz.func11, Tryz.ntmps11
 replace H := H.out
 replace H := ifD H; rcases H with ⟨c3b0, H⟩ | ⟨c3b0, H⟩
 ·obtain rfl := Option.some.inj H
  try go_wp2
  go_ret
  exact ⟨EWW, BL⟩
 ·have H' := ah.mk H
  clear H
  try go_wp2
  go_loopg [1, 5] k (fun kq v1 v5 w' => ∃ (x1_1 : Int) (x5_1 : Int), v1 = .int .i64 x1_1 ∧ v5 = .int .i64 x5_1 ∧ ah (dW.l0 kq l0 x1_1 x5_1 = some r) ∧ ah (kq ≤ k) ∧ ah (Below w.heap.size w w'))
  case atStart => exact ⟨(wrap64 (a1 - (l0.length : Int))), (0), EQ, EQ, H', ⟨Nat.le_refl _⟩, ⟨BL⟩⟩
  case round =>
   clear H'
   try clear c3
   try clear c3b0
   obtain ⟨x1_1, x5_1, rfl, rfl, HA, HK1, HB⟩ := hrel
   cases gk with
   | zero => exact absurd HA.out (by simp [dW.l0])
   | succ k1 =>
    have H := HA.out
    clear HA
    simp only [dW.l0] at H
    replace H := ifD H; rcases H with ⟨c4b0, H⟩ | ⟨c4b0, H⟩
    ·replace H := ifN H; obtain ⟨c5b0, H⟩ := H
     replace H := be H; obtain ⟨t103, A6, H⟩ := H
     have p102 : 0 ≤ (x5_1 : Int) := OD
     have q102 : x5_1 < (l0.length : Int) := OD
     obtain ⟨ad102, e102, hx102_0, hx102_1⟩ := Ce HR0.out x5_1 p102 q102
     cases e102
     try replace hx102_0 := (HB.out.cell (World.block_lt_of_cell? w _ hx102_0)).trans hx102_0
     try replace hx102_1 := (HB.out.cell (World.block_lt_of_cell? w _ hx102_1)).trans hx102_1
     replace p102 := eq_true p102
     replace q102 := eq_true q102
     replace H := ah.mk H
     go_wp2_with (first | ((with_reducible refine ay (f := 45) rfl ?_); refine bE (some 23) Tryz.func45 #[.agg #[.string ((lC l0 x5_1).f0), .int .i64 ((lC l0 x5_1).f1)], .int .i64 x1_1] ?_; (with_reducible refine (jr.calls ((lC l0 x5_1).f0) ((lC l0 x5_1).f1) x1_1 t103 _ A6.out).mono ?_); rintro e w9000 ⟨rfl, hb⟩; refine ⟨_, rfl, ?_⟩; replace HB := BS (w := w) hb; (try clear hb); refine bU ?_))
     refine Hide.mk ?_
     replace H := H.out
     replace H := ifD H; rcases H with ⟨c7b0, H⟩ | ⟨c7b0, H⟩
     ·obtain rfl := Option.some.inj H
      try go_wp2
      go_ret
      exact ⟨EWW, BL⟩
     ·have H' := ah.mk H
      clear H
      try go_wp2
      go_roundg k1
      case measure => have := HK1.out; omega
      case rel => exact ⟨(t103), (wrap64 (x5_1 + 1)), EQ, EQ, H', ⟨by have := HK1.out; omega⟩, ⟨BL⟩⟩
    ·obtain rfl := Option.some.inj H
     go_wp2
     go_ret
     exact ⟨EWW, BL⟩
def eU.l0 : Nat → List ByteArray → Int → Int → Option (Int)
 | 0, _, _, _ => none
 | k + 1, a, b, c => if c < (a.length : Int) then (if 0 ≤ c then (if (wrap64 (b - ((fA ByteArray.empty a c).size : Int))) < 0 then (some (-1)) else (eU.l0 k a (wrap64 (b - ((fA ByteArray.empty a c).size : Int))) (wrap64 (c + 1)))) else (none)) else (some b)
def eU.f (k : Nat) (l0 : List ByteArray) (a1 : Int) : Option (Int) := if (wrap64 (a1 - (l0.length : Int))) < 0 then (some (-1)) else (eU.l0 k l0 (wrap64 (a1 - (l0.length : Int))) 0)
theorem eU.calls (k : Nat) (A0 : Option Addr) (c0 : Nat) (l0 : List ByteArray) (a1 r : Int) (w : World) (hr0 : Kd.C Kd.string w A0 l0.length l0) (hc0 : l0.length ≤ c0) (h : eU.f k l0 a1 = some r) :
  Calls Tryz.prog 12 #[.slice A0 l0.length c0, .int .i64 a1] w fun e w' => e = .returned (.int .i64 r) ∧ cK w w' := by
 have HR0 := ah.mk hr0
 have HC0 := ah.mk hc0
 clear hr0 hc0
 unfold eU.f at h
 have H := h
 clear h
 replace H := ah.mk H
 go_enter Tryz.func12, Tryz.ntmps12
 replace H := H.out
 replace H := ifD H; rcases H with ⟨c3b0, H⟩ | ⟨c3b0, H⟩
 ·obtain rfl := Option.some.inj H
  try go_wp2
  go_ret
  exact ⟨EQ, DR⟩
 ·have H' := ah.mk H
  clear H
  try go_wp2
  go_loopg [1, 5] k (fun kq v1 v5 w' => ∃ (x1_1 : Int) (x5_1 : Int), v1 = .int .i64 x1_1 ∧ v5 = .int .i64 x5_1 ∧ ah (eU.l0 kq l0 x1_1 x5_1 = some r) ∧ ah (kq ≤ k) ∧ cK w w')
  case atStart => exact ⟨(wrap64 (a1 - (l0.length : Int))), (0), EQ, EQ, H', ⟨Nat.le_refl _⟩, DR⟩
  case round =>
   clear H'
   try clear c3
   try clear c3b0
   obtain ⟨x1_1, x5_1, rfl, rfl, HA, HK1, ⟨m1, rfl⟩⟩ := hrel
   cases gk with
   | zero => exact absurd HA.out (by simp [eU.l0])
   | succ k1 =>
    have H := HA.out
    clear HA
    simp only [eU.l0] at H
    replace H := ifD H; rcases H with ⟨c4b0, H⟩ | ⟨c4b0, H⟩
    ·replace H := ifN H; obtain ⟨c5b0, H⟩ := H
     have p104 : 0 ≤ (x5_1 : Int) := OD
     have q104 : x5_1 < (l0.length : Int) := OD
     obtain ⟨ad104, e104, hx104_0⟩ := Kd.jo HR0.out x5_1 p104 q104
     cases e104
     replace p104 := eq_true p104
     replace q104 := eq_true q104
     replace H := ifD H; rcases H with ⟨c6b0, H⟩ | ⟨c6b0, H⟩
     ·obtain rfl := Option.some.inj H
      go_wp2
      go_ret
      exact ⟨EQ, DR⟩
     ·have H' := ah.mk H
      clear H
      go_wp2
      go_roundg k1
      case measure => have := HK1.out; omega
      case rel => exact ⟨(wrap64 (x1_1 - ((fA ByteArray.empty l0 x5_1).size : Int))), (wrap64 (x5_1 + 1)), EQ, EQ, H', ⟨by have := HK1.out; omega⟩, DR⟩
    ·obtain rfl := Option.some.inj H
     go_wp2
     go_ret
     exact ⟨EQ, DR⟩
def kL.f (FV : ByteArray) (FW : Int) : Option (ByteArray × Int) := some (FV, FW)
theorem kL.calls (FV : ByteArray) (FW : Int) (r1 : ByteArray) (r2 : Int) (w : World) (h : kL.f FV FW = some (r1, r2)) :
  Calls Tryz.prog 54 #[.agg #[.string FV, .int .i64 FW]] w fun e w' => e = .returned (.agg #[.string r1, .int .i64 r2]) ∧ Below w.heap.size w w' := by
 have hu71 := Tryz.underlying71
 have hu84 := Tryz.underlying84
 have HB := ah.mk (Below.refl w.heap.size w)
 have H : (some (FV, FW)) = some (r1, r2) := h
 clear h
 simp only [Option.some.injEq, Prod.mk.injEq] at H
 obtain ⟨rfl, rfl⟩ := H
 go_enter Tryz.func54, Tryz.ntmps54
 go_wp2_with (first | ((with_reducible refine aJ (N := 1) rfl ?_); refine bg (N := 1) (cs := #[.string FV, .int .i64 FW]) (t := 71) ?_; intro gb105 hg w2 hbox hb; have BK105 := ah.mk hbox; have GW105 := SZ (w := w) hg; have GE105 := GW105; replace HB := BS (w := w) hb; clear hb hbox hg) | ((with_reducible refine aJ (N := 2) rfl ?_); refine bg (N := 2) (cs := #[.string (⟨#[]⟩ : ByteArray), .int .i64 0]) (t := 84) ?_; intro gb106 hg w3 hbox hb; have n0_ := KB BK105 hb; have n1_ := BS (w := w) hb; have n2_ := ah.mk (hbox); have n3_ := SZ (w := w) hg; have n4_ := SZ (w := w) hg; have n5_ := NL BK105 hg; have n6_ := NG BK105 hg; clear BK105 HB; have BK105 := n0_; have HB := n1_; have BK106 := n2_; have GW106 := n3_; have GE106 := n4_; have NB105_106 := n5_; have NB106_105 := n6_; clear n0_ n1_ n2_ n3_ n4_ n5_ n6_; clear hb hbox hg) | ((with_reducible refine aJ (N := 3) rfl ?_); refine bg (N := 3) (cs := #[.string (⟨#[]⟩ : ByteArray), .int .i64 0]) (t := 84) ?_; intro gb107 hg w4 hbox hb; have n0_ := KB BK105 hb; have n1_ := KB BK106 hb; have n2_ := BS (w := w) hb; have n3_ := ah.mk (hbox); have n4_ := SZ (w := w) hg; have n5_ := SZ (w := w) hg; have n6_ := NL BK105 hg; have n7_ := NG BK105 hg; have n8_ := NL BK106 hg; have n9_ := NG BK106 hg; clear BK105 BK106 HB; have BK105 := n0_; have BK106 := n1_; have HB := n2_; have BK107 := n3_; have GW107 := n4_; have GE107 := n5_; have NB105_107 := n6_; have NB107_105 := n7_; have NB106_107 := n8_; have NB107_106 := n9_; clear n0_ n1_ n2_ n3_ n4_ n5_ n6_ n7_ n8_ n9_; clear hb hbox hg; have hnb5 := NB105_106.out; have hnc5 := NB106_105.out; have hnb6 := NB105_107.out; have hnc6 := NB107_105.out; obtain ⟨hcz7_0, hcz7_1, hfz7_0, hfz7_1⟩ := cz2 BK105.out; have hnb8 := NB107_106.out; have hnc8 := NB106_107.out; obtain ⟨hcz9_0, hcz9_1, hfz9_0, hfz9_1⟩ := cz2 BK107.out; obtain ⟨hcz10_0, hcz10_1, hfz10_0, hfz10_1⟩ := cz2 BK106.out))
 refine bodyPost_ret (results_cell_row rfl _ _ gb106 84 #[.string FV, .int .i64 FW] (0, 0) _ rfl (by (with_reducible repeat (first | refine aG ?_ _ | refine aH ?_ | refine aD ?_ _)); refine aY (cs := #[.string FV, .int .i64 0]) ?_ 1 _ rfl; (with_reducible repeat (first | refine aG ?_ _ | refine aH ?_ | refine aD ?_ _)); refine aY (cs := #[.string (⟨#[]⟩ : ByteArray), .int .i64 0]) ?_ 0 _ rfl; (with_reducible repeat (first | refine aG ?_ _ | refine aH ?_ | refine aD ?_ _)); refine dN ?_ NB106_107.out _; (with_reducible repeat (first | refine aG ?_ _ | refine aH ?_ | refine aD ?_ _)); refine dN ?_ NB106_107.out _; (with_reducible repeat (first | refine aG ?_ _ | refine aH ?_ | refine aD ?_ _)); exact BK106.out) Tryz.underlying84 rfl (by kernel_rfl)) rfl ?_
 exact ⟨EWW, BL⟩
def cZ.l0 : Nat → List (S71) → List (S84) → Int → Option ((List (S84)))
 | 0, _, _, _ => none
 | k + 1, a, b, c => if c < (a.length : Int) then (if 0 ≤ c then ((kL.f ((lC a c).f0) ((lC a c).f1)).bind fun d => (if c < (b.length : Int) then (cZ.l0 k a (b.set (c : Int).toNat (⟨d.1, d.2⟩ : S84)) (wrap64 (c + 1))) else (none))) else (none)) else (some b)
def cZ.f (k : Nat) (l0 : List (S71)) : Option ((List (S84))) := if 0 ≤ (l0.length : Int) then (if ((l0.length : Int) : Int).toNat ≤ 11728124029610 then (cZ.l0 k l0 (List.replicate ((l0.length : Int) : Int).toNat z84) 0) else (none)) else (none)
theorem cZ.calls (k : Nat) (A0 : Option Addr) (c0 : Nat) (l0 : List (S71)) (r : List (S84)) (w : World) (hr0 : Kd.C k71 w A0 l0.length l0) (hc0 : l0.length ≤ c0) (h : cZ.f k l0 = some r) :
  Calls Tryz.prog 16 #[.slice A0 l0.length c0] w fun e w' => ∃ v0_ : Value, e = .returned (v0_) ∧ Kd.R k84 84 w' w.heap.size (fun _ => True) v0_ r ∧ Below w.heap.size w w' := by
 have hu71 := Tryz.underlying71
 have hu84 := Tryz.underlying84
 have HR0 := ah.mk hr0
 have HC0 := ah.mk hc0
 clear hr0 hc0
 have HB := ah.mk (Below.refl w.heap.size w)
 unfold cZ.f at h
 have H := h
 clear h
 replace H := ifP H; obtain ⟨c2, H⟩ := H
 have c2b0 := eq_true c2
 have c2b1 : decide (0 ≤ (l0.length : Int)) = true := decide_eq_true c2
 clear c2
 replace H := ifP H; obtain ⟨c3, H⟩ := H
 have c3b0 := eq_true c3
 have c3b1 : decide (((l0.length : Int) : Int).toNat ≤ 11728124029610) = true := decide_eq_true c3
 clear c3
 obtain ⟨y108, hy108⟩ : ∃ y_ : List (S84), y_ = (List.replicate ((l0.length : Int) : Int).toNat z84) := ⟨_, rfl⟩
 replace H : (cZ.l0 k l0 y108 0) = some r := by first | (rw [hy108]; with_reducible exact H) | (have H2_ := (Option.bind_some _ _).symm.trans H; rw [hy108]; with_reducible exact H2_) | (have H2_ := (Option.bind_some _ _).symm.trans H; with_reducible exact H2_) | with_reducible exact H | (rw [hy108]; exact H) | exact H
 have Ny108 := ah.mk hy108
 clear hy108
 have H' := ah.mk H
 clear H
 go_enter Tryz.func16, Tryz.ntmps16
 go_wp2_with (first | ((with_reducible refine aJ (N := 7) rfl ?_); refine Kd.tC k84 _ 84 rfl (N := 7) rfl 36 _ _ rfl (l0.length : Int) rfl rfl Tryz.underlying36 (.agg #[(.string ⟨#[]⟩), (.int .i64 0)]) 24 Eo rfl (by decide) (by omega) z84 (ok := fun _ => True) (okp := fun _ => True) (Az _ _ _ z84 ) (fun _ hk => hk) trivial (OD) (Nat.le_trans (Nat.mul_le_mul_right _ (OD : (l0.length : Int).toNat ≤ 11728124029610)) (by omega)) (Below.refl _ _) (Nat.le_refl _) ?_; intro v109 w9000 ho5 hb hg_ hnew_; clear hg_ hnew_; (first | rw [← Ny108.out] at ho5 | (simp only [Int.reduceToNat] at ho5; rw [← Ny108.out] at ho5)); have n0_ := ah.mk (Kd.cO ho5 (aQ BL)); replace HB := BS (w := w) hb; have HO110 := n0_; clear n0_; clear hb ho5))
 go_loopg [4] k (fun kq v4 w' => ∃ (x3_1 : List (S84)) (x4_1 : Int), v4 = .int .i64 x4_1 ∧ ah (cZ.l0 kq l0 x3_1 x4_1 = some r) ∧ ah (kq ≤ k) ∧ ah (Kd.R k84 84 w' w.heap.size (fun _ => True) v109 x3_1) ∧ ah (Below w.heap.size w w'))
 case atStart => exact ⟨(y108), (0), EQ, H', ⟨Nat.le_refl _⟩, ⟨(RR HO110)⟩, ⟨BL⟩⟩
 case round =>
  clear H'
  try clear c2
  try clear c2b0
  try clear c2b1
  try clear c3
  try clear c3b0
  try clear c3b1
  obtain ⟨x3_1, x4_1, rfl, HA, HK1, HO_3, HB⟩ := hrel
  cases gk with
  | zero => exact absurd HA.out (by simp [cZ.l0])
  | succ k1 =>
   have H := HA.out
   clear HA
   simp only [cZ.l0] at H
   replace H := ifD H; rcases H with ⟨c6b0, H⟩ | ⟨c6b0, H⟩
   ·replace H := ifN H; obtain ⟨c7b0, H⟩ := H
    replace H := be H; obtain ⟨⟨t112, t113⟩, A8, H⟩ := H
    dsimp only at H
    replace H := ifN H; obtain ⟨c9b0, H⟩ := H
    obtain ⟨y114, hy114⟩ : ∃ y_ : List (S84), y_ = (x3_1.set (x4_1 : Int).toNat (⟨t112, t113⟩ : S84)) := ⟨_, rfl⟩
    replace H : (cZ.l0 k1 l0 y114 (wrap64 (x4_1 + 1))) = some r := by first | (rw [hy114]; with_reducible exact H) | (have H2_ := (Option.bind_some _ _).symm.trans H; rw [hy114]; with_reducible exact H2_) | (have H2_ := (Option.bind_some _ _).symm.trans H; with_reducible exact H2_) | with_reducible exact H | (rw [hy114]; exact H) | exact H
    have Ny114 := ah.mk hy114
    clear hy114
    have H' := ah.mk H
    clear H
    have p111 : 0 ≤ (x4_1 : Int) := OD
    have q111 : x4_1 < (l0.length : Int) := OD
    obtain ⟨ad111, e111, hx111_0, hx111_1⟩ := Ce HR0.out x4_1 p111 q111
    cases e111
    try replace hx111_0 := (HB.out.cell (World.block_lt_of_cell? w _ hx111_0)).trans hx111_0
    try replace hx111_1 := (HB.out.cell (World.block_lt_of_cell? w _ hx111_1)).trans hx111_1
    replace p111 := eq_true p111
    replace q111 := eq_true q111
    go_wp2_with (first | ((with_reducible refine ay (f := 54) rfl ?_); refine bE (some 20) Tryz.func54 #[.agg #[.string ((lC l0 x4_1).f0), .int .i64 ((lC l0 x4_1).f1)]] ?_; (with_reducible refine (kL.calls ((lC l0 x4_1).f0) ((lC l0 x4_1).f1) t112 t113 _ A8.out).mono ?_); rintro e w9001 ⟨rfl, hb⟩; refine ⟨_, rfl, ?_⟩; replace HO_3 := RB HO_3 hb; replace HB := BS (w := w) hb; (try clear hb); (try clear hk); have p10 : 0 ≤ (x4_1 : Int) := OD; have q10 : (x4_1 : Int) < ((x3_1.length : Int) : Int) := OD; obtain ⟨go10, co9002, eo9002, gb10, gl10, cl10, HG10⟩ := Kd.qm HO_3.out (by omega); (first | cases eo9002 | (injection eo9002 with ea_ en_ ec_; (first | subst ea_ | (injection ea_ with ea_; subst ea_)); subst ec_; clear en_)); have GB10 := ah.mk gb10; have GG10 := ah.mk HG10; clear gb10 gl10 HG10; obtain ⟨ce10, hcl10, hM10, hcc10, hfr10⟩ := Kd.tu HO_3.out z84 (x4_1 : Int) p10 q10; obtain rfl := xL hM10; have hx10_0 : w9001.cell? ⟨go10, (x4_1 : Int).toNat * 2, none⟩ = some (.string ((fQ x3_1 x4_1).f0)) := hcc10 0 _ rfl; have hx10_1 : w9001.cell? ⟨go10, (x4_1 : Int).toNat * 2 + 1, none⟩ = some (.int .i64 ((fQ x3_1 x4_1).f1)) := hcc10 1 _ rfl; have hf10_0 : w9001.frozen? ⟨go10, (x4_1 : Int).toNat * 2, none⟩ = false := hfr10 0; have hf10_1 : w9001.frozen? ⟨go10, (x4_1 : Int).toNat * 2 + 1, none⟩ = false := hfr10 1; clear hcl10 hcc10 hfr10 hM10; replace p10 := eq_true p10; replace q10 := eq_true q10; have HX12 := ah.mk (show Kd.R k84 84 w9001 w.heap.size (fun _ => True) (.slice (some ⟨go10, 0, none⟩) x3_1.length co9002) x3_1 from (RR HO_3)); obtain ⟨ce12, hcl12, hM12, hcc12, hfr12⟩ := Kd.tu HX12.out z84 (x4_1 : Int) (OD) (by have h_ : (x4_1 : Int) < ((x3_1.length : Int) : Int) := OD; first | exact h_ | (have e_ := (Kd.bP HO_3.out).1; omega) | simpa using h_); obtain rfl := xL hM12; have HP12 := Kd.CY HX12.out (x4_1 : Int) (OD) (by have h_ : (x4_1 : Int) < ((x3_1.length : Int) : Int) := OD; first | exact h_ | (have e_ := (Kd.bP HO_3.out).1; omega) | simpa using h_) (seg := [.string t112, .int .i64 t113]) (j := 0) hcl12 hcc12 (show 2 ≤ 2 from by decide) (x' := (⟨t112, t113⟩ : S84)) (Az _ _ _ (⟨t112, t113⟩ : S84) ) (fun _ hk => hk); have hx12_0 := hcc12 0 _ rfl; (try simp only [show (k84).sz = 2 from rfl, Nat.mul_one, Nat.add_zero] at hx12_0); have hf12_0 := hfr12 0; (try simp only [show (k84).sz = 2 from rfl, Nat.mul_one, Nat.add_zero] at hf12_0); have hx12_1 := hcc12 1 _ rfl; (try simp only [show (k84).sz = 2 from rfl, Nat.mul_one, Nat.add_zero] at hx12_1); have hf12_1 := hfr12 1; (try simp only [show (k84).sz = 2 from rfl, Nat.mul_one, Nat.add_zero] at hf12_1); clear hcl12 hcc12 hfr12 hM12) | ((with_reducible refine jZ (t := 84) (p := 21) rfl ?_); refine jC (t := 84) (p := 21) (v := ?vo_w13) (w1 := ((w9001.setCell ⟨go10, (x4_1 : Int).toNat * 2, none⟩ (.string t112)).setCell ⟨go10, (x4_1 : Int).toNat * 2 + 1, none⟩ (.int .i64 t113))) ?hg ?ho ?hn ?hr ?_; (case ho => rfl); (case hg => rfl); (case hn => rfl); (case hr => first | (go_simp; done) | (go_simp; rfl)); intro w9003 hw; have hg : w9001.grownBy w9003 (some go10) := (by rw [hw]; exact HP12.2); have hp_ : Kd.R k84 84 w9003 w.heap.size (fun _ => True) (.slice (some ⟨go10, 0, none⟩) x3_1.length co9002) y114 := (by rw [hw, Ny114.out]; exact HP12.1); clear HP12; have n0_ := ah.mk (hp_); have n1_ := ah.mk ((by rw [hw]; exact gZ (gZ (HB.out) GB10.out) GB10.out : Below w.heap.size w w9003)); clear HO_3 HB; have HO_3 := n0_; have HB := n1_; clear n0_ n1_; clear hg hw hp_))
    go_roundg k1
    case measure => have := HK1.out; omega
    case rel => exact ⟨(y114), (wrap64 (x4_1 + 1)), EQ, H', ⟨by have := HK1.out; omega⟩, ⟨(RR HO_3)⟩, ⟨BL⟩⟩
   ·obtain rfl := Option.some.inj H
    go_wp2
    go_ret
    exact ⟨_, EWW, (RR HO_3), BL⟩
def dA.l0 : Nat → List ByteArray → List ByteArray → Int → Option (List ByteArray)
 | 0, _, _, _ => none
 | k + 1, a, b, c => if c < (a.length : Int) then (if 0 ≤ c then (if c < (b.length : Int) then (dA.l0 k a (b.set (c : Int).toNat (fA ByteArray.empty a c)) (wrap64 (c + 1))) else (none)) else (none)) else (some b)
def dA.f (k : Nat) (l0 : List ByteArray) : Option (List ByteArray) := if 0 ≤ (l0.length : Int) then (if ((l0.length : Int) : Int).toNat ≤ 17592186044416 then (dA.l0 k l0 (List.replicate ((l0.length : Int) : Int).toNat (⟨#[]⟩ : ByteArray)) 0) else (none)) else (none)
theorem dA.calls (k : Nat) (A0 : Option Addr) (c0 : Nat) (l0 r : List ByteArray) (w : World) (hr0 : Kd.C Kd.string w A0 l0.length l0) (hc0 : l0.length ≤ c0) (h : dA.f k l0 = some r) :
  Calls Tryz.prog 17 #[.slice A0 l0.length c0] w fun e w' => ∃ v0_ : Value, e = .returned (v0_) ∧ Kd.R Kd.string 9 w' w.heap.size (fun _ => True) v0_ r ∧ Below w.heap.size w w' := by
 have HR0 := ah.mk hr0
 have HC0 := ah.mk hc0
 clear hr0 hc0
 have HB := ah.mk (Below.refl w.heap.size w)
 unfold dA.f at h
 have H := h
 clear h
 replace H := ifP H; obtain ⟨c2, H⟩ := H
 have c2b0 := eq_true c2
 have c2b1 : decide (0 ≤ (l0.length : Int)) = true := decide_eq_true c2
 clear c2
 replace H := ifP H; obtain ⟨c3, H⟩ := H
 have c3b0 := eq_true c3
 have c3b1 : decide (((l0.length : Int) : Int).toNat ≤ 17592186044416) = true := decide_eq_true c3
 clear c3
 obtain ⟨y115, hy115⟩ : ∃ y_ : List ByteArray, y_ = (List.replicate ((l0.length : Int) : Int).toNat (⟨#[]⟩ : ByteArray)) := ⟨_, rfl⟩
 replace H : (dA.l0 k l0 y115 0) = some r := by first | (rw [hy115]; with_reducible exact H) | (have H2_ := (Option.bind_some _ _).symm.trans H; rw [hy115]; with_reducible exact H2_) | (have H2_ := (Option.bind_some _ _).symm.trans H; with_reducible exact H2_) | with_reducible exact H | (rw [hy115]; exact H) | exact H
 have Ny115 := ah.mk hy115
 clear hy115
 have H' := ah.mk H
 clear H
 go_enter Tryz.func17, Tryz.ntmps17
 go_wp2_with (first | ((with_reducible refine aJ (N := 7) rfl ?_); refine Kd.tC Kd.string _ 9 rfl (N := 7) rfl 26 _ _ rfl (l0.length : Int) rfl rfl Tryz.underlying26 (.string ⟨#[]⟩) 16 zA rfl (by decide) (by omega) (⟨#[]⟩ : ByteArray) (ok := fun _ => True) (okp := fun _ => True) rfl (fun _ hk => hk) trivial (OD) (Nat.le_trans (Nat.mul_le_mul_right _ (OD : (l0.length : Int).toNat ≤ 17592186044416)) (by omega)) (Below.refl _ _) (Nat.le_refl _) ?_; intro v116 w9000 ho5 hb hg_ hnew_; clear hg_ hnew_; (first | rw [← Ny115.out] at ho5 | (simp only [Int.reduceToNat] at ho5; rw [← Ny115.out] at ho5)); have n0_ := ah.mk (Kd.cO ho5 (aQ BL)); replace HB := BS (w := w) hb; have HO117 := n0_; clear n0_; clear hb ho5))
 go_loopg [4] k (fun kq v4 w' => ∃ (x3_1 : List ByteArray) (x4_1 : Int), v4 = .int .i64 x4_1 ∧ ah (dA.l0 kq l0 x3_1 x4_1 = some r) ∧ ah (kq ≤ k) ∧ ah (Kd.R Kd.string 9 w' w.heap.size (fun _ => True) v116 x3_1) ∧ ah (Below w.heap.size w w'))
 case atStart => exact ⟨(y115), (0), EQ, H', ⟨Nat.le_refl _⟩, ⟨(RR HO117)⟩, ⟨BL⟩⟩
 case round =>
  clear H'
  try clear c2
  try clear c2b0
  try clear c2b1
  try clear c3
  try clear c3b0
  try clear c3b1
  obtain ⟨x3_1, x4_1, rfl, HA, HK1, HO_3, HB⟩ := hrel
  cases gk with
  | zero => exact absurd HA.out (by simp [dA.l0])
  | succ k1 =>
   have H := HA.out
   clear HA
   simp only [dA.l0] at H
   replace H := ifD H; rcases H with ⟨c6b0, H⟩ | ⟨c6b0, H⟩
   ·replace H := ifN H; obtain ⟨c7b0, H⟩ := H
    replace H := ifN H; obtain ⟨c8b0, H⟩ := H
    obtain ⟨y119, hy119⟩ : ∃ y_ : List ByteArray, y_ = (x3_1.set (x4_1 : Int).toNat (fA ByteArray.empty l0 x4_1)) := ⟨_, rfl⟩
    replace H : (dA.l0 k1 l0 y119 (wrap64 (x4_1 + 1))) = some r := by first | (rw [hy119]; with_reducible exact H) | (have H2_ := (Option.bind_some _ _).symm.trans H; rw [hy119]; with_reducible exact H2_) | (have H2_ := (Option.bind_some _ _).symm.trans H; with_reducible exact H2_) | with_reducible exact H | (rw [hy119]; exact H) | exact H
    have Ny119 := ah.mk hy119
    clear hy119
    have H' := ah.mk H
    clear H
    have p118 : 0 ≤ (x4_1 : Int) := OD
    have q118 : x4_1 < (l0.length : Int) := OD
    obtain ⟨ad118, e118, hx118_0⟩ := Kd.jo HR0.out x4_1 p118 q118
    cases e118
    try replace hx118_0 := (HB.out.cell (World.block_lt_of_cell? w _ hx118_0)).trans hx118_0
    replace p118 := eq_true p118
    replace q118 := eq_true q118
    have p9 : 0 ≤ (x4_1 : Int) := OD
    have q9 : (x4_1 : Int) < ((x3_1.length : Int) : Int) := OD
    obtain ⟨go9, co9001, eo9001, gb9, gl9, cl9, HG9⟩ := Kd.qm HO_3.out (by omega)
    (first | cases eo9001 | (injection eo9001 with ea_ en_ ec_; (first | subst ea_ | (injection ea_ with ea_; subst ea_)); subst ec_; clear en_))
    have GB9 := ah.mk gb9
    have GG9 := ah.mk HG9
    clear gb9 gl9 HG9
    obtain ⟨hx9_0, hf9_0⟩ := Kd.mo (⟨#[]⟩ : ByteArray) HO_3.out (x4_1 : Int) p9 q9
    replace p9 := eq_true p9
    replace q9 := eq_true q9
    have HP10 := Kd.uz HO_3.out (x4_1 : Int) (fA ByteArray.empty l0 x4_1)
    go_wp2_with (first | ((with_reducible refine jZ (t := 9) (p := 20) rfl ?_); refine jC (t := 9) (p := 20) (v := ?vo_w11) (w1 := (wr.setCell ⟨go9, (x4_1 : Int).toNat, none⟩ (.string (fA ByteArray.empty l0 x4_1)))) ?hg ?ho ?hn ?hr ?_; (case ho => rfl); (case hg => rfl); (case hn => rfl); (case hr => first | (go_simp; done) | (go_simp; rfl)); intro w9002 hw; have hg : wr.grownBy w9002 (some go9) := (by rw [hw]; exact HP10.2); have hp_ : Kd.R Kd.string 9 w9002 w.heap.size (fun _ => True) (.slice (some ⟨go9, 0, none⟩) x3_1.length co9001) y119 := (by rw [hw, Ny119.out]; exact HP10.1); clear HP10; have n0_ := ah.mk (hp_); have n1_ := ah.mk ((by rw [hw]; exact gZ (HB.out) GB9.out : Below w.heap.size w w9002)); clear HO_3 HB; have HO_3 := n0_; have HB := n1_; clear n0_ n1_; clear hg hw hp_))
    go_roundg k1
    case measure => have := HK1.out; omega
    case rel => exact ⟨(y119), (wrap64 (x4_1 + 1)), EQ, H', ⟨by have := HK1.out; omega⟩, ⟨(RR HO_3)⟩, ⟨BL⟩⟩
   ·obtain rfl := Option.some.inj H
    go_wp2
    go_ret
    exact ⟨_, EWW, (RR HO_3), BL⟩
def jQ.f (FV : ByteArray) (FW : Int) (FY : ByteArray) (FZ : Int) : Option (Bool) := if FV.toList = FY.toList then (if FW = FZ then (some true) else (some false)) else (some false)
theorem jQ.calls (FV : ByteArray) (FW : Int) (FY : ByteArray) (FZ : Int) (r : Bool) (w : World) (h : jQ.f FV FW FY FZ = some r) :
  Calls Tryz.prog 62 #[.agg #[.string FV, .int .i64 FW], .agg #[.string FY, .int .i64 FZ]] w fun e w' => e = .returned (.bool r) ∧ Below w.heap.size w w' := by
 have hu84 := Tryz.underlying84
 have HB := ah.mk (Below.refl w.heap.size w)
 unfold jQ.f at h
 have H := h
 clear h
 replace H := ah.mk H
 go_enter Tryz.func62, Tryz.ntmps62
 go_wp2_with (first | ((with_reducible refine aJ (N := 2) rfl ?_); refine bg (N := 2) (cs := #[.string FV, .int .i64 FW]) (t := 84) ?_; intro gb120 hg w9000 hbox hb; have BK120 := ah.mk hbox; have GW120 := SZ (w := w) hg; have GE120 := GW120; replace HB := BS (w := w) hb; clear hb hbox hg) | ((with_reducible refine aJ (N := 3) rfl ?_); refine bg (N := 3) (cs := #[.string FY, .int .i64 FZ]) (t := 84) ?_; intro gb121 hg w9001 hbox hb; have n0_ := KB BK120 hb; have n1_ := BS (w := w) hb; have n2_ := ah.mk (hbox); have n3_ := SZ (w := w) hg; have n4_ := SZ (w := w) hg; have n5_ := NL BK120 hg; have n6_ := NG BK120 hg; clear BK120 HB; have BK120 := n0_; have HB := n1_; have BK121 := n2_; have GW121 := n3_; have GE121 := n4_; have NB120_121 := n5_; have NB121_120 := n6_; clear n0_ n1_ n2_ n3_ n4_ n5_ n6_; clear hb hbox hg; have hnb9002 := NB120_121.out; have hnc9002 := NB121_120.out; obtain ⟨hcz9003_0, hcz9003_1, hfz9003_0, hfz9003_1⟩ := cz2 BK120.out; obtain ⟨hcz9004_0, hcz9004_1, hfz9004_0, hfz9004_1⟩ := cz2 BK121.out; refine bU ?_))
 refine Hide.mk ?_
 replace H := H.out
 replace H := ifE H; rcases H with ⟨c3b0, c3b1, H⟩ | ⟨c3, c3b0, c3b1, H⟩
 ·replace H := ifE H; rcases H with ⟨c4b0, c4b1, H⟩ | ⟨c4, c4b0, c4b1, H⟩
  ·obtain rfl := Option.some.inj H
   try go_wp2
   go_ret
   exact ⟨EWW, BL⟩
  ·obtain rfl := Option.some.inj H
   try go_wp2
   go_ret
   exact ⟨EWW, BL⟩
 ·obtain rfl := Option.some.inj H
  try go_wp2
  go_ret
  exact ⟨EWW, BL⟩
def bT.l0 : Nat → List (S84) → List (S84) → Int → Option (Bool)
 | 0, _, _, _ => none
 | k + 1, a, b, c => if c < (a.length : Int) then (if 0 ≤ c then (if c < (b.length : Int) then ((jQ.f ((fQ a c).f0) ((fQ a c).f1) ((fQ b c).f0) ((fQ b c).f1)).bind fun d => (if d = true then (bT.l0 k a b (wrap64 (c + 1))) else (some false))) else (none)) else (none)) else (some true)
def bT.f (k : Nat) (l0 l1 : List (S84)) : Option (Bool) := if (l0.length : Int) = (l1.length : Int) then (bT.l0 k l0 l1 0) else (some false)
def bT.T6 : Bool × List (List Nat × List Nat) := (true, [([], []), ([], []), ([0, 1], [0, 1]), ([2], [2]), ([], []), ([], []), ([4, 5], [4, 5]), ([6], [6]), ([3, 7], [3, 7]), ([8], [8])])
def bT.B6 : List Nat := [0, 0, 3, 7, 0, 0, 48, 112, 255, 511]
theorem bT.Ap : kG .any (opsOf Tryz.f20 6) = bT.T6 := by kernel_rfl
theorem bT.vD : iW bT.T6.2 bT.B6 = true := by kernel_rfl
theorem bT.calls (k : Nat) (A0 : Option Addr) (c0 : Nat) (l0 : List (S84)) (A1 : Option Addr) (c1 : Nat) (l1 : List (S84)) (r : Bool) (w : World) (hr0 : Kd.C k84 w A0 l0.length l0) (hc0 : l0.length ≤ c0) (hr1 : Kd.C k84 w A1 l1.length l1) (hc1 : l1.length ≤ c1) (h : bT.f k l0 l1 = some r) :
  Calls Tryz.prog 20 #[.slice A0 l0.length c0, .slice A1 l1.length c1] w fun e w' => e = .returned (.bool r) ∧ Below w.heap.size w w' := by
 have hu84 := Tryz.underlying84
 have HR0 := ah.mk hr0
 have HC0 := ah.mk hc0
 clear hr0 hc0
 have HR1 := ah.mk hr1
 have HC1 := ah.mk hc1
 clear hr1 hc1
 have HB := ah.mk (Below.refl w.heap.size w)
 unfold bT.f at h
 have H := h
 clear h
 replace H := ah.mk H
 go_enter Tryz.func20, Tryz.ntmps20
 replace H := H.out
 by_cases c3 : (l0.length : Int) = (l1.length : Int)
 ·rw [if_pos c3] at H
  have c3b0 : ((l0.length : Int) == (l1.length : Int)) = true := beq_iff_eq.mpr c3
  have c3b1 : ((l0.length : Int) != (l1.length : Int)) = false := bne_eq_false_iff_eq.mpr c3
  have c3b2 : (l0.length == l1.length) = true := by first | simpa using c3 | (simp at c3 ⊢; omega)
  clear c3
  have H' := ah.mk H
  clear H
  try go_wp2
  go_loopg [5] k (fun kq v5 w' => ∃ (x5_1 : Int), v5 = .int .i64 x5_1 ∧ ah (bT.l0 kq l0 l1 x5_1 = some r) ∧ ah (kq ≤ k) ∧ ah (Below w.heap.size w w'))
  case atStart => exact ⟨(0), EQ, H', ⟨Nat.le_refl _⟩, ⟨BL⟩⟩
  case round =>
   clear H'
   try clear c1
   try clear c3
   try clear c3b0
   try clear c3b1
   try clear c3b2
   obtain ⟨x5_1, rfl, HA, HK1, HB⟩ := hrel
   cases gk with
   | zero => exact absurd HA.out (by simp [bT.l0])
   | succ k1 =>
    have H := HA.out
    clear HA
    simp only [bT.l0] at H
    replace H := ifD H; rcases H with ⟨c4b0, H⟩ | ⟨c4b0, H⟩
    ·replace H := ifN H; obtain ⟨c5b0, H⟩ := H
     replace H := ifN H; obtain ⟨c6b0, H⟩ := H
     replace H := be H; obtain ⟨t124, A7, H⟩ := H
     replace H := ah.mk H
     try go_wp2
     replace HB := ah.mk (dH HB.out)
     have p122 : 0 ≤ (x5_1 : Int) := OD
     have q122 : x5_1 < (l0.length : Int) := OD
     obtain ⟨ad122, e122, hx122_0, hx122_1⟩ := wD HR0.out x5_1 p122 q122
     have hw122_1 := hx122_1
     have hw122_0 := hx122_0
     cases e122
     try replace hx122_0 := (HB.out.cell (World.block_lt_of_cell? w _ hx122_0)).trans hx122_0
     try replace hx122_1 := (HB.out.cell (World.block_lt_of_cell? w _ hx122_1)).trans hx122_1
     replace p122 := eq_true p122
     replace q122 := eq_true q122
     have p123 : 0 ≤ (x5_1 : Int) := OD
     have q123 : x5_1 < (l1.length : Int) := OD
     obtain ⟨ad123, e123, hx123_0, hx123_1⟩ := wD HR1.out x5_1 p123 q123
     have hw123_1 := hx123_1
     have hw123_0 := hx123_0
     cases e123
     try replace hx123_0 := (HB.out.cell (World.block_lt_of_cell? w _ hx123_0)).trans hx123_0
     try replace hx123_1 := (HB.out.cell (World.block_lt_of_cell? w _ hx123_1)).trans hx123_1
     replace p123 := eq_true p123
     replace q123 := eq_true q123
     refine ji (n := 10) (S := fun w' => w'.cell? (ad122.add ((x5_1).toNat * 2)) = some (.string ((fQ l0 x5_1).f0)) ∧ w'.cell? ⟨(ad122.add ((x5_1).toNat * 2)).block, (ad122.add ((x5_1).toNat * 2)).off + 1, none⟩ = some (.int .i64 ((fQ l0 x5_1).f1)) ∧ w'.cell? (ad123.add ((x5_1).toNat * 2)) = some (.string ((fQ l1 x5_1).f0)) ∧ w'.cell? ⟨(ad123.add ((x5_1).toNat * 2)).block, (ad123.add ((x5_1).toNat * 2)).off + 1, none⟩ = some (.int .i64 ((fQ l1 x5_1).f1))) (ds := []) #[F,F,F,F,F,F,F,F,F,F] (by kernel_rfl) rfl rfl ⟨((HB.out.cell (World.block_lt_of_cell? w _ hw122_0)).trans hw122_0), ((HB.out.cell (World.block_lt_of_cell? w _ hw122_1)).trans hw122_1), ((HB.out.cell (World.block_lt_of_cell? w _ hw123_0)).trans hw123_0), ((HB.out.cell (World.block_lt_of_cell? w _ hw123_1)).trans hw123_1)⟩ (fun hHeld => ?_); refine iI bT.Ap bT.vD (fun HT_ HW_ => ?_)
     generalize wr.drew = w9000 at HB hx122_0 hx122_1 hx123_0 hx123_1 hHeld ⊢
     refine puS (i := 0) (N := some 17) #[T,F,F,F,F,F,F,F,F,F] (aK HT_.out (by kernel_rfl)) ?_
     refine puS (i := 1) (N := some 18) #[T,T,F,F,F,F,F,F,F,F] (aK HT_.out (by kernel_rfl)) ?_
     refine puS (i := 2) (N := some 19) #[T,T,T,F,F,F,F,F,F,F] (aK HT_.out (by kernel_rfl)) ?_
     refine puS (i := 4) (N := some 21) #[T,T,T,F,T,F,F,F,F,F] (aK HT_.out (by kernel_rfl)) ?_
     refine puS (i := 5) (N := some 22) #[T,T,T,F,T,T,F,F,F,F] (aK HT_.out (by kernel_rfl)) ?_
     refine puS (i := 6) (N := some 23) #[T,T,T,F,T,T,T,F,F,F] (aK HT_.out (by kernel_rfl)) ?_
     refine taS (i := 3) (N := some 20) #[T,T,T,T,T,T,T,F,F,F] (eF HT_.out HW_.out (by kernel_rfl)) hHeld ?_
     refine taS (i := 7) (N := some 24) #[T,T,T,T,T,T,T,T,F,F] (eF HT_.out HW_.out (by kernel_rfl)) hHeld ?_
     refine kW (i := 8) (N := some 25) #[T,T,T,T,T,T,T,T,T,F] rfl rfl (jf HT_.out (by kernel_rfl)) (by decide) (fun K hK => ?_)
     refine iZ Tryz.func62 #[.agg #[.string ((fQ l0 x5_1).f0), .int .i64 ((fQ l0 x5_1).f1)], .agg #[.string ((fQ l1 x5_1).f0), .int .i64 ((fQ l1 x5_1).f1)]] ?_
     with_reducible refine (jQ.calls ((fQ l0 x5_1).f0) ((fQ l0 x5_1).f1) ((fQ l1 x5_1).f0) ((fQ l1 x5_1).f1) _ _ A7.out).mono ?_
     rintro e w9001 ⟨rfl, hb⟩
     refine ⟨_, rfl, ?_⟩
     replace HB := BS (w := w) hb
     (try clear hb)
     refine hK.out _ _ ⟨((HB.out.cell (World.block_lt_of_cell? w _ hw122_0)).trans hw122_0), ((HB.out.cell (World.block_lt_of_cell? w _ hw122_1)).trans hw122_1), ((HB.out.cell (World.block_lt_of_cell? w _ hw123_0)).trans hw123_0), ((HB.out.cell (World.block_lt_of_cell? w _ hw123_1)).trans hw123_1)⟩ (fun hHeld => ?_)
     clear hK K
     refine nrm (some 25) ?_
     replace H := H.out
     replace H := ifB H; rcases H with ⟨rfl, H⟩ | ⟨rfl, H⟩
     ·have H' := ah.mk H
      clear H
      refine puS (i := 9) (N := some 26) #[T,T,T,T,T,T,T,T,T,T] (aK HT_.out (by kernel_rfl)) ?_
      refine iD (gG HT_.out (by kernel_rfl)) ?_
      try go_wp2
      go_roundg k1
      case measure => have := HK1.out; omega
      case rel => exact ⟨(wrap64 (x5_1 + 1)), EQ, H', ⟨by have := HK1.out; omega⟩, ⟨BL⟩⟩
     ·obtain rfl := Option.some.inj H
      refine puS (i := 9) (N := some 26) #[T,T,T,T,T,T,T,T,T,T] (aK HT_.out (by kernel_rfl)) ?_
      refine iD (gG HT_.out (by kernel_rfl)) ?_
      try go_wp2
      go_ret
      exact ⟨EWW, BL⟩
    ·obtain rfl := Option.some.inj H
     go_wp2
     go_ret
     exact ⟨EWW, BL⟩
 ·rw [if_neg c3] at H
  have c3b0 : ((l0.length : Int) == (l1.length : Int)) = false := beq_eq_false_iff_ne.mpr c3
  have c3b1 : ((l0.length : Int) != (l1.length : Int)) = true := bne_iff_ne.mpr c3
  have c3b2 : (l0.length == l1.length) = false := by first | simpa using c3 | (simp at c3 ⊢; omega)
  obtain rfl := Option.some.inj H
  try go_wp2
  go_ret
  exact ⟨EWW, BL⟩
def fq.l0 : Nat → List ByteArray → List ByteArray → Int → Option (Bool)
 | 0, _, _, _ => none
 | k + 1, a, b, c => if c < (a.length : Int) then (if 0 ≤ c then (if c < (b.length : Int) then (if (fA ByteArray.empty a c).toList = (fA ByteArray.empty b c).toList then (fq.l0 k a b (wrap64 (c + 1))) else (some false)) else (none)) else (none)) else (some true)
def fq.f (k : Nat) (l0 l1 : List ByteArray) : Option (Bool) := if (l0.length : Int) = (l1.length : Int) then (fq.l0 k l0 l1 0) else (some false)
theorem fq.calls (k : Nat) (A0 : Option Addr) (c0 : Nat) (l0 : List ByteArray) (A1 : Option Addr) (c1 : Nat) (l1 : List ByteArray) (r : Bool) (w : World) (hr0 : Kd.C Kd.string w A0 l0.length l0) (hc0 : l0.length ≤ c0) (hr1 : Kd.C Kd.string w A1 l1.length l1) (hc1 : l1.length ≤ c1) (h : fq.f k l0 l1 = some r) :
  Calls Tryz.prog 21 #[.slice A0 l0.length c0, .slice A1 l1.length c1] w fun e w' => e = .returned (.bool r) ∧ cK w w' := by
 have HR0 := ah.mk hr0
 have HC0 := ah.mk hc0
 clear hr0 hc0
 have HR1 := ah.mk hr1
 have HC1 := ah.mk hc1
 clear hr1 hc1
 unfold fq.f at h
 have H := h
 clear h
 replace H := ah.mk H
 go_enter Tryz.func21, Tryz.ntmps21
 replace H := H.out
 by_cases c3 : (l0.length : Int) = (l1.length : Int)
 ·rw [if_pos c3] at H
  have c3b0 : ((l0.length : Int) == (l1.length : Int)) = true := beq_iff_eq.mpr c3
  have c3b1 : ((l0.length : Int) != (l1.length : Int)) = false := bne_eq_false_iff_eq.mpr c3
  have c3b2 : (l0.length == l1.length) = true := by first | simpa using c3 | (simp at c3 ⊢; omega)
  clear c3
  have H' := ah.mk H
  clear H
  go_wp2
  repeat (go_quiet (fail); try go_wp2)
  go_loopg [5] k (fun kq v5 w' => ∃ (x5_1 : Int), v5 = .int .i64 x5_1 ∧ ah (fq.l0 kq l0 l1 x5_1 = some r) ∧ ah (kq ≤ k) ∧ cK w w')
  case atStart => exact ⟨(0), EQ, H', ⟨Nat.le_refl _⟩, DR⟩
  case round =>
   clear H'
   try clear c1
   try clear c3
   try clear c3b0
   try clear c3b1
   try clear c3b2
   obtain ⟨x5_1, rfl, HA, HK1, ⟨m1, rfl⟩⟩ := hrel
   cases gk with
   | zero => exact absurd HA.out (by simp [fq.l0])
   | succ k1 =>
    have H := HA.out
    clear HA
    simp only [fq.l0] at H
    replace H := ifD H; rcases H with ⟨c4b0, H⟩ | ⟨c4b0, H⟩
    ·replace H := ifN H; obtain ⟨c5b0, H⟩ := H
     replace H := ifN H; obtain ⟨c6b0, H⟩ := H
     have p125 : 0 ≤ (x5_1 : Int) := OD
     have q125 : x5_1 < (l0.length : Int) := OD
     obtain ⟨ad125, e125, hx125_0⟩ := Kd.jo HR0.out x5_1 p125 q125
     cases e125
     replace p125 := eq_true p125
     replace q125 := eq_true q125
     have p126 : 0 ≤ (x5_1 : Int) := OD
     have q126 : x5_1 < (l1.length : Int) := OD
     obtain ⟨ad126, e126, hx126_0⟩ := Kd.jo HR1.out x5_1 p126 q126
     cases e126
     replace p126 := eq_true p126
     replace q126 := eq_true q126
     replace H := ifE H; rcases H with ⟨c7b0, c7b1, H⟩ | ⟨c7, c7b0, c7b1, H⟩
     ·have H' := ah.mk H
      clear H
      go_wp2
      repeat (go_quiet (fail); try go_wp2)
      go_roundg k1
      case measure => have := HK1.out; omega
      case rel => exact ⟨(wrap64 (x5_1 + 1)), EQ, H', ⟨by have := HK1.out; omega⟩, DR⟩
     ·obtain rfl := Option.some.inj H
      go_wp2
      repeat (go_quiet (fail); try go_wp2)
      go_ret
      exact ⟨EQ, DR⟩
    ·obtain rfl := Option.some.inj H
     go_wp2
     repeat (go_quiet (fail); try go_wp2)
     go_ret
     exact ⟨EQ, DR⟩
 ·rw [if_neg c3] at H
  have c3b0 : ((l0.length : Int) == (l1.length : Int)) = false := beq_eq_false_iff_ne.mpr c3
  have c3b1 : ((l0.length : Int) != (l1.length : Int)) = true := bne_iff_ne.mpr c3
  have c3b2 : (l0.length == l1.length) = false := by first | simpa using c3 | (simp at c3 ⊢; omega)
  obtain rfl := Option.some.inj H
  go_wp2
  repeat (go_quiet (fail); try go_wp2)
  go_ret
  exact ⟨EQ, DR⟩
def kP.f (FV FW : Int) (FX : ByteArray) (a1 : Int) : Option (Int) := if (wrap64 (a1 - (FX.size : Int))) < 0 then (some (-1)) else (some (wrap64 (a1 - (FX.size : Int))))
theorem kP.calls (FV FW : Int) (FX : ByteArray) (a1 r : Int) (w : World) (h : kP.f FV FW FX a1 = some r) :
  Calls Tryz.prog 9 #[.agg #[.int .i64 FV, .int .i64 FW, .string FX], .int .i64 a1] w fun e w' => e = .returned (.int .i64 r) ∧ Below w.heap.size w w' := by
 have hu23 := Tryz.underlying23
 have HB := ah.mk (Below.refl w.heap.size w)
 unfold kP.f at h
 have H := h
 clear h
 replace H := ah.mk H
 go_enter Tryz.func9, Tryz.ntmps9
 go_wp2_with (first | ((with_reducible refine aJ (N := 2) rfl ?_); refine bg (N := 2) (cs := #[.int .i64 FV, .int .i64 FW, .string FX]) (t := 23) ?_; intro gb127 hg w9000 hbox hb; have BK127 := ah.mk hbox; have GW127 := SZ (w := w) hg; have GE127 := GW127; replace HB := BS (w := w) hb; clear hb hbox hg; obtain ⟨hcz9001_0, hcz9001_1, hcz9001_2, hfz9001_0, hfz9001_1, hfz9001_2⟩ := cz3 BK127.out; refine bU ?_))
 refine Hide.mk ?_
 replace H := H.out
 replace H := ifD H; rcases H with ⟨c3b0, H⟩ | ⟨c3b0, H⟩
 ·obtain rfl := Option.some.inj H
  try go_wp2
  go_ret
  exact ⟨EWW, BL⟩
 ·obtain rfl := Option.some.inj H
  try go_wp2
  go_ret
  exact ⟨EWW, BL⟩
def kV.f (FV : Int) (FW : ByteArray) (FX a0_3 a1 : Int) : Option (Int) := if (wrap64 (a1 - (FW.size : Int))) < 0 then (some (-1)) else (some (wrap64 (a1 - (FW.size : Int))))
theorem kV.calls (FV : Int) (FW : ByteArray) (FX a0_3 : Int) (a1 r : Int) (w : World) (h : kV.f FV FW FX a0_3 a1 = some r) :
  Calls Tryz.prog 152 #[.agg #[.int .i64 FV, .string FW, .int .i64 FX, .int .i64 a0_3], .int .i64 a1] w fun e w' => e = .returned (.int .i64 r) ∧ Below w.heap.size w w' := by
 have hu143 := Tryz.underlying143
 have HB := ah.mk (Below.refl w.heap.size w)
 unfold kV.f at h
 have H := h
 clear h
 replace H := ah.mk H
 go_enter Tryz.func152, Tryz.ntmps152
 go_wp2_with (first | ((with_reducible refine aJ (N := 2) rfl ?_); refine bg (N := 2) (cs := #[.int .i64 FV, .string FW, .int .i64 FX, .int .i64 a0_3]) (t := 143) ?_; intro gb128 hg w9000 hbox hb; have BK128 := ah.mk hbox; have GW128 := SZ (w := w) hg; have GE128 := GW128; replace HB := BS (w := w) hb; clear hb hbox hg; obtain ⟨hcz9001_0, hcz9001_1, hcz9001_2, hcz9001_3, hfz9001_0, hfz9001_1, hfz9001_2, hfz9001_3⟩ := cz4 BK128.out; refine bU ?_))
 refine Hide.mk ?_
 replace H := H.out
 replace H := ifD H; rcases H with ⟨c3b0, H⟩ | ⟨c3b0, H⟩
 ·obtain rfl := Option.some.inj H
  try go_wp2
  go_ret
  exact ⟨EWW, BL⟩
 ·obtain rfl := Option.some.inj H
  try go_wp2
  go_ret
  exact ⟨EWW, BL⟩
def fK.l0 : Nat → List (mP) → Int → Int → Option (Int)
 | 0, _, _, _ => none
 | k + 1, a, b, c => if c < (a.length : Int) then (if 0 ≤ c then ((kV.f ((gK a c).f0) ((gK a c).f1) ((gK a c).f2) ((gK a c).f3) b).bind fun d => (if d < 0 then (some (-1)) else (fK.l0 k a d (wrap64 (c + 1))))) else (none)) else (some b)
def fK.f (k : Nat) (l0 : List (mP)) (a1 : Int) : Option (Int) := if (wrap64 (a1 - (l0.length : Int))) < 0 then (some (-1)) else (fK.l0 k l0 (wrap64 (a1 - (l0.length : Int))) 0)
theorem fK.calls (k : Nat) (A0 : Option Addr) (c0 : Nat) (l0 : List (mP)) (a1 r : Int) (w : World) (hr0 : Kd.C xD w A0 l0.length l0) (hc0 : l0.length ≤ c0) (h : fK.f k l0 a1 = some r) :
  Calls Tryz.prog 95 #[.slice A0 l0.length c0, .int .i64 a1] w fun e w' => e = .returned (.int .i64 r) ∧ Below w.heap.size w w' := by
 have hu143 := Tryz.underlying143
 have HR0 := ah.mk hr0
 have HC0 := ah.mk hc0
 clear hr0 hc0
 have HB := ah.mk (Below.refl w.heap.size w)
 unfold fK.f at h
 have H := h
 clear h
 replace H := ah.mk H
 go_enter Tryz.func95, Tryz.ntmps95
 replace H := H.out
 replace H := ifD H; rcases H with ⟨c3b0, H⟩ | ⟨c3b0, H⟩
 ·obtain rfl := Option.some.inj H
  try go_wp2
  go_ret
  exact ⟨EWW, BL⟩
 ·have H' := ah.mk H
  clear H
  try go_wp2
  go_loopg [1, 5] k (fun kq v1 v5 w' => ∃ (x1_1 : Int) (x5_1 : Int), v1 = .int .i64 x1_1 ∧ v5 = .int .i64 x5_1 ∧ ah (fK.l0 kq l0 x1_1 x5_1 = some r) ∧ ah (kq ≤ k) ∧ ah (Below w.heap.size w w'))
  case atStart => exact ⟨(wrap64 (a1 - (l0.length : Int))), (0), EQ, EQ, H', ⟨Nat.le_refl _⟩, ⟨BL⟩⟩
  case round =>
   clear H'
   try clear c3
   try clear c3b0
   obtain ⟨x1_1, x5_1, rfl, rfl, HA, HK1, HB⟩ := hrel
   cases gk with
   | zero => exact absurd HA.out (by simp [fK.l0])
   | succ k1 =>
    have H := HA.out
    clear HA
    simp only [fK.l0] at H
    replace H := ifD H; rcases H with ⟨c4b0, H⟩ | ⟨c4b0, H⟩
    ·replace H := ifN H; obtain ⟨c5b0, H⟩ := H
     replace H := be H; obtain ⟨t130, A6, H⟩ := H
     have p129 : 0 ≤ (x5_1 : Int) := OD
     have q129 : x5_1 < (l0.length : Int) := OD
     obtain ⟨ad129, e129, hx129_0, hx129_1, hx129_2, hx129_3⟩ := AQ HR0.out x5_1 p129 q129
     cases e129
     try replace hx129_0 := (HB.out.cell (World.block_lt_of_cell? w _ hx129_0)).trans hx129_0
     try replace hx129_1 := (HB.out.cell (World.block_lt_of_cell? w _ hx129_1)).trans hx129_1
     try replace hx129_2 := (HB.out.cell (World.block_lt_of_cell? w _ hx129_2)).trans hx129_2
     try replace hx129_3 := (HB.out.cell (World.block_lt_of_cell? w _ hx129_3)).trans hx129_3
     replace p129 := eq_true p129
     replace q129 := eq_true q129
     replace H := ah.mk H
     go_wp2_with (first | ((with_reducible refine ay (f := 152) rfl ?_); refine bE (some 23) Tryz.func152 #[.agg #[.int .i64 ((gK l0 x5_1).f0), .string ((gK l0 x5_1).f1), .int .i64 ((gK l0 x5_1).f2), .int .i64 ((gK l0 x5_1).f3)], .int .i64 x1_1] ?_; (with_reducible refine (kV.calls ((gK l0 x5_1).f0) ((gK l0 x5_1).f1) ((gK l0 x5_1).f2) ((gK l0 x5_1).f3) x1_1 t130 _ A6.out).mono ?_); rintro e w9000 ⟨rfl, hb⟩; refine ⟨_, rfl, ?_⟩; replace HB := BS (w := w) hb; (try clear hb); refine bU ?_))
     refine Hide.mk ?_
     replace H := H.out
     replace H := ifD H; rcases H with ⟨c7b0, H⟩ | ⟨c7b0, H⟩
     ·obtain rfl := Option.some.inj H
      try go_wp2
      go_ret
      exact ⟨EWW, BL⟩
     ·have H' := ah.mk H
      clear H
      try go_wp2
      go_roundg k1
      case measure => have := HK1.out; omega
      case rel => exact ⟨(t130), (wrap64 (x5_1 + 1)), EQ, EQ, H', ⟨by have := HK1.out; omega⟩, ⟨BL⟩⟩
    ·obtain rfl := Option.some.inj H
     go_wp2
     go_ret
     exact ⟨EWW, BL⟩
def kU.f (k : Nat) (FV : Int) (F7 : List (mP)) (a1 : Int) : Option (Int) := (fK.f k F7 a1).bind fun t132 => (if t132 < 0 then (some (-1)) else (some t132))
theorem kU.calls (k : Nat) (FV : Int) (A0_1 : Option Addr) (c0_1 : Nat) (F7 : List (mP)) (a1 r : Int) (w : World) (hr0_1 : Kd.C xD w A0_1 F7.length F7) (hc0_1 : F7.length ≤ c0_1) (h : kU.f k FV F7 a1 = some r) :
  Calls Tryz.prog 44 #[.agg #[.int .i64 FV, .slice A0_1 F7.length c0_1], .int .i64 a1] w fun e w' => e = .returned (.int .i64 r) ∧ Below w.heap.size w w' := by
 have hu68 := Tryz.underlying68
 have HR0_1 := ah.mk hr0_1
 have HC0_1 := ah.mk hc0_1
 clear hr0_1 hc0_1
 have HB := ah.mk (Below.refl w.heap.size w)
 unfold kU.f at h
 have H := h
 clear h
 replace H := be H; obtain ⟨t132, A3, H⟩ := H
 replace H := ah.mk H
 go_enter Tryz.func44, Tryz.ntmps44
 go_wp2_with (first | ((with_reducible refine aJ (N := 2) rfl ?_); refine bg (N := 2) (cs := #[.int .i64 FV, .slice A0_1 F7.length c0_1]) (t := 68) ?_; intro gb131 hg w9000 hbox hb; have BK131 := ah.mk hbox; have GW131 := SZ (w := w) hg; have GE131 := GW131; replace HB := BS (w := w) hb; clear hb hbox hg; obtain ⟨hcz9001_0, hcz9001_1, hfz9001_0, hfz9001_1⟩ := cz2 BK131.out) | ((with_reducible refine ay (f := 95) rfl ?_); refine bE (some 8) Tryz.func95 #[.slice A0_1 F7.length c0_1, .int .i64 a1] ?_; (with_reducible refine (fK.calls k _ _ F7 a1 t132 _ ?side1 ?side2 A3.out).mono ?_); (case side1 => exact CB HR0_1); (case side2 => exact HC0_1.out); rintro e w9002 ⟨rfl, hb⟩; refine ⟨_, rfl, ?_⟩; replace BK131 := KB BK131 hb; replace HB := BS (w := w) hb; (try clear hb); refine bU ?_))
 refine Hide.mk ?_
 replace H := H.out
 replace H := ifD H; rcases H with ⟨c4b0, H⟩ | ⟨c4b0, H⟩
 ·obtain rfl := Option.some.inj H
  try go_wp2
  go_ret
  exact ⟨EWW, BL⟩
 ·obtain rfl := Option.some.inj H
  try go_wp2
  go_ret
  exact ⟨EWW, BL⟩
def fM.l0 : Nat → List (S68) → Int → Int → Option (Int)
 | 0, _, _, _ => none
 | k + 1, a, b, c => if c < (a.length : Int) then (if 0 ≤ c then ((kU.f k ((j6 a c).f0) ((j6 a c).f1) b).bind fun d => (if d < 0 then (some (-1)) else (fM.l0 k a d (wrap64 (c + 1))))) else (none)) else (some b)
def fM.f (k : Nat) (l0 : List (S68)) (a1 : Int) : Option (Int) := if (wrap64 (a1 - (l0.length : Int))) < 0 then (some (-1)) else (fM.l0 k l0 (wrap64 (a1 - (l0.length : Int))) 0)
theorem fM.calls (k : Nat) (A0 : Option Addr) (c0 : Nat) (l0 : List (S68)) (a1 r : Int) (w : World) (hr0 : Kd.C k68 w A0 l0.length l0) (hc0 : l0.length ≤ c0) (h : fM.f k l0 a1 = some r) :
  Calls Tryz.prog 10 #[.slice A0 l0.length c0, .int .i64 a1] w fun e w' => e = .returned (.int .i64 r) ∧ Below w.heap.size w w' := by
 have hu68 := Tryz.underlying68
 have HR0 := ah.mk hr0
 have HC0 := ah.mk hc0
 clear hr0 hc0
 have HB := ah.mk (Below.refl w.heap.size w)
 unfold fM.f at h
 have H := h
 clear h
 replace H := ah.mk H
 go_enter Tryz.func10, Tryz.ntmps10
 replace H := H.out
 replace H := ifD H; rcases H with ⟨c3b0, H⟩ | ⟨c3b0, H⟩
 ·obtain rfl := Option.some.inj H
  try go_wp2
  go_ret
  exact ⟨EWW, BL⟩
 ·have H' := ah.mk H
  clear H
  try go_wp2
  go_loopg [1, 5] k (fun kq v1 v5 w' => ∃ (x1_1 : Int) (x5_1 : Int), v1 = .int .i64 x1_1 ∧ v5 = .int .i64 x5_1 ∧ ah (fM.l0 kq l0 x1_1 x5_1 = some r) ∧ ah (kq ≤ k) ∧ ah (Below w.heap.size w w'))
  case atStart => exact ⟨(wrap64 (a1 - (l0.length : Int))), (0), EQ, EQ, H', ⟨Nat.le_refl _⟩, ⟨BL⟩⟩
  case round =>
   clear H'
   try clear c1
   try clear c3
   try clear c3b0
   obtain ⟨x1_1, x5_1, rfl, rfl, HA, HK1, HB⟩ := hrel
   cases gk with
   | zero => exact absurd HA.out (by simp [fM.l0])
   | succ k1 =>
    have H := HA.out
    clear HA
    simp only [fM.l0] at H
    replace H := ifD H; rcases H with ⟨c4b0, H⟩ | ⟨c4b0, H⟩
    ·replace H := ifN H; obtain ⟨c5b0, H⟩ := H
     replace H := be H; obtain ⟨t134, A6, H⟩ := H
     have p133 : 0 ≤ (x5_1 : Int) := OD
     have q133 : x5_1 < (l0.length : Int) := OD
     obtain ⟨ad133, A133_1, c133_1, e133, hx133_0, hx133_1, hl133_1, hi133_1⟩ := CQ HR0.out x5_1 p133 q133
     cases e133
     try replace hx133_0 := (HB.out.cell (World.block_lt_of_cell? w _ hx133_0)).trans hx133_0
     try replace hx133_1 := (HB.out.cell (World.block_lt_of_cell? w _ hx133_1)).trans hx133_1
     have HR133_1 := ah.mk hi133_1
     have HC133_1 := ah.mk hl133_1
     clear hi133_1 hl133_1
     replace p133 := eq_true p133
     replace q133 := eq_true q133
     replace H := ah.mk H
     go_wp2_with (first | ((with_reducible refine ay (f := 44) rfl ?_); refine bE (some 23) Tryz.func44 #[.agg #[.int .i64 ((j6 l0 x5_1).f0), .slice A133_1 ((j6 l0 x5_1).f1).length c133_1], .int .i64 x1_1] ?_; (with_reducible refine (kU.calls k1 ((j6 l0 x5_1).f0) _ _ ((j6 l0 x5_1).f1) x1_1 t134 _ ?side1 ?side2 A6.out).mono ?_); (case side1 => exact CB HR133_1); (case side2 => exact HC133_1.out); rintro e w9000 ⟨rfl, hb⟩; refine ⟨_, rfl, ?_⟩; replace HB := BS (w := w) hb; (try clear hb); refine bU ?_))
     refine Hide.mk ?_
     replace H := H.out
     replace H := ifD H; rcases H with ⟨c7b0, H⟩ | ⟨c7b0, H⟩
     ·obtain rfl := Option.some.inj H
      try go_wp2
      go_ret
      exact ⟨EWW, BL⟩
     ·have H' := ah.mk H
      clear H
      try go_wp2
      go_roundg k1
      case measure => have := HK1.out; omega
      case rel => exact ⟨(t134), (wrap64 (x5_1 + 1)), EQ, EQ, H', ⟨by have := HK1.out; omega⟩, ⟨BL⟩⟩
    ·obtain rfl := Option.some.inj H
     go_wp2
     go_ret
     exact ⟨EWW, BL⟩
def kR.f (l0 : List Int) (a1 : Int) : Option (Int) := if (wrap64 (a1 - (l0.length : Int))) < 0 then (some (-1)) else (some (wrap64 (a1 - (l0.length : Int))))
theorem kR.calls (A0 : Option Addr) (c0 : Nat) (l0 : List Int) (a1 r : Int) (w : World) (hr0 : Kd.C (Kd.int .i64) w A0 l0.length l0) (hc0 : l0.length ≤ c0) (h : kR.f l0 a1 = some r) :
  Calls Tryz.prog 63 #[.slice A0 l0.length c0, .int .i64 a1] w fun e w' => e = .returned (.int .i64 r) ∧ cK w w' := by
 have HR0 := ah.mk hr0
 have HC0 := ah.mk hc0
 clear hr0 hc0
 unfold kR.f at h
 have H := h
 clear h
 replace H := ah.mk H
 go_enter Tryz.func63, Tryz.ntmps63
 replace H := H.out
 replace H := ifD H; rcases H with ⟨c3b0, H⟩ | ⟨c3b0, H⟩
 ·obtain rfl := Option.some.inj H
  try go_wp2
  go_ret
  exact ⟨EQ, DR⟩
 ·obtain rfl := Option.some.inj H
  try go_wp2
  go_ret
  exact ⟨EQ, DR⟩
def jF.f (k : Nat) (FV FW : Int) (FX : ByteArray) (F4 : List (S68)) (F5 : List Int) (F6 a1 : Int) : Option (Int) := (kP.f FV FW FX a1).bind fun t136 => (if t136 < 0 then (some (-1)) else ((fM.f k F4 t136).bind fun t137 => (if t137 < 0 then (some (-1)) else ((kR.f F5 t137).bind fun t138 => (if t138 < 0 then (some (-1)) else (some t138))))))
theorem jF.calls (k : Nat) (FV FW : Int) (FX : ByteArray) (A0_3 : Option Addr) (c0_3 : Nat) (F4 : List (S68)) (A0_4 : Option Addr) (c0_4 : Nat) (F5 : List Int) (F6 a1 r : Int) (w : World) (hr0_3 : Kd.C k68 w A0_3 F4.length F4) (hc0_3 : F4.length ≤ c0_3) (hr0_4 : Kd.C (Kd.int .i64) w A0_4 F5.length F5) (hc0_4 : F5.length ≤ c0_4) (h : jF.f k FV FW FX F4 F5 F6 a1 = some r) :
  Calls Tryz.prog 22 #[.agg #[.int .i64 FV, .int .i64 FW, .string FX, .slice A0_3 F4.length c0_3, .slice A0_4 F5.length c0_4, .int .i64 F6], .int .i64 a1] w fun e w' => e = .returned (.int .i64 r) ∧ Below w.heap.size w w' := by
 have hu45 := Tryz.underlying45
 have hu23 := Tryz.underlying23
 have HR0_3 := ah.mk hr0_3
 have HC0_3 := ah.mk hc0_3
 clear hr0_3 hc0_3
 have HR0_4 := ah.mk hr0_4
 have HC0_4 := ah.mk hc0_4
 clear hr0_4 hc0_4
 have HB := ah.mk (Below.refl w.heap.size w)
 unfold jF.f at h
 have H := h
 clear h
 replace H := be H; obtain ⟨t136, A3, H⟩ := H
 replace H := ah.mk H
 go_enter Tryz.func22, Tryz.ntmps22
 go_wp2_with (first | ((with_reducible refine aJ (N := 2) rfl ?_); refine bg (N := 2) (cs := #[.int .i64 FV, .int .i64 FW, .string FX, .slice A0_3 F4.length c0_3, .slice A0_4 F5.length c0_4, .int .i64 F6]) (t := 45) ?_; intro gb135 hg w9000 hbox hb; have BK135 := ah.mk hbox; have GW135 := SZ (w := w) hg; have GE135 := GW135; replace HB := BS (w := w) hb; clear hb hbox hg; obtain ⟨hcz9001_0, hcz9001_1, hcz9001_2, hcz9001_3, hcz9001_4, hcz9001_5, hfz9001_0, hfz9001_1, hfz9001_2, hfz9001_3, hfz9001_4, hfz9001_5⟩ := cz6 BK135.out) | ((with_reducible refine ay (f := 9) rfl ?_); refine bE (some 8) Tryz.func9 #[.agg #[.int .i64 FV, .int .i64 FW, .string FX], .int .i64 a1] ?_; (with_reducible refine (kP.calls FV FW FX a1 t136 _ A3.out).mono ?_); rintro e w9002 ⟨rfl, hb⟩; refine ⟨_, rfl, ?_⟩; replace BK135 := KB BK135 hb; replace HB := BS (w := w) hb; (try clear hb); obtain ⟨hcz9003_0, hcz9003_1, hcz9003_2, hcz9003_3, hcz9003_4, hcz9003_5, hfz9003_0, hfz9003_1, hfz9003_2, hfz9003_3, hfz9003_4, hfz9003_5⟩ := cz6 BK135.out; refine bU ?_))
 refine Hide.mk ?_
 replace H := H.out
 replace H := ifD H; rcases H with ⟨c4b0, H⟩ | ⟨c4b0, H⟩
 ·obtain rfl := Option.some.inj H
  try go_wp2
  go_ret
  exact ⟨EWW, BL⟩
 ·replace H := be H; obtain ⟨t137, A8, H⟩ := H
  replace H := ah.mk H
  go_wp2_with (first | ((with_reducible refine ay (f := 10) rfl ?_); refine bE (some 14) Tryz.func10 #[.slice A0_3 F4.length c0_3, .int .i64 t136] ?_; (with_reducible refine (fM.calls k _ _ F4 t136 t137 _ ?side1 ?side2 A8.out).mono ?_); (case side1 => exact CB HR0_3); (case side2 => exact HC0_3.out); rintro e w9004 ⟨rfl, hb⟩; refine ⟨_, rfl, ?_⟩; replace BK135 := KB BK135 hb; replace HB := BS (w := w) hb; (try clear hb); obtain ⟨hcz9005_0, hcz9005_1, hcz9005_2, hcz9005_3, hcz9005_4, hcz9005_5, hfz9005_0, hfz9005_1, hfz9005_2, hfz9005_3, hfz9005_4, hfz9005_5⟩ := cz6 BK135.out; refine bU ?_))
  refine Hide.mk ?_
  replace H := H.out
  replace H := ifD H; rcases H with ⟨c9b0, H⟩ | ⟨c9b0, H⟩
  ·obtain rfl := Option.some.inj H
   try go_wp2
   go_ret
   exact ⟨EWW, BL⟩
  ·replace H := be H; obtain ⟨t138, A15, H⟩ := H
   replace H := ah.mk H
   go_wp2_with (first | ((with_reducible refine ay (f := 63) rfl ?_); refine bE (some 20) Tryz.func63 #[.slice A0_4 F5.length c0_4, .int .i64 t137] ?_; (with_reducible refine (kR.calls _ _ F5 t137 t138 _ ?side1 ?side2 A15.out).mono ?_); (case side1 => exact CB HR0_4); (case side2 => exact HC0_4.out); rintro e w' ⟨rfl, ⟨nd, rfl⟩⟩; refine ⟨_, rfl, ?_⟩; refine bU ?_))
   refine Hide.mk ?_
   replace H := H.out
   replace H := ifD H; rcases H with ⟨c16b0, H⟩ | ⟨c16b0, H⟩
   ·obtain rfl := Option.some.inj H
    try go_wp2
    go_ret
    exact ⟨EWW, BL⟩
   ·obtain rfl := Option.some.inj H
    try go_wp2
    go_ret
    exact ⟨EWW, BL⟩
def bB.f (a0 a1 a2 : Int) : Option (Bool) := if a0 ≥ a1 then (some (decide (a0 ≤ a2))) else (some false)
theorem bB.calls (a0 a1 a2 : Int) (r : Bool) (w : World) (h : bB.f a0 a1 a2 = some r) :
  Calls Tryz.prog 86 #[.int .i64 a0, .int .i64 a1, .int .i64 a2] w fun e w' => e = .returned (.bool r) ∧ cK w w' := by
 unfold bB.f at h
 have H := h
 clear h
 replace H := ah.mk H
 go_enter Tryz.func86, Tryz.ntmps86
 replace H := H.out
 by_cases c4 : a0 ≥ a1
 ·rw [if_pos c4] at H
  have c4b0 : decide (a1 ≤ a0) = true := decide_eq_true c4
  clear c4
  obtain rfl := Option.some.inj H
  try go_wp2
  go_ret
  exact ⟨EQ, DR⟩
 ·rw [if_neg c4] at H
  have c4b0 : decide (a1 ≤ a0) = false := decide_eq_false c4
  clear c4
  obtain rfl := Option.some.inj H
  try go_wp2
  go_ret
  exact ⟨EQ, DR⟩
mutual
def bL.j0 : Nat → Bool → Int → Int → ByteArray → Option (Bool)
 | 0, _, _, _, _ => none
 | k + 1, a, b, c, d => if a = true then (some false) else (bL.l0 k 0 b c d)
def bL.l0 : Nat → Int → Int → Int → ByteArray → Option (Bool)
 | 0, _, _, _, _ => none
 | k + 1, a, b, c, d => if a < (d.size : Int) then (if 0 ≤ a then (if (bt d a) = 35 then (bL.l0 k (wrap64 (a + 1)) b c d) else (if (bt d a) = 46 then (bL.l0 k (wrap64 (a + 1)) b c d) else (some false))) else (none)) else (some true)
end
def bL.f (k : Nat) (FV FW : Int) (FX : ByteArray) : Option (Bool) := (bB.f FV 2 6).bind fun t140 => (if t140 = true then ((bB.f FW 2 6).bind fun t141 => (if t141 = true then (bL.j0 k ((FX.size : Int) != (wrap64 (FV * FW))) FV FW FX) else (bL.j0 k true FV FW FX))) else (bL.j0 k true FV FW FX))
theorem bL.calls (k : Nat) (FV FW : Int) (FX : ByteArray) (r : Bool) (w : World) (h : bL.f k FV FW FX = some r) :
  Calls Tryz.prog 96 #[.agg #[.int .i64 FV, .int .i64 FW, .string FX]] w fun e w' => e = .returned (.bool r) ∧ Below w.heap.size w w' := by
 have hu32 := Tryz.underlying32
 have HB := ah.mk (Below.refl w.heap.size w)
 unfold bL.f at h
 have H := h
 clear h
 have HC2 := ah.mk H
 clear H
 go_enter Tryz.func96, Tryz.ntmps96
 go_upto_region 1 with (first | ((with_reducible refine aJ (N := 1) rfl ?_); (try (refine jd (by rfl) ?_; dsimp only)); refine bg (N := 1) (cs := #[.int .i64 FV, .int .i64 FW, .string FX]) (t := 32) ?_; intro gb139 hg w3 hbox hb; have BK139 := ah.mk hbox; have GW139 := SZ (w := w) hg; have GE139 := GW139; replace HB := BS (w := w) hb; clear hb hbox hg))
 (try simp only [Act.put, List.setIfInBounds_toArray, List.set_cons_zero, List.set_cons_succ])
 go_cut [24] (fun v24 wc => ∃ (kq : Nat) (x24_1 : Bool), v24 = .bool x24_1 ∧ ah (bL.j0 kq x24_1 FV FW FX = some r) ∧ ah (kq ≤ k) ∧ ah (wc.heap[gb139]? = some (.cells #[.int .i64 FV, .int .i64 FW, .string FX] 32 (0, 0))) ∧ ah (Below w.heap.size w wc))
 case first =>
  have H := HC2.out
  clear HC2
  replace H := be H; obtain ⟨t140, A4, H⟩ := H
  obtain ⟨hcz8000_0, hcz8000_1, hcz8000_2, hfz8000_0, hfz8000_1, hfz8000_2⟩ := cz3 BK139.out
  replace H := ah.mk H
  go_wp2_with (first | ((with_reducible refine ay (f := 86) rfl ?_); refine bE (some 6) Tryz.func86 #[.int .i64 FV, .int .i64 2, .int .i64 6] ?_; (with_reducible refine (bB.calls FV 2 6 _ _ A4.out).mono ?_); rintro e w' ⟨rfl, ⟨nd, rfl⟩⟩; refine ⟨_, rfl, ?_⟩; refine bU ?_))
  refine Hide.mk ?_
  replace H := H.out
  replace H := ifB H; rcases H with ⟨rfl, H⟩ | ⟨rfl, H⟩
  ·replace H := be H; obtain ⟨t141, A6, H⟩ := H
   replace H := ah.mk H
   go_wp2_with (first | (go_at_call 86; (with_reducible refine (bB.calls FW 2 6 _ _ A6.out).mono ?_); rintro e w' ⟨rfl, ⟨nd, rfl⟩⟩; refine bU ?_))
   refine Hide.mk ?_
   replace H := H.out
   replace H := ifB H; rcases H with ⟨rfl, H⟩ | ⟨rfl, H⟩
   ·have H' := ah.mk H
    clear H
    try go_wp2
    go_meet
    case rel => exact ⟨_, (((FX.size : Int) != (wrap64 (FV * FW)))), EQ, H', ⟨by first | omega | exact Nat.le_refl _⟩, ⟨BK⟩, ⟨BL⟩⟩
   ·have H' := ah.mk H
    clear H
    try go_wp2
    go_meet
    case rel => exact ⟨_, (true), EQ, H', ⟨by first | omega | exact Nat.le_refl _⟩, ⟨BK⟩, ⟨BL⟩⟩
  ·have H' := ah.mk H
   clear H
   try go_wp2
   go_meet
   case rel => exact ⟨_, (true), EQ, H', ⟨by first | omega | exact Nat.le_refl _⟩, ⟨BK⟩, ⟨BL⟩⟩
 case rest =>
  clear HC2
  obtain ⟨kq, x24_1, rfl, HA, HJ1, BK139, HB⟩ := hcut
  cases kq with
  | zero => exact absurd HA.out (by simp [bL.j0])
  | succ kj1 =>
   have H := HA.out
   clear HA
   simp only [bL.j0] at H
   replace H := ifB H; rcases H with ⟨rfl, H⟩ | ⟨rfl, H⟩
   ·obtain rfl := Option.some.inj H
    go_wp2
    go_ret
    exact ⟨EWW, BL⟩
   ·have H' := ah.mk H
    clear H
    go_wp2
    go_loopg [3] kj1 (fun kq v3 w' => ∃ (x3_2 : Int), v3 = .int .i64 x3_2 ∧ ah (bL.l0 kq x3_2 FV FW FX = some r) ∧ ah (kq ≤ kj1) ∧ ah (w'.heap[gb139]? = some (.cells #[.int .i64 FV, .int .i64 FW, .string FX] 32 (0, 0))) ∧ ah (Below w.heap.size w w'))
    case atStart => exact ⟨(0), EQ, H', ⟨Nat.le_refl _⟩, ⟨BK⟩, ⟨BL⟩⟩
    case round =>
     clear H'
     try clear c1
     try clear c11
     obtain ⟨x3_2, rfl, HA, HK2, BK139, HB⟩ := hrel
     cases gk with
     | zero => exact absurd HA.out (by simp [bL.l0])
     | succ k2 =>
      have H := HA.out
      clear HA
      simp only [bL.l0] at H
      obtain ⟨hcz7000_0, hcz7000_1, hcz7000_2, hfz7000_0, hfz7000_1, hfz7000_2⟩ := cz3 BK139.out
      replace H := ifD H; rcases H with ⟨c12b0, H⟩ | ⟨c12b0, H⟩
      ·replace H := ifN H; obtain ⟨c13b0, H⟩ := H
       have p14 : (0 ≤ (x3_2 : Int)) = True := OT
       have q14 : (x3_2 < (FX.size : Int)) = True := OT
       have hx14 := fO FX x3_2
       replace H := ifE H; rcases H with ⟨c15b0, c15b1, H⟩ | ⟨c15, c15b0, c15b1, H⟩
       ·have H' := ah.mk H
        clear H
        go_wp2
        go_roundg k2
        case measure => have := HJ1.out; have := HK2.out; omega
        case rel => exact ⟨(wrap64 (x3_2 + 1)), EQ, H', ⟨by have := HJ1.out; have := HK2.out; omega⟩, ⟨BK⟩, ⟨BL⟩⟩
       ·have p17 : (0 ≤ (x3_2 : Int)) = True := OT
        have q17 : (x3_2 < (FX.size : Int)) = True := OT
        have hx17 := fO FX x3_2
        replace H := ifE H; rcases H with ⟨c18b0, c18b1, H⟩ | ⟨c18, c18b0, c18b1, H⟩
        ·have H' := ah.mk H
         clear H
         go_wp2
         go_roundg k2
         case measure => have := HJ1.out; have := HK2.out; omega
         case rel => exact ⟨(wrap64 (x3_2 + 1)), EQ, H', ⟨by have := HJ1.out; have := HK2.out; omega⟩, ⟨BK⟩, ⟨BL⟩⟩
        ·obtain rfl := Option.some.inj H
         go_wp2
         go_ret
         exact ⟨EWW, BL⟩
      ·obtain rfl := Option.some.inj H
       go_wp2
       go_ret
       exact ⟨EWW, BL⟩
mutual
def bA.j0 : Nat → Int → Int → Int → Int → Int → Int → ByteArray → Option (Int)
 | 0, _, _, _, _, _, _, _ => none
 | k + 1, a, b, c, d, e, f, g => if 0 ≤ a then (if a < (g.size : Int) then (if (bt g a) = 46 then (if c > 0 then (if 0 ≤ (wrap64 (a - b)) then (if (wrap64 (a - b)) < (g.size : Int) then (bA.j1 k a b c d ((bt g (wrap64 (a - b))) == 46) e f g) else (none)) else (none)) else (bA.j1 k a b c d false e f g)) else (bA.j1 k a b c d true e f g)) else (none)) else (none)
def bA.j1 : Nat → Int → Int → Int → Int → Bool → Int → Int → ByteArray → Option (Int)
 | 0, _, _, _, _, _, _, _, _ => none
 | k + 1, a, b, c, d, e, f, g, h => if e = true then (some 0) else (bA.l0 k a b c d 0 f g h)
def bA.l0 : Nat → Int → Int → Int → Int → Int → Int → Int → ByteArray → Option (Int)
 | 0, _, _, _, _, _, _, _, _ => none
 | k + 1, a, b, c, d, e, f, g, h => if (wrap64 (c + e)) < d then (if 0 ≤ (wrap64 (a + (wrap64 (e * b)))) then (if (wrap64 (a + (wrap64 (e * b)))) < (h.size : Int) then (if (bt h (wrap64 (a + (wrap64 (e * b))))) = 46 then (bA.l0 k a b c d (wrap64 (e + 1)) f g h) else (some e)) else (none)) else (none)) else (some e)
end
def bA.f (k : Nat) (FV FW : Int) (FX : ByteArray) (a1 : Int) (a2 : Bool) : Option (Int) := if FW = 0 then (none) else (if a2 = true then (bA.j0 k a1 FW (wrap64 (Int.tdiv a1 FW)) FV FV FW FX) else (bA.j0 k a1 1 (Int.tmod a1 FW) FW FV FW FX))
theorem bA.calls (k : Nat) (FV FW : Int) (FX : ByteArray) (a1 : Int) (a2 : Bool) (r : Int) (w : World) (h : bA.f k FV FW FX a1 a2 = some r) :
  Calls Tryz.prog 101 #[.agg #[.int .i64 FV, .int .i64 FW, .string FX], .int .i64 a1, .bool a2] w fun e w' => e = .returned (.int .i64 r) ∧ Below w.heap.size w w' := by
 have hu32 := Tryz.underlying32
 have HB := ah.mk (Below.refl w.heap.size w)
 unfold bA.f at h
 have H := h
 clear h
 by_cases c4 : FW = 0
 ·rw [if_pos c4] at H
  exact absurd H (by simp)
 ·rw [if_neg c4] at H
  have c4b0 : (FW == 0) = false := beq_eq_false_iff_ne.mpr c4
  have c4b1 : (FW != 0) = true := bne_iff_ne.mpr c4
  have HC5 := ah.mk H
  clear H
  go_enter Tryz.func101, Tryz.ntmps101
  go_upto_if 17 with (first | ((with_reducible refine aJ (N := 3) rfl ?_); refine bg (N := 3) (cs := #[.int .i64 FV, .int .i64 FW, .string FX]) (t := 32) ?_; intro gb208 hg w9000 hbox hb; have BK208 := ah.mk hbox; have GW208 := SZ (w := w) hg; have GE208 := GW208; replace HB := BS (w := w) hb; clear hb hbox hg; obtain ⟨hcz9001_0, hcz9001_1, hcz9001_2, hfz9001_0, hfz9001_1, hfz9001_2⟩ := cz3 BK208.out))
  (try simp only [Act.put, List.setIfInBounds_toArray, List.set_cons_zero, List.set_cons_succ])
  go_cut [7, 8, 9] (fun v7 v8 v9 wc => ∃ (kq : Nat) (x7_4 : Int) (x8_4 : Int) (x9_4 : Int), v7 = .int .i64 x7_4 ∧ v8 = .int .i64 x8_4 ∧ v9 = .int .i64 x9_4 ∧ ah (bA.j0 kq a1 x7_4 x8_4 x9_4 FV FW FX = some r) ∧ ah (kq ≤ k) ∧ ah (wc.heap[gb208]? = some (.cells #[.int .i64 FV, .int .i64 FW, .string FX] 32 (0, 0))) ∧ ah (Below w.heap.size w wc))
  case first =>
   have H := HC5.out
   clear HC5
   by_cases c8 : a2 = true
   ·subst c8
    rw [if_pos rfl] at H
    have H' := ah.mk H
    clear H
    obtain ⟨hcz9002_0, hcz9002_1, hcz9002_2, hfz9002_0, hfz9002_1, hfz9002_2⟩ := cz3 BK208.out
    go_wp2
    go_meet
    case rel => exact ⟨_, (FW), (wrap64 (Int.tdiv a1 FW)), (FV), EQ, EQ, EQ, H', ⟨by first | omega | exact Nat.le_refl _⟩, ⟨BK⟩, ⟨BL⟩⟩
   ·replace c8 := Bool.eq_false_iff.mpr c8
    subst c8
    rw [if_neg Bool.false_ne_true] at H
    have H' := ah.mk H
    clear H
    go_wp2
    go_meet
    case rel => exact ⟨_, (1), (Int.tmod a1 FW), (FW), EQ, EQ, EQ, H', ⟨by first | omega | exact Nat.le_refl _⟩, ⟨BK⟩, ⟨BL⟩⟩
  case rest =>
   clear HC5
   try clear c4
   try clear c4b0
   try clear c4b1
   try clear hcz9001_0
   try clear hcz9001_1
   try clear hcz9001_2
   try clear hfz9001_0
   try clear hfz9001_1
   try clear hfz9001_2
   obtain ⟨kq, x7_4, x8_4, x9_4, rfl, rfl, rfl, HA, HJ4, BK208, HB⟩ := hcut
   cases kq with
   | zero => exact absurd HA.out (by simp [bA.j0])
   | succ kj4 =>
    have H := HA.out
    clear HA
    simp only [bA.j0] at H
    have HC10 := ah.mk H
    clear H
    go_upto_region 8 with (fail)
    go_cut [43] (fun v43 wc => ∃ (kq : Nat) (x43_9 : Bool), v43 = .bool x43_9 ∧ ah (bA.j1 kq a1 x7_4 x8_4 x9_4 x43_9 FV FW FX = some r) ∧ ah (kq ≤ kj4) ∧ ah (wc.heap[gb208]? = some (.cells #[.int .i64 FV, .int .i64 FW, .string FX] 32 (0, 0))) ∧ ah (Below w.heap.size w wc))
    case first =>
     have H := HC10.out
     clear HC10
     replace H := ifN H; obtain ⟨c11b0, H⟩ := H
     (first | rw [c11b0] | (simp only [iC, jg]; rw [c11b0]) | skip)
     replace H := ifN H; obtain ⟨c12b0, H⟩ := H
     obtain ⟨hcz9003_0, hcz9003_1, hcz9003_2, hfz9003_0, hfz9003_1, hfz9003_2⟩ := cz3 BK208.out
     have p13 : (0 ≤ (a1 : Int)) = True := OT
     have q13 : (a1 < (FX.size : Int)) = True := OT
     have hx13 := fO FX a1
     replace H := ifE H; rcases H with ⟨c14b0, c14b1, H⟩ | ⟨c14, c14b0, c14b1, H⟩
     ·by_cases c15 : x8_4 > 0
      ·rw [if_pos c15] at H
       have c15b0 : decide (0 < x8_4) = true := decide_eq_true c15
       clear c15
       obtain ⟨ji16, hji16⟩ : ∃ j_ : Int, (wrap64 (a1 - x7_4)) = j_ := ⟨_, rfl⟩
       replace H : (if 0 ≤ (ji16) then (if (ji16) < (FX.size : Int) then (bA.j1 kj4 a1 x7_4 x8_4 x9_4 ((bt FX (ji16)) == 46) FV FW FX) else (none)) else (none)) = some r := by first | (rw [hji16] at H; exact H) | (simp only [hji16] at H ⊢; exact H)
       have hji16w : (IntKind.i64.wrap (a1 - x7_4)) = ji16 := (iC _).trans hji16
       replace H := ifN H; obtain ⟨c17b0, H⟩ := H
       replace H := ifN H; obtain ⟨c18b0, H⟩ := H
       have H' := ah.mk H
       clear H
       have p19 : (0 ≤ ((ji16) : Int)) = True := OT
       have q19 : ((ji16) < (FX.size : Int)) = True := OT
       have hx19 := fO FX (ji16)
       go_wp2
       go_meet
       case rel => exact ⟨_, (((bt FX (ji16)) == 46)), (by first | rfl | (simp; done) | (simp only [← hji16] <;> (first | rfl | simp)) | (simp [*]; done)), H', ⟨by have := HJ4.out; first | omega | exact Nat.le_refl _⟩, ⟨BK⟩, ⟨BL⟩⟩
      ·rw [if_neg c15] at H
       have c15b0 : decide (0 < x8_4) = false := decide_eq_false c15
       clear c15
       have H' := ah.mk H
       clear H
       go_wp2
       go_meet
       case rel => exact ⟨_, (false), EQ, H', ⟨by have := HJ4.out; first | omega | exact Nat.le_refl _⟩, ⟨BK⟩, ⟨BL⟩⟩
     ·have H' := ah.mk H
      clear H
      go_wp2
      go_meet
      case rel => exact ⟨_, (true), EQ, H', ⟨by have := HJ4.out; first | omega | exact Nat.le_refl _⟩, ⟨BK⟩, ⟨BL⟩⟩
    case rest =>
     clear HC10
     try clear c4
     try clear c4b0
     try clear c4b1
     try clear hcz9001_0
     try clear hcz9001_1
     try clear hcz9001_2
     try clear hfz9001_0
     try clear hfz9001_1
     try clear hfz9001_2
     obtain ⟨kq, x43_9, rfl, HA, HJ9, BK208, HB⟩ := hcut
     cases kq with
     | zero => exact absurd HA.out (by simp [bA.j1])
     | succ kj9 =>
      have H := HA.out
      clear HA
      simp only [bA.j1] at H
      replace H := ifB H; rcases H with ⟨rfl, H⟩ | ⟨rfl, H⟩
      ·obtain rfl := Option.some.inj H
       go_wp2
       go_ret
       exact ⟨EWW, BL⟩
      ·have H' := ah.mk H
       clear H
       go_wp2
       go_loopg [10] kj9 (fun kq v10 w' => ∃ (x10_3 : Int), v10 = .int .i64 x10_3 ∧ ah (bA.l0 kq a1 x7_4 x8_4 x9_4 x10_3 FV FW FX = some r) ∧ ah (kq ≤ kj9) ∧ ah (w'.heap[gb208]? = some (.cells #[.int .i64 FV, .int .i64 FW, .string FX] 32 (0, 0))) ∧ ah (Below w.heap.size w w'))
       case atStart => exact ⟨(0), EQ, H', ⟨Nat.le_refl _⟩, ⟨BK⟩, ⟨BL⟩⟩
       case round =>
        clear H'
        try clear c4
        try clear c4b0
        try clear c4b1
        try clear c23
        try clear hcz9001_0
        try clear hcz9001_1
        try clear hcz9001_2
        try clear hfz9001_0
        try clear hfz9001_1
        try clear hfz9001_2
        obtain ⟨x10_3, rfl, HA, HK3, BK208, HB⟩ := hrel
        cases gk with
        | zero => exact absurd HA.out (by simp [bA.l0])
        | succ k3 =>
         have H := HA.out
         clear HA
         simp only [bA.l0] at H
         replace H := ifD H; rcases H with ⟨c24b0, H⟩ | ⟨c24b0, H⟩
         ·obtain ⟨ji25, hji25⟩ : ∃ j_ : Int, (wrap64 (a1 + (wrap64 (x10_3 * x7_4)))) = j_ := ⟨_, rfl⟩
          replace H : (if 0 ≤ (ji25) then (if (ji25) < (FX.size : Int) then (if (bt FX (ji25)) = 46 then (bA.l0 k3 a1 x7_4 x8_4 x9_4 (wrap64 (x10_3 + 1)) FV FW FX) else (some x10_3)) else (none)) else (none)) = some r := by first | (rw [hji25] at H; exact H) | (simp only [hji25] at H ⊢; exact H)
          have hji25w : (IntKind.i64.wrap (a1 + (wrap64 (x10_3 * x7_4)))) = ji25 := (iC _).trans hji25
          replace H := ifN H; obtain ⟨c26b0, H⟩ := H
          replace H := ifN H; obtain ⟨c27b0, H⟩ := H
          obtain ⟨hcz9004_0, hcz9004_1, hcz9004_2, hfz9004_0, hfz9004_1, hfz9004_2⟩ := cz3 BK208.out
          have p28 : (0 ≤ ((ji25) : Int)) = True := OT
          have q28 : ((ji25) < (FX.size : Int)) = True := OT
          have hx28 := fO FX (ji25)
          replace H := ifE H; rcases H with ⟨c29b0, c29b1, H⟩ | ⟨c29, c29b0, c29b1, H⟩
          ·have H' := ah.mk H
           clear H
           go_wp2
           go_roundg k3
           case measure => have := HJ4.out; have := HJ9.out; have := HK3.out; omega
           case rel => exact ⟨(wrap64 (x10_3 + 1)), EQ, H', ⟨by have := HJ4.out; have := HJ9.out; have := HK3.out; omega⟩, ⟨BK⟩, ⟨BL⟩⟩
          ·obtain rfl := Option.some.inj H
           go_wp2
           go_ret
           exact ⟨by first | rfl | (simp [l9, lY] <;> rfl) | (simp only [← hji25]; first | rfl | (simp [l9, lY] <;> rfl)) | (simp [*, l9, lY] <;> rfl), BL⟩
         ·obtain rfl := Option.some.inj H
          go_wp2
          go_ret
          exact ⟨EWW, BL⟩
mutual
def aT.l0 : Nat → List (dJ) → Int → Int → Int → Int → ByteArray → Option ((List (dJ)))
 | 0, _, _, _, _, _, _ => none
 | k + 1, a, b, c, d, e, f => if c < (f.size : Int) then ((bL.f k d e f).bind fun g => (aT.j1 k a b c g d e f)) else (aT.j1 k a b c false d e f)
def aT.j1 : Nat → List (dJ) → Int → Int → Bool → Int → Int → ByteArray → Option ((List (dJ)))
 | 0, _, _, _, _, _, _, _ => none
 | k + 1, a, b, c, d, e, f, g => if d = true then ((bA.f k e f g c false).bind fun h => ((bA.f k e f g c true).bind fun i => (if h ≥ 2 then (aT.j2 k a b c h i true e f g) else (aT.j2 k a b c h i (decide (i ≥ 2)) e f g)))) else (some a)
def aT.j2 : Nat → List (dJ) → Int → Int → Int → Int → Bool → Int → Int → ByteArray → Option ((List (dJ)))
 | 0, _, _, _, _, _, _, _, _, _ => none
 | k + 1, a, b, c, d, e, f, g, h, i => if f = true then (aT.j3 k a (wrap64 (b + 1)) c d e g h i) else (aT.j3 k a b c d e g h i)
def aT.j3 : Nat → List (dJ) → Int → Int → Int → Int → Int → Int → ByteArray → Option ((List (dJ)))
 | 0, _, _, _, _, _, _, _, _ => none
 | k + 1, a, b, c, d, e, f, g, h => if d ≥ 2 then (if a.length < 4398046511104 then ((some (a ++ [(⟨b, false, c, d⟩ : dJ)] : List (dJ))).bind fun i => (if e ≥ 2 then (if i.length < 4398046511104 then (aT.l0 k (i ++ [(⟨b, true, c, e⟩ : dJ)]) b (wrap64 (c + 1)) f g h) else (none)) else (aT.l0 k i b (wrap64 (c + 1)) f g h))) else (none)) else (if e ≥ 2 then (if a.length < 4398046511104 then (aT.l0 k (a ++ [(⟨b, true, c, e⟩ : dJ)]) b (wrap64 (c + 1)) f g h) else (none)) else (aT.l0 k a b (wrap64 (c + 1)) f g h))
end
def aT.f (k : Nat) (FV FW : Int) (FX : ByteArray) : Option ((List (dJ))) := aT.l0 k (([] : List (dJ))) 0 0 FV FW FX
theorem aT.calls (k : Nat) (FV FW : Int) (FX : ByteArray) (r : List (dJ)) (w : World) (h : aT.f k FV FW FX = some r) :
  Calls Tryz.prog 49 #[.agg #[.int .i64 FV, .int .i64 FW, .string FX]] w fun e w' => ∃ v0_ : Value, e = .returned (v0_) ∧ Kd.R lW 115 w' w.heap.size (fun _ => True) v0_ r ∧ Below w.heap.size w w' := by
 have hu32 := Tryz.underlying32
 have hu115 := Tryz.underlying115
 have HB := ah.mk (Below.refl w.heap.size w)
 unfold aT.f at h
 have H := h
 clear h
 obtain ⟨y210, hy210⟩ : ∃ y_ : List (dJ), y_ = (([] : List (dJ))) := ⟨_, rfl⟩
 replace H : (aT.l0 k y210 0 0 FV FW FX) = some r := by first | (rw [hy210]; with_reducible exact H) | (have H2_ := (Option.bind_some _ _).symm.trans H; rw [hy210]; with_reducible exact H2_) | (have H2_ := (Option.bind_some _ _).symm.trans H; with_reducible exact H2_) | with_reducible exact H | (rw [hy210]; exact H) | exact H
 have Ny210 := ah.mk hy210
 clear hy210
 have H' := ah.mk H
 clear H
 go_enter Tryz.func49, Tryz.ntmps49
 go_wp2_with (first | ((with_reducible refine aJ (N := 1) rfl ?_); refine bg (N := 1) (cs := #[.int .i64 FV, .int .i64 FW, .string FX]) (t := 32) ?_; intro gb209 hg w2 hbox hb; have BK209 := ah.mk hbox; have GW209 := SZ (w := w) hg; have GE209 := GW209; replace HB := BS (w := w) hb; clear hb hbox hg) | ((with_reducible refine aJ (N := 8) rfl ?_); refine Kd.sK lW _ 115 ?hg (N := 8) ?hd (xs := ([] : List (dJ))) (inner := []) (ok := fun _ => True) (okp := fun _ => True) ?hr ?hp (fun _ hk => hk) trivial (Below.refl _ _) (Nat.le_refl _) (by simp) ?_; (case hd => rfl); (case hg => rfl); (case hr => first | (go_simp; done) | (go_simp; rfl)); (case hp => exact (gX.none _ _)); intro v211 w3 ho4 hb hg_ hnew_; clear hg_ hnew_; (first | rw [← Ny210.out] at ho4 | (simp only [Int.reduceToNat] at ho4; rw [← Ny210.out] at ho4)); have n0_ := ah.mk (Kd.cO ho4 (aQ BL)); replace BK209 := KB BK209 hb; replace HB := BS (w := w) hb; have HO212 := n0_; clear n0_; clear hb ho4))
 go_loopg [3, 4, 5] k (fun kq v3 v4 v5 w' => ∃ (x3_1 : List (dJ)) (x4_1 : Int) (x5_1 : Int), v4 = .int .i64 x4_1 ∧ v5 = .int .i64 x5_1 ∧ ah (aT.l0 kq x3_1 x4_1 x5_1 FV FW FX = some r) ∧ ah (kq ≤ k) ∧ ah (Kd.R lW 115 w' w.heap.size (fun _ => True) v3 x3_1) ∧ ah (w'.heap[gb209]? = some (.cells #[.int .i64 FV, .int .i64 FW, .string FX] 32 (0, 0))) ∧ ah (Below w.heap.size w w'))
 case atStart => exact ⟨(y210), (0), (0), EQ, EQ, H', ⟨Nat.le_refl _⟩, ⟨(RR HO212)⟩, ⟨BK⟩, ⟨BL⟩⟩
 case round =>
  clear H'
  obtain ⟨x3_1, x4_1, x5_1, rfl, rfl, HA, HK1, HO_3, BK209, HB⟩ := hrel
  cases gk with
  | zero => exact absurd HA.out (by simp [aT.l0])
  | succ k1 =>
   have H := HA.out
   clear HA
   simp only [aT.l0] at H
   have HC5 := ah.mk H
   clear H
   go_upto_region 4 with (fail)
   go_cut [17] (fun v17 wc => ∃ (kq : Nat) (x17_4 : Bool), v17 = .bool x17_4 ∧ ah (aT.j1 kq x3_1 x4_1 x5_1 x17_4 FV FW FX = some r) ∧ ah (kq ≤ k1) ∧ ah (Kd.R lW 115 wc w.heap.size (fun _ => True) u3 x3_1) ∧ ah (wc.heap[gb209]? = some (.cells #[.int .i64 FV, .int .i64 FW, .string FX] 32 (0, 0))) ∧ ah (Below w.heap.size w wc))
   case first =>
    have H := HC5.out
    clear HC5
    obtain ⟨hcz6000_0, hcz6000_1, hcz6000_2, hfz6000_0, hfz6000_1, hfz6000_2⟩ := cz3 BK209.out
    replace H := ifD H; rcases H with ⟨c6b0, H⟩ | ⟨c6b0, H⟩
    ·(first | rw [c6b0] | (simp only [iC, jg]; rw [c6b0]) | skip)
     replace H := be H; obtain ⟨t213, A7, H⟩ := H
     have H' := ah.mk H
     clear H
     go_wp2_with (first | (go_at_call 96; (with_reducible refine (bL.calls k1 FV FW FX t213 _ A7.out).mono ?_); rintro e w6001 ⟨rfl, hb⟩; replace HO_3 := RB HO_3 hb; replace BK209 := KB BK209 hb; replace HB := BS (w := w) hb; (try clear hb); (try clear hb2); (try clear hk); (try clear hi)))
     go_meet
     case rel => exact ⟨_, (t213), EQ, H', ⟨by have := HK1.out; first | omega | exact Nat.le_refl _⟩, ⟨(RR HO_3)⟩, ⟨BK⟩, ⟨BL⟩⟩
    ·(first | rw [c6b0] | (simp only [iC, jg]; rw [c6b0]) | skip)
     have H' := ah.mk H
     clear H
     go_wp2
     go_meet
     case rel => exact ⟨_, (false), EQ, H', ⟨by have := HK1.out; first | omega | exact Nat.le_refl _⟩, ⟨(RR HO_3)⟩, ⟨BK⟩, ⟨BL⟩⟩
   case rest =>
    clear HC5
    obtain ⟨kq, x17_4, rfl, HA, HJ4, HO_3, BK209, HB⟩ := hcut
    cases kq with
    | zero => exact absurd HA.out (by simp [aT.j1])
    | succ kj4 =>
     have H := HA.out
     clear HA
     simp only [aT.j1] at H
     replace H := ifB H; rcases H with ⟨rfl, H⟩ | ⟨rfl, H⟩
     ·replace H := be H; obtain ⟨t214, A12, H⟩ := H
      replace H := be H; obtain ⟨t215, A13, H⟩ := H
      have HC14 := ah.mk H
      clear H
      obtain ⟨hcz5000_0, hcz5000_1, hcz5000_2, hfz5000_0, hfz5000_1, hfz5000_2⟩ := cz3 BK209.out
      go_upto_region 8 with (first | ((with_reducible refine ay (f := 101) rfl ?_); refine bE (some 22) Tryz.func101 #[.agg #[.int .i64 FV, .int .i64 FW, .string FX], .int .i64 x5_1, .bool false] ?_; (with_reducible refine (bA.calls kj4 FV FW FX x5_1 false t214 _ A12.out).mono ?_); rintro e w5001 ⟨rfl, hb⟩; refine ⟨_, rfl, ?_⟩; replace HO_3 := RB HO_3 hb; replace BK209 := KB BK209 hb; replace HB := BS (w := w) hb; (try clear hb); obtain ⟨hcz5002_0, hcz5002_1, hcz5002_2, hfz5002_0, hfz5002_1, hfz5002_2⟩ := cz3 BK209.out) | ((with_reducible refine ay (f := 101) rfl ?_); refine bE (some 25) Tryz.func101 #[.agg #[.int .i64 FV, .int .i64 FW, .string FX], .int .i64 x5_1, .bool true] ?_; (with_reducible refine (bA.calls kj4 FV FW FX x5_1 true t215 _ A13.out).mono ?_); rintro e w5003 ⟨rfl, hb⟩; refine ⟨_, rfl, ?_⟩; replace HO_3 := RB HO_3 hb; replace BK209 := KB BK209 hb; replace HB := BS (w := w) hb; (try clear hb)))
      (try simp only [Act.put, List.setIfInBounds_toArray, List.set_cons_zero, List.set_cons_succ])
      go_cut [31] (fun v31 wc => ∃ (kq : Nat) (x31_13 : Bool), v31 = .bool x31_13 ∧ ah (aT.j2 kq x3_1 x4_1 x5_1 t214 t215 x31_13 FV FW FX = some r) ∧ ah (kq ≤ kj4) ∧ ah (Kd.R lW 115 wc w.heap.size (fun _ => True) u3 x3_1) ∧ ah (wc.heap[gb209]? = some (.cells #[.int .i64 FV, .int .i64 FW, .string FX] 32 (0, 0))) ∧ ah (Below w.heap.size w wc))
      case first =>
       have H := HC14.out
       clear HC14
       by_cases c19 : t214 ≥ 2
       ·rw [if_pos c19] at H
        have c19b0 : decide (2 ≤ t214) = true := decide_eq_true c19
        clear c19
        (first | rw [c19b0] | (simp only [iC, jg]; rw [c19b0]) | skip)
        have H' := ah.mk H
        clear H
        go_wp2
        go_meet
        case rel => exact ⟨_, (true), EQ, H', ⟨by have := HK1.out; have := HJ4.out; first | omega | exact Nat.le_refl _⟩, ⟨(RR HO_3)⟩, ⟨BK⟩, ⟨BL⟩⟩
       ·rw [if_neg c19] at H
        have c19b0 : decide (2 ≤ t214) = false := decide_eq_false c19
        clear c19
        (first | rw [c19b0] | (simp only [iC, jg]; rw [c19b0]) | skip)
        have H' := ah.mk H
        clear H
        go_wp2
        go_meet
        case rel => exact ⟨_, (decide (t215 ≥ 2)), EQ, H', ⟨by have := HK1.out; have := HJ4.out; first | omega | exact Nat.le_refl _⟩, ⟨(RR HO_3)⟩, ⟨BK⟩, ⟨BL⟩⟩
      case rest =>
       clear HC14
       try clear c11
       try clear hcz5000_0
       try clear hcz5000_1
       try clear hcz5000_2
       try clear hcz5002_0
       try clear hcz5002_1
       try clear hcz5002_2
       try clear hfz5000_0
       try clear hfz5000_1
       try clear hfz5000_2
       try clear hfz5002_0
       try clear hfz5002_1
       try clear hfz5002_2
       obtain ⟨kq, x31_13, rfl, HA, HJ13, HO_3, BK209, HB⟩ := hcut
       cases kq with
       | zero => exact absurd HA.out (by simp [aT.j2])
       | succ kj13 =>
        have H := HA.out
        clear HA
        simp only [aT.j2] at H
        have HC20 := ah.mk H
        clear H
        go_upto_if 31 with (fail)
        go_cut [4] (fun v4 wc => ∃ (kq : Nat) (x4_19 : Int), v4 = .int .i64 x4_19 ∧ ah (aT.j3 kq x3_1 x4_19 x5_1 t214 t215 FV FW FX = some r) ∧ ah (kq ≤ kj13) ∧ ah (Kd.R lW 115 wc w.heap.size (fun _ => True) u3 x3_1) ∧ ah (wc.heap[gb209]? = some (.cells #[.int .i64 FV, .int .i64 FW, .string FX] 32 (0, 0))) ∧ ah (Below w.heap.size w wc))
        case first =>
         have H := HC20.out
         clear HC20
         replace H := ifB H; rcases H with ⟨rfl, H⟩ | ⟨rfl, H⟩
         ·have H' := ah.mk H
          clear H
          go_wp2
          go_meet
          case rel => exact ⟨_, (wrap64 (x4_1 + 1)), EQ, H', ⟨by have := HK1.out; have := HJ4.out; have := HJ13.out; first | omega | exact Nat.le_refl _⟩, ⟨(RR HO_3)⟩, ⟨BK⟩, ⟨BL⟩⟩
         ·have H' := ah.mk H
          clear H
          go_wp2
          go_meet
          case rel => exact ⟨_, (x4_1), EQ, H', ⟨by have := HK1.out; have := HJ4.out; have := HJ13.out; first | omega | exact Nat.le_refl _⟩, ⟨(RR HO_3)⟩, ⟨BK⟩, ⟨BL⟩⟩
        case rest =>
         clear HC20
         try clear c11
         try clear hcz5000_0
         try clear hcz5000_1
         try clear hcz5000_2
         try clear hcz5002_0
         try clear hcz5002_1
         try clear hcz5002_2
         try clear hfz5000_0
         try clear hfz5000_1
         try clear hfz5000_2
         try clear hfz5002_0
         try clear hfz5002_1
         try clear hfz5002_2
         obtain ⟨kq, x4_19, rfl, HA, HJ19, HO_3, BK209, HB⟩ := hcut
         cases kq with
         | zero => exact absurd HA.out (by simp [aT.j3])
         | succ kj19 =>
          have H := HA.out
          clear HA
          simp only [aT.j3] at H
          by_cases c22 : t214 ≥ 2
          ·rw [if_pos c22] at H
           have c22b0 : decide (2 ≤ t214) = true := decide_eq_true c22
           clear c22
           replace H := ifP H; obtain ⟨c23, H⟩ := H
           have LMc23 := ah.mk c23
           clear c23
           obtain ⟨y216, hy216⟩ : ∃ y_ : List (dJ), y_ = (x3_1 ++ [(⟨x4_19, false, x5_1, t214⟩ : dJ)]) := ⟨_, rfl⟩
           replace H : (if t215 ≥ 2 then (if y216.length < 4398046511104 then (aT.l0 kj19 (y216 ++ [(⟨x4_19, true, x5_1, t215⟩ : dJ)]) x4_19 (wrap64 (x5_1 + 1)) FV FW FX) else (none)) else (aT.l0 kj19 y216 x4_19 (wrap64 (x5_1 + 1)) FV FW FX)) = some r := by first | (rw [hy216]; with_reducible exact H) | (have H2_ := (Option.bind_some _ _).symm.trans H; rw [hy216]; with_reducible exact H2_) | (have H2_ := (Option.bind_some _ _).symm.trans H; with_reducible exact H2_) | with_reducible exact H | (rw [hy216]; exact H) | exact H
           have Ny216 := ah.mk hy216
           clear hy216
           replace H := ah.mk H
           go_wp2_with (first | ((with_reducible refine dQ (b := .append) (xs := #[.tmp 36, .tmp 41]) rfl ?_); at_builtin; refine Kd.gU lW (w0 := w) w.heap.size rfl (.tmp 36) (.tmp 41) 75 115 (.agg #[(.int .i64 0), (.bool false), (.int .i64 0), (.int .i64 0)]) 32 rfl Tryz.underlying75 qz rfl (by decide) (by omega) u3 x3_1 (⟨x4_19, false, x5_1, t214⟩ : dJ) [.int .i64 x4_19, .bool false, .int .i64 x5_1, .int .i64 t214] (fun _ => True) (fun _ => False) rfl rfl ?aP (fun _ hk => hk.elim) ?aF ?aO ?aB ?aS ?aL ?_; (case aP => exact oP _ _ _ (⟨x4_19, false, x5_1, t214⟩ : dJ)); (case aB => exact BL); (case aF => exact (fun _ _ => trivial)); (case aO => exact (RR HO_3)); (case aS => exact (aQ BL)); (case aL => have := LMc23.out; omega); intro v217 w5004 ho hb hg hat; rw [← Ny216.out] at ho; have n0_ := ah.mk (d9 (g := gb209) (o := .cells #[.int .i64 FV, .int .i64 FW, .string FX] 32 (0, 0)) BK hg (Kd.mg HO_3.out BK209.out (by decide))); have n1_ := ah.mk (hb); have n2_ := ah.mk (ho); clear BK209 HB HO_3; have BK209 := n0_; have HB := n1_; have HO218 := n2_; clear n0_ n1_ n2_; clear ho hb hg hat; refine bU ?_))
           refine Hide.mk ?_
           replace H := H.out
           by_cases c24 : t215 ≥ 2
           ·rw [if_pos c24] at H
            have c24b0 : decide (2 ≤ t215) = true := decide_eq_true c24
            clear c24
            replace H := ifP H; obtain ⟨c25, H⟩ := H
            have LMc25 := ah.mk c25
            clear c25
            obtain ⟨y219, hy219⟩ : ∃ y_ : List (dJ), y_ = (y216 ++ [(⟨x4_19, true, x5_1, t215⟩ : dJ)]) := ⟨_, rfl⟩
            replace H : (aT.l0 kj19 y219 x4_19 (wrap64 (x5_1 + 1)) FV FW FX) = some r := by first | (rw [hy219]; with_reducible exact H) | (have H2_ := (Option.bind_some _ _).symm.trans H; rw [hy219]; with_reducible exact H2_) | (have H2_ := (Option.bind_some _ _).symm.trans H; with_reducible exact H2_) | with_reducible exact H | (rw [hy219]; exact H) | exact H
            have Ny219 := ah.mk hy219
            clear hy219
            have H' := ah.mk H
            clear H
            try go_wp2_with (first | ((with_reducible refine dQ (b := .append) (xs := #[.tmp 45, .tmp 50]) rfl ?_); at_builtin; refine Kd.gU lW (w0 := w) w.heap.size rfl (.tmp 45) (.tmp 50) 75 115 (.agg #[(.int .i64 0), (.bool false), (.int .i64 0), (.int .i64 0)]) 32 rfl Tryz.underlying75 qz rfl (by decide) (by omega) v217 y216 (⟨x4_19, true, x5_1, t215⟩ : dJ) [.int .i64 x4_19, .bool true, .int .i64 x5_1, .int .i64 t215] (fun _ => True) (fun _ => False) rfl rfl ?aP (fun _ hk => hk.elim) ?aF ?aO ?aB ?aS ?aL ?_; (case aP => exact oP _ _ _ (⟨x4_19, true, x5_1, t215⟩ : dJ)); (case aB => exact BL); (case aF => exact (fun _ _ => trivial)); (case aO => exact (RR HO218)); (case aS => exact (aQ BL)); (case aL => have := LMc25.out; omega); intro v220 w5005 ho hb hg hat; rw [← Ny219.out] at ho; have n0_ := ah.mk (d9 (g := gb209) (o := .cells #[.int .i64 FV, .int .i64 FW, .string FX] 32 (0, 0)) BK hg (Kd.mg HO218.out BK209.out (by decide))); have n1_ := ah.mk (hb); have n2_ := ah.mk (ho); clear BK209 HB HO218; have BK209 := n0_; have HB := n1_; have HO221 := n2_; clear n0_ n1_ n2_; clear ho hb hg hat))
            go_roundg kj19
            case measure => have := HK1.out; have := HJ4.out; have := HJ13.out; have := HJ19.out; omega
            case rel => exact ⟨(y219), (x4_19), (wrap64 (x5_1 + 1)), EQ, EQ, H', ⟨by have := HK1.out; have := HJ4.out; have := HJ13.out; have := HJ19.out; omega⟩, ⟨(RR HO221)⟩, ⟨BK⟩, ⟨BL⟩⟩
           ·rw [if_neg c24] at H
            have c24b0 : decide (2 ≤ t215) = false := decide_eq_false c24
            clear c24
            have H' := ah.mk H
            clear H
            try go_wp2
            go_roundg kj19
            case measure => have := HK1.out; have := HJ4.out; have := HJ13.out; have := HJ19.out; omega
            case rel => exact ⟨(y216), (x4_19), (wrap64 (x5_1 + 1)), EQ, EQ, H', ⟨by have := HK1.out; have := HJ4.out; have := HJ13.out; have := HJ19.out; omega⟩, ⟨(RR HO218)⟩, ⟨BK⟩, ⟨BL⟩⟩
          ·rw [if_neg c22] at H
           have c22b0 : decide (2 ≤ t214) = false := decide_eq_false c22
           clear c22
           by_cases c29 : t215 ≥ 2
           ·rw [if_pos c29] at H
            have c29b0 : decide (2 ≤ t215) = true := decide_eq_true c29
            clear c29
            replace H := ifP H; obtain ⟨c30, H⟩ := H
            have LMc30 := ah.mk c30
            clear c30
            obtain ⟨y222, hy222⟩ : ∃ y_ : List (dJ), y_ = (x3_1 ++ [(⟨x4_19, true, x5_1, t215⟩ : dJ)]) := ⟨_, rfl⟩
            replace H : (aT.l0 kj19 y222 x4_19 (wrap64 (x5_1 + 1)) FV FW FX) = some r := by first | (rw [hy222]; with_reducible exact H) | (have H2_ := (Option.bind_some _ _).symm.trans H; rw [hy222]; with_reducible exact H2_) | (have H2_ := (Option.bind_some _ _).symm.trans H; with_reducible exact H2_) | with_reducible exact H | (rw [hy222]; exact H) | exact H
            have Ny222 := ah.mk hy222
            clear hy222
            have H' := ah.mk H
            clear H
            go_wp2_with (first | ((with_reducible refine dQ (b := .append) (xs := #[.tmp 45, .tmp 50]) rfl ?_); at_builtin; refine Kd.gU lW (w0 := w) w.heap.size rfl (.tmp 45) (.tmp 50) 75 115 (.agg #[(.int .i64 0), (.bool false), (.int .i64 0), (.int .i64 0)]) 32 rfl Tryz.underlying75 qz rfl (by decide) (by omega) u3 x3_1 (⟨x4_19, true, x5_1, t215⟩ : dJ) [.int .i64 x4_19, .bool true, .int .i64 x5_1, .int .i64 t215] (fun _ => True) (fun _ => False) rfl rfl ?aP (fun _ hk => hk.elim) ?aF ?aO ?aB ?aS ?aL ?_; (case aP => exact oP _ _ _ (⟨x4_19, true, x5_1, t215⟩ : dJ)); (case aB => exact BL); (case aF => exact (fun _ _ => trivial)); (case aO => exact (RR HO_3)); (case aS => exact (aQ BL)); (case aL => have := LMc30.out; omega); intro v223 w5004 ho hb hg hat; rw [← Ny222.out] at ho; have n0_ := ah.mk (d9 (g := gb209) (o := .cells #[.int .i64 FV, .int .i64 FW, .string FX] 32 (0, 0)) BK hg (Kd.mg HO_3.out BK209.out (by decide))); have n1_ := ah.mk (hb); have n2_ := ah.mk (ho); clear BK209 HB HO_3; have BK209 := n0_; have HB := n1_; have HO224 := n2_; clear n0_ n1_ n2_; clear ho hb hg hat))
            go_roundg kj19
            case measure => have := HK1.out; have := HJ4.out; have := HJ13.out; have := HJ19.out; omega
            case rel => exact ⟨(y222), (x4_19), (wrap64 (x5_1 + 1)), EQ, EQ, H', ⟨by have := HK1.out; have := HJ4.out; have := HJ13.out; have := HJ19.out; omega⟩, ⟨(RR HO224)⟩, ⟨BK⟩, ⟨BL⟩⟩
           ·rw [if_neg c29] at H
            have c29b0 : decide (2 ≤ t215) = false := decide_eq_false c29
            clear c29
            have H' := ah.mk H
            clear H
            go_wp2
            go_roundg kj19
            case measure => have := HK1.out; have := HJ4.out; have := HJ13.out; have := HJ19.out; omega
            case rel => exact ⟨(x3_1), (x4_19), (wrap64 (x5_1 + 1)), EQ, EQ, H', ⟨by have := HK1.out; have := HJ4.out; have := HJ13.out; have := HJ19.out; omega⟩, ⟨(RR HO_3)⟩, ⟨BK⟩, ⟨BL⟩⟩
     ·obtain rfl := Option.some.inj H
      go_wp2
      go_ret
      exact ⟨_, EWW, (RR HO_3), BL⟩
def fC.l0 : Nat → List (dJ) → Int → Option (Bool)
 | 0, _, _ => none
 | k + 1, a, b => if b < (a.length : Int) then (if 0 ≤ b then (if ((aM a b).f3) < 3 then (some true) else (fC.l0 k a (wrap64 (b + 1)))) else (none)) else (some false)
def fC.f (k : Nat) (FV FW : Int) (FX : ByteArray) : Option (Bool) := (aT.f k FV FW FX).bind fun t226 => (fC.l0 k t226 0)
theorem fC.calls (k : Nat) (FV FW : Int) (FX : ByteArray) (r : Bool) (w : World) (h : fC.f k FV FW FX = some r) :
  Calls Tryz.prog 99 #[.agg #[.int .i64 FV, .int .i64 FW, .string FX]] w fun e w' => e = .returned (.bool r) ∧ Below w.heap.size w w' := by
 have hu32 := Tryz.underlying32
 have HB := ah.mk (Below.refl w.heap.size w)
 unfold fC.f at h
 have H := h
 clear h
 replace H := be H; obtain ⟨t226, A2, H⟩ := H
 have H' := ah.mk H
 clear H
 go_enter Tryz.func99, Tryz.ntmps99
 go_wp2_with (first | ((with_reducible refine aJ (N := 1) rfl ?_); refine bg (N := 1) (cs := #[.int .i64 FV, .int .i64 FW, .string FX]) (t := 32) ?_; intro gb225 hg w3 hbox hb; have BK225 := ah.mk hbox; have GW225 := SZ (w := w) hg; have GE225 := GW225; replace HB := BS (w := w) hb; clear hb hbox hg; obtain ⟨hcz4_0, hcz4_1, hcz4_2, hfz4_0, hfz4_1, hfz4_2⟩ := cz3 BK225.out) | ((with_reducible refine ay (f := 49) rfl ?_); refine bE (some 6) Tryz.func49 #[.agg #[.int .i64 FV, .int .i64 FW, .string FX]] ?_; (with_reducible refine (aT.calls k FV FW FX t226 _ A2.out).mono ?_); rintro e w5 ⟨v227, rfl, ho0, hb⟩; refine ⟨_, rfl, ?_⟩; have n0_ := ah.mk (Kd.cO ho0 (aQ BL)); replace BK225 := KB BK225 hb; replace HB := BS (w := w) hb; have HO228 := n0_; clear n0_; (try clear hb); (try clear ho0)))
 go_loopg [4] k (fun kq v4 w' => ∃ (x4_1 : Int), v4 = .int .i64 x4_1 ∧ ah (fC.l0 kq t226 x4_1 = some r) ∧ ah (kq ≤ k) ∧ ah (Kd.R lW 115 w' w.heap.size (fun _ => True) v227 t226) ∧ ah (w'.heap[gb225]? = some (.cells #[.int .i64 FV, .int .i64 FW, .string FX] 32 (0, 0))) ∧ ah (Below w.heap.size w w'))
 case atStart => exact ⟨(0), EQ, H', ⟨Nat.le_refl _⟩, ⟨(RR HO228)⟩, ⟨BK⟩, ⟨BL⟩⟩
 case round =>
  clear H'
  try clear hcz4_0
  try clear hcz4_1
  try clear hcz4_2
  try clear hfz4_0
  try clear hfz4_1
  try clear hfz4_2
  obtain ⟨x4_1, rfl, HA, HK1, HO_3, BK225, HB⟩ := hrel
  cases gk with
  | zero => exact absurd HA.out (by simp [fC.l0])
  | succ k1 =>
   have H := HA.out
   clear HA
   simp only [fC.l0] at H
   obtain ⟨Ao7000, co7000, eo7000⟩ := Kd.dL HO_3.out
   subst eo7000
   replace H := ifD H; rcases H with ⟨c6b0, H⟩ | ⟨c6b0, H⟩
   ·replace H := ifN H; obtain ⟨c7b0, H⟩ := H
    have p229 : 0 ≤ (x4_1 : Int) := OD
    have q229 : x4_1 < (t226.length : Int) := OD
    obtain ⟨ad229, e229, hx229_0, hx229_1, hx229_2, hx229_3⟩ := nu (Kd.bP HO_3.out).2.2 x4_1 p229 q229
    cases e229
    replace p229 := eq_true p229
    replace q229 := eq_true q229
    replace H := ifD H; rcases H with ⟨c8b0, H⟩ | ⟨c8b0, H⟩
    ·obtain rfl := Option.some.inj H
     go_wp2
     go_ret
     exact ⟨EWW, BL⟩
    ·have H' := ah.mk H
     clear H
     go_wp2
     go_roundg k1
     case measure => have := HK1.out; omega
     case rel => exact ⟨(wrap64 (x4_1 + 1)), EQ, H', ⟨by have := HK1.out; omega⟩, ⟨(RR HO_3)⟩, ⟨BK⟩, ⟨BL⟩⟩
   ·obtain rfl := Option.some.inj H
    go_wp2
    go_ret
    exact ⟨EWW, BL⟩
theorem Ee (d : Nat) (w : World) (x0 y0 : Int) (x1 y1 : Int) (x2 y2 : ByteArray) :
  (Op.equalIn (d + 2) 32 (.agg #[.int .i64 x0, .int .i64 x1, .string x2]) (.agg #[.int .i64 y0, .int .i64 y1, .string y2])).run Tryz.prog w = .ok (x0 == y0 && (x1 == y1 && (x2.toList == y2.toList))) w := by
 refine zN Tryz.underlying32 (by kernel_rfl) ?_
 refine o9 (by rfl) (by go_simp; rfl) (by go_simp; rfl) (by go_simp) ?_
 refine o9 (by rfl) (by go_simp; rfl) (by go_simp; rfl) (by go_simp) ?_
 exact wF (by rfl) (by go_simp; rfl) (by go_simp; rfl) (by go_simp)
end Go.Proofs.YtnfiedfaaaphoaaGreat.PFnExactOneRound
