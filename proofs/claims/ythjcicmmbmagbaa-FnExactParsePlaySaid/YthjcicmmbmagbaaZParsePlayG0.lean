/- Walks of functions: what each computes. -/
import Derived.Test.YthjcicmmbmagbaaProg
import Derived.Below
import Derived.Deep.Draws
import Derived.Deep.AppendLies
import Derived.Maps.AppendAt
import Derived.OwnWalk
import Derived.Laws.BytesArg
import Derived.Laws.MakeOwn
import Derived.Laws.OwnMore
import Derived.Deep.OwnRows
import Derived.Tactics
import Derived.Lib.ConvBytes
import Derived.Laws.Slices
import Derived.WalkKit
import Derived.KernelRfl
import Derived.RowKit3
import Derived.Deep.LoopGhost
import Derived.Deep.QuietTactic
import Derived.BigQuiet
import Derived.WideLaws
import Derived.Deep.DeepCutAuto
import Derived.Deep.CutBlock
import Derived.Deep.RegionHeld3
import Derived.Laws.Rows
import Derived.Lib.AppendStr
import Derived.ArgAppend
import Derived.Laws.IdiomCopy
import Derived.OrdersHeld
import Derived.Laws.BitsLemmas
import Derived.RowKit
import Derived.Test.YthjcicmmbmagbaaZParsePlayW
import Derived.Test.YthjcicmmbmagbaaZParsePlayShelf
import Derived.Test.YthjcicmmbmagbaaZParsePlayHandSort
import Derived.Test.YthjcicmmbmagbaaZParsePlayHandForm
import Derived.Test.YthjcicmmbmagbaaZParsePlayHandAlone
import Derived.Test.YthjcicmmbmagbaaZParsePlayHandRead
namespace Go.Proofs.Ythjcicmmbmagbaa.PFnExactParsePlay
open Go.RowKit Go.Proofs.YthjcicmmbmagbaaW.PrintWords Go.Proofs.YthjcicmmbmagbaaW.PrintLast Go.Proofs.YthjcicmmbmagbaaW.PrintMore Go.Proofs.Ythjcicmmbmagbaa.Sq
attribute [local go_sem] iA gZ jr jf gJ gG gX iF
set_option linter.unusedVariables false
set_option linter.unusedSimpArgs false
set_option maxHeartbeats 8000000
set_option maxRecDepth 100000
def qM : Option Int → Value
 | none => .nilIface
 | some c => .iface 0 (.int .i64 c)
theorem gD : qM none = .nilIface := rfl
theorem gI (c : Int) : qM (some c) = .iface 0 (.int .i64 c) := rfl
theorem info3 : (Try.prog.info? 3).map (fun i => (i.zero, i.size, i.bytes)) = some (some (.int .i64 0), 1, 8) := by kernel_rfl
theorem dR : (Try.prog.info? 110).map (fun i => (i.zero, i.size, i.bytes)) = some (some (.agg #[(.int .i64 0), (.string ⟨#[]⟩), (.int .i64 0), (.int .i64 0)]), 4, 40) := by kernel_rfl
structure aA where
 f0 : Int
 f1 : ByteArray
 f2 : Int
 f3 : Int
def lH : aA := ⟨(0 : Int), (⟨#[]⟩ : ByteArray), (0 : Int), (0 : Int)⟩
def bQ : Kd aA := Kd.iso (Kd.pair (Kd.int .i64) (Kd.pair Kd.string (Kd.pair (Kd.int .i64) (Kd.int .i64)))) (fun x : aA => (x.f0, x.f1, x.f2, x.f3))
theorem oD {w : World} {x : aA} {cs : List Value} (h : bQ.K w x cs) : cs = [.int .i64 x.f0, .string x.f1, .int .i64 x.f2, .int .i64 x.f3] := by
 obtain ⟨_, _, rfl, rfl, ⟨_, _, rfl, rfl, ⟨_, _, rfl, rfl, rfl⟩⟩⟩ := h
 exact rfl
theorem dW {w : World} {base : Nat} {ok : Nat → Prop} {x : aA} {cs : List Value} (h : bQ.M w base ok x cs) : cs = [.int .i64 x.f0, .string x.f1, .int .i64 x.f2, .int .i64 x.f3] := by
 obtain ⟨_, _, rfl, rfl, ⟨_, _, rfl, rfl, ⟨_, _, rfl, rfl, rfl⟩⟩⟩ := h
 exact rfl
theorem bX (w : World) (base : Nat) (ok : Nat → Prop) (x : aA)  : bQ.M w base ok x [.int .i64 x.f0, .string x.f1, .int .i64 x.f2, .int .i64 x.f3] := ⟨[.int .i64 x.f0], [.string x.f1, .int .i64 x.f2, .int .i64 x.f3], rfl, rfl, ⟨[.string x.f1], [.int .i64 x.f2, .int .i64 x.f3], rfl, rfl, ⟨[.int .i64 x.f2], [.int .i64 x.f3], rfl, rfl, rfl⟩⟩⟩
def ah (xs : List aA) (i : Int) : aA := xs.getD i.toNat lH
theorem dD {w : World} {A : Option Addr} {n : Nat} {xs : List aA} (h : Kd.C bQ w A n xs) (i : Int) (h0 : 0 ≤ i) (h1 : i < n) : ∃ ad , A = some ad ∧ w.cell? (ad.add (i.toNat * 4)) = some (.int .i64 (ah xs i).f0) ∧ w.cell? ⟨(ad.add (i.toNat * 4)).block, (ad.add (i.toNat * 4)).off + 1, none⟩ = some (.string (ah xs i).f1) ∧ w.cell? ⟨(ad.add (i.toNat * 4)).block, (ad.add (i.toNat * 4)).off + 2, none⟩ = some (.int .i64 (ah xs i).f2) ∧ w.cell? ⟨(ad.add (i.toNat * 4)).block, (ad.add (i.toNat * 4)).off + 3, none⟩ = some (.int .i64 (ah xs i).f3) := by
 obtain ⟨ad, c, e, _, hK, hc0⟩ := Kd.qI h lH i h0 h1
 have hc : ∀ j u, c[j]? = some u → w.cell? (ad.add (i.toNat * 4 + j)) = some u := hc0
 obtain rfl := oD hK
 exact ⟨ad, e, hc 0 _ rfl, by rw [← jO _ _ 1 (by omega)]; exact hc 1 _ rfl, by rw [← jO _ _ 2 (by omega)]; exact hc 2 _ rfl, by rw [← jO _ _ 3 (by omega)]; exact hc 3 _ rfl⟩
def aK.f (a0 a1 a2 : Int) : Option (Bool) := if a0 ≥ a1 then (some (decide (a0 ≤ a2))) else (some false)
theorem aK.calls (a0 a1 a2 : Int) (r : Bool) (w : World) (h : aK.f a0 a1 a2 = some r) :
  Calls Try.prog 86 #[.int .i64 a0, .int .i64 a1, .int .i64 a2] w fun e w' => e = .returned (.bool r) ∧ cu w w' := by
 unfold aK.f at h
 have H := h
 clear h
 replace H := aj.mk H
 go_enter Try.func86, Try.ntmps86
 replace H := H.out
 by_cases c4 : a0 ≥ a1
 ·rw [if_pos c4] at H
  have c4b0 : decide (a1 ≤ a0) = true := decide_eq_true c4
  clear c4
  obtain rfl := Option.some.inj H
  try go_wp2
  go_ret
  exact ⟨EQ, DR⟩
 ·rw [if_neg c4] at H
  have c4b0 : decide (a1 ≤ a0) = false := decide_eq_false c4
  clear c4
  obtain rfl := Option.some.inj H
  try go_wp2
  go_ret
  exact ⟨EQ, DR⟩
def aD.l0 : Nat → ByteArray → Int → Option (Bool)
 | 0, _, _ => none
 | k + 1, a, b => if b < (a.size : Int) then (if 0 ≤ b then (if (bt a b) < 97 then (some false) else (if (bt a b) > 122 then (some false) else (aD.l0 k a (wrap64 (b + 1))))) else (none)) else (some true)
def aD.f (k : Nat) (a0 : ByteArray) : Option (Bool) := (aK.f (a0.size : Int) 1 8).bind fun t101 => (if t101 = true then (aD.l0 k a0 0) else (some false))
theorem aD.calls (k : Nat) (a0 : ByteArray) (r : Bool) (w : World) (h : aD.f k a0 = some r) :
  Calls Try.prog 112 #[.string a0] w fun e w' => e = .returned (.bool r) ∧ cu w w' := by
 unfold aD.f at h
 have H := h
 clear h
 replace H := be H; obtain ⟨t101, A2, H⟩ := H
 replace H := aj.mk H
 go_enter Try.func112, Try.ntmps112
 go_wp2_with (first | ((with_reducible refine aV (f := 86) rfl ?_); refine dF (some 6) Try.func86 #[.int .i64 (a0.size : Int), .int .i64 1, .int .i64 8] ?_; (with_reducible refine (aK.calls (a0.size : Int) 1 8 _ _ A2.out).mono ?_); rintro e w' ⟨rfl, ⟨nd, rfl⟩⟩; refine ⟨_, rfl, ?_⟩; refine dS ?_))
 refine Hide.mk ?_
 replace H := H.out
 replace H := ifB H; rcases H with ⟨rfl, H⟩ | ⟨rfl, H⟩
 ·have H' := aj.mk H
  clear H
  try go_wp2
  go_loopg [3] k (fun kq v3 w' => ∃ (x3_1 : Int), v3 = .int .i64 x3_1 ∧ aj (aD.l0 kq a0 x3_1 = some r) ∧ aj (kq ≤ k) ∧ cu w w')
  case atStart => exact ⟨(0), EQ, H', ⟨Nat.le_refl _⟩, DR⟩
  case round =>
   clear H'
   try clear c3
   obtain ⟨x3_1, rfl, HA, HK1, ⟨m1, rfl⟩⟩ := hrel
   cases gk with
   | zero => exact absurd HA.out (by simp [aD.l0])
   | succ k1 =>
    have H := HA.out
    clear HA
    simp only [aD.l0] at H
    replace H := ifD H; rcases H with ⟨c4b0, H⟩ | ⟨c4b0, H⟩
    ·replace H := ifN H; obtain ⟨c5b0, H⟩ := H
     have p6 : (0 ≤ (x3_1 : Int)) = True := OT
     have q6 : (x3_1 < (a0.size : Int)) = True := OT
     have hx6 := eF a0 x3_1
     replace H := ifD H; rcases H with ⟨c7b0, H⟩ | ⟨c7b0, H⟩
     ·obtain rfl := Option.some.inj H
      go_wp2
      go_ret
      exact ⟨EQ, DR⟩
     ·have p8 : (0 ≤ (x3_1 : Int)) = True := OT
      have q8 : (x3_1 < (a0.size : Int)) = True := OT
      have hx8 := eF a0 x3_1
      by_cases c9 : (bt a0 x3_1) > 122
      ·rw [if_pos c9] at H
       have c9b0 : decide (122 < (bt a0 x3_1)) = true := decide_eq_true c9
       clear c9
       obtain rfl := Option.some.inj H
       go_wp2
       go_ret
       exact ⟨EQ, DR⟩
      ·rw [if_neg c9] at H
       have c9b0 : decide (122 < (bt a0 x3_1)) = false := decide_eq_false c9
       clear c9
       have H' := aj.mk H
       clear H
       go_wp2
       go_roundg k1
       case measure => have := HK1.out; omega
       case rel => exact ⟨(wrap64 (x3_1 + 1)), EQ, H', ⟨by have := HK1.out; omega⟩, DR⟩
    ·obtain rfl := Option.some.inj H
     go_wp2
     go_ret
     exact ⟨EQ, DR⟩
 ·obtain rfl := Option.some.inj H
  try go_wp2
  go_ret
  exact ⟨EQ, DR⟩
end Go.Proofs.Ythjcicmmbmagbaa.PFnExactParsePlay
