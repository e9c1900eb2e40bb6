/- Walks of functions: what each computes. -/
import Derived.Test.YthjcicmmbmagbaaProg
import Derived.Below
import Derived.Deep.Draws
import Derived.Deep.AppendLies
import Derived.Maps.AppendAt
import Derived.OwnWalk
import Derived.Laws.BytesArg
import Derived.Laws.MakeOwn
import Derived.Laws.OwnMore
import Derived.Deep.OwnRows
import Derived.Tactics
import Derived.Lib.ConvBytes
import Derived.Laws.Slices
import Derived.WalkKit
import Derived.KernelRfl
import Derived.RowKit3
import Derived.Deep.LoopGhost
import Derived.Deep.QuietTactic
import Derived.BigQuiet
import Derived.WideLaws
import Derived.Deep.DeepCutAuto
import Derived.Deep.CutBlock
import Derived.Deep.RegionHeld3
import Derived.Laws.Rows
import Derived.Lib.AppendStr
import Derived.ArgAppend
import Derived.Laws.IdiomCopy
import Derived.OrdersHeld
import Derived.Laws.BitsLemmas
import Derived.RowKit
import Derived.Test.YthjcicmmbmagbaaZFnNotationsW
import Derived.Test.YthjcicmmbmagbaaZFnNotationsShelf
import Derived.Test.YthjcicmmbmagbaaZFnNotationsHandSort
import Derived.Test.YthjcicmmbmagbaaZFnNotationsHandForm
import Derived.Test.YthjcicmmbmagbaaZFnNotationsHandAlone
import Derived.Test.YthjcicmmbmagbaaZFnNotationsHandRead
namespace Go.Proofs.Ythjcicmmbmagbaa.PFnNotations
open Go.RowKit Go.Proofs.YthjcicmmbmagbaaW.PrintWords Go.Proofs.YthjcicmmbmagbaaW.PrintLast Go.Proofs.YthjcicmmbmagbaaW.PrintMore Go.Proofs.Ythjcicmmbmagbaa.Sq
attribute [local go_sem] jY jI lY lI jB jq jJ jW
set_option linter.unusedVariables false
set_option linter.unusedSimpArgs false
set_option maxHeartbeats 8000000
set_option maxRecDepth 100000
def wT : Option Int → Value
 | none => .nilIface
 | some c => .iface 0 (.int .i64 c)
theorem eH : wT none = .nilIface := rfl
theorem eO (c : Int) : wT (some c) = .iface 0 (.int .i64 c) := rfl
theorem info3 : (Try.prog.info? 3).map (fun i => (i.zero, i.size, i.bytes)) = some (some (.int .i64 0), 1, 8) := by kernel_rfl
theorem wR : (Try.prog.info? 4).map (fun i => (i.zero, i.size, i.bytes)) = some (some (.bool false), 1, 1) := by kernel_rfl
theorem vT : (Try.prog.info? 110).map (fun i => (i.zero, i.size, i.bytes)) = some (some (.agg #[(.int .i64 0), (.string ⟨#[]⟩), (.int .i64 0), (.int .i64 0)]), 4, 40) := by kernel_rfl
structure bq where
 f0 : Int
 f1 : ByteArray
 f2 : Int
 f3 : Int
def pE : bq := ⟨(0 : Int), (⟨#[]⟩ : ByteArray), (0 : Int), (0 : Int)⟩
def eY : Kd bq := Kd.iso (Kd.pair (Kd.int .i64) (Kd.pair Kd.string (Kd.pair (Kd.int .i64) (Kd.int .i64)))) (fun x : bq => (x.f0, x.f1, x.f2, x.f3))
theorem uI {w : World} {x : bq} {cs : List Value} (h : eY.K w x cs) : cs = [.int .i64 x.f0, .string x.f1, .int .i64 x.f2, .int .i64 x.f3] := by
 obtain ⟨_, _, rfl, rfl, ⟨_, _, rfl, rfl, ⟨_, _, rfl, rfl, rfl⟩⟩⟩ := h
 exact rfl
theorem gD {w : World} {base : Nat} {ok : Nat → Prop} {x : bq} {cs : List Value} (h : eY.M w base ok x cs) : cs = [.int .i64 x.f0, .string x.f1, .int .i64 x.f2, .int .i64 x.f3] := by
 obtain ⟨_, _, rfl, rfl, ⟨_, _, rfl, rfl, ⟨_, _, rfl, rfl, rfl⟩⟩⟩ := h
 exact rfl
theorem jA (w : World) (base : Nat) (ok : Nat → Prop) (x : bq)  : eY.M w base ok x [.int .i64 x.f0, .string x.f1, .int .i64 x.f2, .int .i64 x.f3] := ⟨[.int .i64 x.f0], [.string x.f1, .int .i64 x.f2, .int .i64 x.f3], rfl, rfl, ⟨[.string x.f1], [.int .i64 x.f2, .int .i64 x.f3], rfl, rfl, ⟨[.int .i64 x.f2], [.int .i64 x.f3], rfl, rfl, rfl⟩⟩⟩
def ah (xs : List bq) (i : Int) : bq := xs.getD i.toNat pE
theorem fK {w : World} {A : Option Addr} {n : Nat} {xs : List bq} (h : Kd.C eY w A n xs) (i : Int) (h0 : 0 ≤ i) (h1 : i < n) : ∃ ad , A = some ad ∧ w.cell? (ad.add (i.toNat * 4)) = some (.int .i64 (ah xs i).f0) ∧ w.cell? ⟨(ad.add (i.toNat * 4)).block, (ad.add (i.toNat * 4)).off + 1, none⟩ = some (.string (ah xs i).f1) ∧ w.cell? ⟨(ad.add (i.toNat * 4)).block, (ad.add (i.toNat * 4)).off + 2, none⟩ = some (.int .i64 (ah xs i).f2) ∧ w.cell? ⟨(ad.add (i.toNat * 4)).block, (ad.add (i.toNat * 4)).off + 3, none⟩ = some (.int .i64 (ah xs i).f3) := by
 obtain ⟨ad, c, e, _, hK, hc0⟩ := Kd.wW h pE i h0 h1
 have hc : ∀ j u, c[j]? = some u → w.cell? (ad.add (i.toNat * 4 + j)) = some u := hc0
 obtain rfl := uI hK
 exact ⟨ad, e, hc 0 _ rfl, by rw [← mJ _ _ 1 (by omega)]; exact hc 1 _ rfl, by rw [← mJ _ _ 2 (by omega)]; exact hc 2 _ rfl, by rw [← mJ _ _ 3 (by omega)]; exact hc 3 _ rfl⟩
def iX.f (l0 : List Int) : Option (Bool) := some (decide ((l0.length : Int) > 1048576))
theorem iX.calls (A0 : Option Addr) (c0 : Nat) (l0 : List Int) (r : Bool) (w : World) (hr0 : Kd.C (Kd.int .u8) w A0 l0.length l0) (hc0 : l0.length ≤ c0) (h : iX.f l0 = some r) :
  Calls Try.prog 19 #[.slice A0 l0.length c0] w fun e w' => e = .returned (.bool r) ∧ dB w w' := by
 have HR0 := aj.mk hr0
 have HC0 := aj.mk hc0
 clear hr0 hc0
 unfold iX.f at h
 have H := h
 clear h
 obtain rfl := Option.some.inj H
 go_enter Try.func19, Try.ntmps19
 go_wp2
 go_ret
 exact ⟨EQ, DR⟩
def dX.f (a0 a1 a2 : Int) : Option (Bool) := if a1 ≤ a0 then (some (decide (a0 ≤ a2))) else (some false)
theorem dX.calls (a0 a1 a2 : Int) (r : Bool) (w : World) (h : dX.f a0 a1 a2 = some r) :
  Calls Try.prog 65 #[.int .i64 a0, .int .i64 a1, .int .i64 a2] w fun e w' => e = .returned (.bool r) ∧ dB w w' := by
 unfold dX.f at h
 have H := h
 clear h
 replace H := aj.mk H
 go_enter Try.func65, Try.ntmps65
 replace H := H.out
 replace H := ifD H; rcases H with ⟨c4b0, H⟩ | ⟨c4b0, H⟩
 ·obtain rfl := Option.some.inj H
  try go_wp2
  go_ret
  exact ⟨EQ, DR⟩
 ·obtain rfl := Option.some.inj H
  try go_wp2
  go_ret
  exact ⟨EQ, DR⟩
def eD.f (a0 : Int) : Option (Bool) := if a0 ≥ 97 then (some (decide (a0 ≤ 122))) else (some false)
theorem eD.calls (a0 : Int) (r : Bool) (w : World) (h : eD.f a0 = some r) :
  Calls Try.prog 122 #[.int .u8 a0] w fun e w' => e = .returned (.bool r) ∧ dB w w' := by
 unfold eD.f at h
 have H := h
 clear h
 replace H := aj.mk H
 go_enter Try.func122, Try.ntmps122
 replace H := H.out
 by_cases c2 : a0 ≥ 97
 ·rw [if_pos c2] at H
  have c2b0 : decide (97 ≤ a0) = true := decide_eq_true c2
  clear c2
  obtain rfl := Option.some.inj H
  try go_wp2
  go_ret
  exact ⟨EQ, DR⟩
 ·rw [if_neg c2] at H
  have c2b0 : decide (97 ≤ a0) = false := decide_eq_false c2
  clear c2
  obtain rfl := Option.some.inj H
  try go_wp2
  go_ret
  exact ⟨EQ, DR⟩
def bE.l0 : Nat → ByteArray → Int → Int → Option (Bool)
 | 0, _, _, _ => none
 | k + 1, a, b, c => if c < b then (if 0 ≤ c then (if c < (a.size : Int) then ((eD.f (bt a c)).bind fun d => (if d = true then (bE.l0 k a b (wrap64 (c + 1))) else (some false))) else (none)) else (none)) else (some true)
def bE.f (k : Nat) (a0 : ByteArray) : Option (Bool) := (dX.f (a0.size : Int) 1 8).bind fun t101 => (if t101 = true then (bE.l0 k a0 (a0.size : Int) 0) else (some false))
theorem bE.calls (k : Nat) (a0 : ByteArray) (r : Bool) (w : World) (h : bE.f k a0 = some r) :
  Calls Try.prog 64 #[.string a0] w fun e w' => e = .returned (.bool r) ∧ dB w w' := by
 unfold bE.f at h
 have H := h
 clear h
 replace H := be H; obtain ⟨t101, A2, H⟩ := H
 replace H := aj.mk H
 go_enter Try.func64, Try.ntmps64
 go_wp2_with (first | ((with_reducible refine aJ (f := 65) rfl ?_); refine bI (some 6) Try.func65 #[.int .i64 (a0.size : Int), .int .i64 1, .int .i64 8] ?_; (with_reducible refine (dX.calls (a0.size : Int) 1 8 _ _ A2.out).mono ?_); rintro e w' ⟨rfl, ⟨nd, rfl⟩⟩; refine ⟨_, rfl, ?_⟩; refine eU ?_))
 refine Hide.mk ?_
 replace H := H.out
 replace H := ifB H; rcases H with ⟨rfl, H⟩ | ⟨rfl, H⟩
 ·have H' := aj.mk H
  clear H
  try go_wp2
  go_loopg [10] k (fun kq v10 w' => ∃ (x10_1 : Int), v10 = .int .i64 x10_1 ∧ aj (bE.l0 kq a0 (a0.size : Int) x10_1 = some r) ∧ aj (kq ≤ k) ∧ dB w w')
  case atStart => exact ⟨(0), EQ, H', ⟨Nat.le_refl _⟩, DR⟩
  case round =>
   clear H'
   try clear c3
   obtain ⟨x10_1, rfl, HA, HK1, ⟨m1, rfl⟩⟩ := hrel
   cases gk with
   | zero => exact absurd HA.out (by simp [bE.l0])
   | succ k1 =>
    have H := HA.out
    clear HA
    simp only [bE.l0] at H
    replace H := ifD H; rcases H with ⟨c4b0, H⟩ | ⟨c4b0, H⟩
    ·replace H := ifN H; obtain ⟨c5b0, H⟩ := H
     replace H := ifN H; obtain ⟨c6b0, H⟩ := H
     replace H := be H; obtain ⟨t102, A8, H⟩ := H
     have p7 : (0 ≤ (x10_1 : Int)) = True := OT
     have q7 : (x10_1 < (a0.size : Int)) = True := OT
     have hx7 := uZ a0 x10_1
     replace H := aj.mk H
     go_wp2_with (first | ((with_reducible refine aJ (f := 122) rfl ?_); refine bI (some 16) Try.func122 #[.int .u8 (bt a0 x10_1)] ?_; (with_reducible refine (eD.calls (bt a0 x10_1) _ _ A8.out).mono ?_); rintro e w' ⟨rfl, ⟨nd, rfl⟩⟩; refine ⟨_, rfl, ?_⟩; refine eU ?_))
     refine Hide.mk ?_
     replace H := H.out
     replace H := ifB H; rcases H with ⟨rfl, H⟩ | ⟨rfl, H⟩
     ·have H' := aj.mk H
      clear H
      try go_wp2
      go_roundg k1
      case measure => have := HK1.out; omega
      case rel => exact ⟨(wrap64 (x10_1 + 1)), EQ, H', ⟨by have := HK1.out; omega⟩, DR⟩
     ·obtain rfl := Option.some.inj H
      try go_wp2
      go_ret
      exact ⟨EQ, DR⟩
    ·obtain rfl := Option.some.inj H
     go_wp2
     go_ret
     exact ⟨EQ, DR⟩
 ·obtain rfl := Option.some.inj H
  try go_wp2
  go_ret
  exact ⟨EQ, DR⟩
def bU.f (a0 : Int) : Option (Bool) := if a0 = 4 then (some true) else (some (a0 == 5))
theorem bU.calls (a0 : Int) (r : Bool) (w : World) (h : bU.f a0 = some r) :
  Calls Try.prog 107 #[.int .i64 a0] w fun e w' => e = .returned (.bool r) ∧ dB w w' := by
 unfold bU.f at h
 have H := h
 clear h
 replace H := aj.mk H
 go_enter Try.func107, Try.ntmps107
 replace H := H.out
 replace H := ifE H; rcases H with ⟨c2b0, c2b1, H⟩ | ⟨c2, c2b0, c2b1, H⟩
 ·obtain rfl := Option.some.inj H
  try go_wp2
  go_ret
  exact ⟨EQ, DR⟩
 ·obtain rfl := Option.some.inj H
  try go_wp2
  go_ret
  exact ⟨EQ, DR⟩
def iP.f (a0 a1 : Int) : Option (Bool) := if a0 ≥ 0 then (some (decide (a0 < a1))) else (some false)
theorem iP.calls (a0 a1 : Int) (r : Bool) (w : World) (h : iP.f a0 a1 = some r) :
  Calls Try.prog 109 #[.int .i64 a0, .int .i64 a1] w fun e w' => e = .returned (.bool r) ∧ dB w w' := by
 unfold iP.f at h
 have H := h
 clear h
 replace H := aj.mk H
 go_enter Try.func109, Try.ntmps109
 replace H := H.out
 by_cases c3 : a0 ≥ 0
 ·rw [if_pos c3] at H
  have c3b0 : decide (0 ≤ a0) = true := decide_eq_true c3
  clear c3
  obtain rfl := Option.some.inj H
  try go_wp2
  go_ret
  exact ⟨EQ, DR⟩
 ·rw [if_neg c3] at H
  have c3b0 : decide (0 ≤ a0) = false := decide_eq_false c3
  clear c3
  obtain rfl := Option.some.inj H
  try go_wp2
  go_ret
  exact ⟨EQ, DR⟩
def fA.f (a0 : Int) : Option (Bool) := if a0 = 3 then (some true) else (some (decide (a0 ≥ 6)))
theorem fA.calls (a0 : Int) (r : Bool) (w : World) (h : fA.f a0 = some r) :
  Calls Try.prog 110 #[.int .i64 a0] w fun e w' => e = .returned (.bool r) ∧ dB w w' := by
 unfold fA.f at h
 have H := h
 clear h
 replace H := aj.mk H
 go_enter Try.func110, Try.ntmps110
 replace H := H.out
 replace H := ifE H; rcases H with ⟨c2b0, c2b1, H⟩ | ⟨c2, c2b0, c2b1, H⟩
 ·obtain rfl := Option.some.inj H
  try go_wp2
  go_ret
  exact ⟨EQ, DR⟩
 ·obtain rfl := Option.some.inj H
  try go_wp2
  go_ret
  exact ⟨EQ, DR⟩
mutual
def aX.l0 : Nat → List (bq) → List (bq) → Int → Int → Option (Bool)
 | 0, _, _, _, _ => none
 | k + 1, a, b, c, d => if d < c then (if 0 ≤ d then (if d < (b.length : Int) then ((dX.f ((ah b d).f0) 1 9).bind fun e => (if e = true then (if ((ah b d).f0) = 1 then ((bE.f k ((ah b d).f1)).bind fun f => (if f = true then (if ((ah b d).f2) = 0 then (if ((ah b d).f3) = 0 then (aX.l0 k a b c (wrap64 (d + 1))) else (some false)) else (some false)) else (some false))) else (if ((ah b d).f1).toList = ([] : List UInt8) then ((iP.f ((ah b d).f2) d).bind fun g => (if g = true then ((fA.f ((ah b d).f0)).bind fun h => (if h = true then (if 0 ≤ ((ah b d).f2) then (if ((ah b d).f2) < (a.length : Int) then (aX.j1 k a d b c d (((ah a ((ah b d).f2)).f0) != 1) ((ah b d).f0) ((ah b d).f1) ((ah b d).f2) ((ah b d).f3)) else (none)) else (none)) else (aX.j1 k a d b c d false ((ah b d).f0) ((ah b d).f1) ((ah b d).f2) ((ah b d).f3)))) else (aX.j1 k a d b c d true ((ah b d).f0) ((ah b d).f1) ((ah b d).f2) ((ah b d).f3)))) else (aX.j1 k a d b c d true ((ah b d).f0) ((ah b d).f1) ((ah b d).f2) ((ah b d).f3)))) else (some false))) else (none)) else (none)) else (some true)
def aX.j1 : Nat → List (bq) → Int → List (bq) → Int → Int → Bool → Int → ByteArray → Int → Int → Option (Bool)
 | 0, _, _, _, _, _, _, _, _, _, _ => none
 | k + 1, a, b, c, d, e, f, g, h, i, j => if f = true then (some false) else ((bU.f g).bind fun l => (if l = true then ((iP.f j b).bind fun m => (if m = true then ((bU.f g).bind fun n => (if n = true then (aX.l0 k a c d (wrap64 (e + 1))) else (if j = 0 then (aX.l0 k a c d (wrap64 (e + 1))) else (some false)))) else (some false))) else ((bU.f g).bind fun o => (if o = true then (aX.l0 k a c d (wrap64 (e + 1))) else (if j = 0 then (aX.l0 k a c d (wrap64 (e + 1))) else (some false))))))
end
def aX.f (k : Nat) (l0 : List (bq)) : Option (Bool) := (dX.f (l0.length : Int) 1 9).bind fun t103 => (if t103 = true then (aX.l0 k l0 l0 (l0.length : Int) 0) else (some false))
theorem aX.calls (k : Nat) (A0 : Option Addr) (c0 : Nat) (l0 : List (bq)) (r : Bool) (w : World) (hr0 : Kd.C eY w A0 l0.length l0) (hc0 : l0.length ≤ c0) (h : aX.f k l0 = some r) :
  Calls Try.prog 50 #[.slice A0 l0.length c0] w fun e w' => e = .returned (.bool r) ∧ Below w.heap.size w w' := by
 have hu110 := Try.underlying110
 have HR0 := aj.mk hr0
 have HC0 := aj.mk hc0
 clear hr0 hc0
 have HB := aj.mk (Below.refl w.heap.size w)
 unfold aX.f at h
 have H := h
 clear h
 replace H := be H; obtain ⟨t103, A2, H⟩ := H
 replace H := aj.mk H
 go_enter Try.func50, Try.ntmps50
 go_wp2_with (first | ((with_reducible refine aJ (f := 65) rfl ?_); refine bI (some 7) Try.func65 #[.int .i64 (l0.length : Int), .int .i64 1, .int .i64 9] ?_; (with_reducible refine (dX.calls (l0.length : Int) 1 9 _ _ A2.out).mono ?_); rintro e w' ⟨rfl, ⟨nd, rfl⟩⟩; refine ⟨_, rfl, ?_⟩; refine eU ?_))
 refine Hide.mk ?_
 replace H := H.out
 replace H := ifB H; rcases H with ⟨rfl, H⟩ | ⟨rfl, H⟩
 ·have H' := aj.mk H
  clear H
  try go_wp2
  go_loopg [11] k (fun kq v11 w' => ∃ (x11_1 : Int), v11 = .int .i64 x11_1 ∧ aj (aX.l0 kq l0 l0 (l0.length : Int) x11_1 = some r) ∧ aj (kq ≤ k) ∧ aj (Below w.heap.size w w'))
  case atStart => exact ⟨(0), EQ, H', ⟨Nat.le_refl _⟩, ⟨BL⟩⟩
  case round =>
   clear H'
   try clear c3
   obtain ⟨x11_1, rfl, HA, HK1, HB⟩ := hrel
   cases gk with
   | zero => exact absurd HA.out (by simp [aX.l0])
   | succ k1 =>
    have H := HA.out
    clear HA
    simp only [aX.l0] at H
    replace H := ifD H; rcases H with ⟨c4b0, H⟩ | ⟨c4b0, H⟩
    ·replace H := ifN H; obtain ⟨c5b0, H⟩ := H
     replace H := ifN H; obtain ⟨c6b0, H⟩ := H
     replace H := be H; obtain ⟨t106, A7, H⟩ := H
     have p104 : 0 ≤ (x11_1 : Int) := OD
     have q104 : x11_1 < (l0.length : Int) := OD
     obtain ⟨ad104, e104, hx104_0, hx104_1, hx104_2, hx104_3⟩ := fK HR0.out x11_1 p104 q104
     cases e104
     try replace hx104_0 := (HB.out.cell (World.block_lt_of_cell? w _ hx104_0)).trans hx104_0
     try replace hx104_1 := (HB.out.cell (World.block_lt_of_cell? w _ hx104_1)).trans hx104_1
     try replace hx104_2 := (HB.out.cell (World.block_lt_of_cell? w _ hx104_2)).trans hx104_2
     try replace hx104_3 := (HB.out.cell (World.block_lt_of_cell? w _ hx104_3)).trans hx104_3
     replace p104 := eq_true p104
     replace q104 := eq_true q104
     replace H := aj.mk H
     go_wp2_with (first | ((with_reducible refine dz (N := 4) rfl ?_); refine gV (N := 4) (cs := #[.int .i64 0, .string (⟨#[]⟩ : ByteArray), .int .i64 0, .int .i64 0]) (t := 110) ?_; intro gb105 hg w9000 hbox hb; have BK105 := aj.mk hbox; have GW105 := SZ (w := w) hg; have GE105 := GW105; replace HB := BS (w := w) hb; clear hb hbox hg; obtain ⟨hcz9001_0, hcz9001_1, hcz9001_2, hcz9001_3, hfz9001_0, hfz9001_1, hfz9001_2, hfz9001_3⟩ := cz4 BK105.out) | ((with_reducible refine aJ (f := 65) rfl ?_); refine bI (some 18) Try.func65 #[.int .i64 ((ah l0 x11_1).f0), .int .i64 1, .int .i64 9] ?_; (with_reducible refine (dX.calls ((ah l0 x11_1).f0) 1 9 _ _ A7.out).mono ?_); rintro e w' ⟨rfl, ⟨nd, rfl⟩⟩; refine ⟨_, rfl, ?_⟩; refine eU ?_))
     refine Hide.mk ?_
     replace H := H.out
     replace H := ifB H; rcases H with ⟨rfl, H⟩ | ⟨rfl, H⟩
     ·replace H := ifE H; rcases H with ⟨c9b0, c9b1, H⟩ | ⟨c9, c9b0, c9b1, H⟩
      ·replace H := be H; obtain ⟨t107, A10, H⟩ := H
       replace H := aj.mk H
       go_wp2_with (first | ((with_reducible refine aJ (f := 64) rfl ?_); refine bI (some 25) Try.func64 #[.string ((ah l0 x11_1).f1)] ?_; (with_reducible refine (bE.calls k1 ((ah l0 x11_1).f1) _ _ A10.out).mono ?_); rintro e w' ⟨rfl, ⟨nd, rfl⟩⟩; refine ⟨_, rfl, ?_⟩; refine eU ?_))
       refine Hide.mk ?_
       replace H := H.out
       replace H := ifB H; rcases H with ⟨rfl, H⟩ | ⟨rfl, H⟩
       ·replace H := ifE H; rcases H with ⟨c12b0, c12b1, H⟩ | ⟨c12, c12b0, c12b1, H⟩
        ·replace H := ifE H; rcases H with ⟨c13b0, c13b1, H⟩ | ⟨c13, c13b0, c13b1, H⟩
         ·have H' := aj.mk H
          clear H
          try go_wp2
          go_roundg k1
          case measure => have := HK1.out; omega
          case rel => exact ⟨(wrap64 (x11_1 + 1)), EQ, H', ⟨by have := HK1.out; omega⟩, ⟨BL⟩⟩
         ·obtain rfl := Option.some.inj H
          try go_wp2
          go_ret
          exact ⟨EWW, BL⟩
        ·obtain rfl := Option.some.inj H
         try go_wp2
         go_ret
         exact ⟨EWW, BL⟩
       ·obtain rfl := Option.some.inj H
        try go_wp2
        go_ret
        exact ⟨EWW, BL⟩
      ·have HC22 := aj.mk H
       clear H
       go_upto_region 11 with (fail)
       (try simp only [Act.put, List.setIfInBounds_toArray, List.set_cons_zero, List.set_cons_succ])
       go_cut [60] (fun v60 wc => ∃ (kq : Nat) (x60_21 : Bool), v60 = .bool x60_21 ∧ aj (aX.j1 kq l0 x11_1 l0 (l0.length : Int) x11_1 x60_21 ((ah l0 x11_1).f0) ((ah l0 x11_1).f1) ((ah l0 x11_1).f2) ((ah l0 x11_1).f3) = some r) ∧ aj (kq ≤ k1) ∧ aj (wc.heap[gb105]? = some (.cells #[.int .i64 ((ah l0 x11_1).f0), .string ((ah l0 x11_1).f1), .int .i64 ((ah l0 x11_1).f2), .int .i64 ((ah l0 x11_1).f3)] 110 (0, 0))) ∧ aj (Below w.heap.size w wc))
       case first =>
        have H := HC22.out
        clear HC22
        obtain ⟨hcz9002_0, hcz9002_1, hcz9002_2, hcz9002_3, hfz9002_0, hfz9002_1, hfz9002_2, hfz9002_3⟩ := cz4 BK105.out
        replace H := ifE H; rcases H with ⟨c25b0, c25b1, H⟩ | ⟨c25, c25b0, c25b1, H⟩
        ·(first | rw [c25b0] | (simp only [bY, cu]; rw [c25b0]) | skip)
         replace H := be H; obtain ⟨t108, A26, H⟩ := H
         replace H := aj.mk H
         go_wp2_with (first | (go_at_call 109; (with_reducible refine (iP.calls ((ah l0 x11_1).f2) x11_1 _ _ A26.out).mono ?_); rintro e w' ⟨rfl, ⟨nd, rfl⟩⟩; refine eU ?_))
         refine Hide.mk ?_
         replace H := H.out
         replace H := ifB H; rcases H with ⟨rfl, H⟩ | ⟨rfl, H⟩
         ·replace H := be H; obtain ⟨t109, A28, H⟩ := H
          replace H := aj.mk H
          go_wp2_with (first | (go_at_call 110; (with_reducible refine (fA.calls ((ah l0 x11_1).f0) _ _ A28.out).mono ?_); rintro e w' ⟨rfl, ⟨nd, rfl⟩⟩; refine eU ?_))
          refine Hide.mk ?_
          replace H := H.out
          replace H := ifB H; rcases H with ⟨rfl, H⟩ | ⟨rfl, H⟩
          ·replace H := ifN H; obtain ⟨c30b0, H⟩ := H
           replace H := ifN H; obtain ⟨c31b0, H⟩ := H
           have H' := aj.mk H
           clear H
           have p110 : 0 ≤ (((ah l0 x11_1).f2) : Int) := OD
           have q110 : ((ah l0 x11_1).f2) < (l0.length : Int) := OD
           obtain ⟨ad110, e110, hx110_0, hx110_1, hx110_2, hx110_3⟩ := fK HR0.out ((ah l0 x11_1).f2) p110 q110
           obtain rfl : ad104 = ad110 := (by injection e110)
           have hn110_0 : ad104.block ≠ gb105 := Nat.ne_of_lt (Nat.lt_of_lt_of_le (by have := World.block_lt_of_cell? _ _ hx110_0; first | rwa [add_block] at this | exact this) GW105.out)
           have hn110_1 : ad104.block ≠ gb105 := Nat.ne_of_lt (Nat.lt_of_lt_of_le (by have := World.block_lt_of_cell? _ _ hx110_0; first | rwa [add_block] at this | exact this) GW105.out)
           have hn110_2 : ad104.block ≠ gb105 := Nat.ne_of_lt (Nat.lt_of_lt_of_le (by have := World.block_lt_of_cell? _ _ hx110_0; first | rwa [add_block] at this | exact this) GW105.out)
           have hn110_3 : ad104.block ≠ gb105 := Nat.ne_of_lt (Nat.lt_of_lt_of_le (by have := World.block_lt_of_cell? _ _ hx110_0; first | rwa [add_block] at this | exact this) GW105.out)
           replace hx110_0 := (HB.out.cell (World.block_lt_of_cell? w _ hx110_0)).trans hx110_0
           replace hx110_1 := (HB.out.cell (World.block_lt_of_cell? w _ hx110_1)).trans hx110_1
           replace hx110_2 := (HB.out.cell (World.block_lt_of_cell? w _ hx110_2)).trans hx110_2
           replace hx110_3 := (HB.out.cell (World.block_lt_of_cell? w _ hx110_3)).trans hx110_3
           replace hx110_0 := (cell_far (p := ⟨gb105, 0, none⟩) AB (.int .i64 ((ah l0 x11_1).f0))).trans hx110_0
           replace hx110_1 := (cell_far (p := ⟨gb105, 0, none⟩) AB (.int .i64 ((ah l0 x11_1).f0))).trans hx110_1
           replace hx110_2 := (cell_far (p := ⟨gb105, 0, none⟩) AB (.int .i64 ((ah l0 x11_1).f0))).trans hx110_2
           replace hx110_3 := (cell_far (p := ⟨gb105, 0, none⟩) AB (.int .i64 ((ah l0 x11_1).f0))).trans hx110_3
           replace hx110_0 := (cell_far (p := ⟨gb105, 1, none⟩) AB (.string ((ah l0 x11_1).f1))).trans hx110_0
           replace hx110_1 := (cell_far (p := ⟨gb105, 1, none⟩) AB (.string ((ah l0 x11_1).f1))).trans hx110_1
           replace hx110_2 := (cell_far (p := ⟨gb105, 1, none⟩) AB (.string ((ah l0 x11_1).f1))).trans hx110_2
           replace hx110_3 := (cell_far (p := ⟨gb105, 1, none⟩) AB (.string ((ah l0 x11_1).f1))).trans hx110_3
           replace hx110_0 := (cell_far (p := ⟨gb105, 2, none⟩) AB (.int .i64 ((ah l0 x11_1).f2))).trans hx110_0
           replace hx110_1 := (cell_far (p := ⟨gb105, 2, none⟩) AB (.int .i64 ((ah l0 x11_1).f2))).trans hx110_1
           replace hx110_2 := (cell_far (p := ⟨gb105, 2, none⟩) AB (.int .i64 ((ah l0 x11_1).f2))).trans hx110_2
           replace hx110_3 := (cell_far (p := ⟨gb105, 2, none⟩) AB (.int .i64 ((ah l0 x11_1).f2))).trans hx110_3
           replace hx110_0 := (cell_far (p := ⟨gb105, 3, none⟩) AB (.int .i64 ((ah l0 x11_1).f3))).trans hx110_0
           replace hx110_1 := (cell_far (p := ⟨gb105, 3, none⟩) AB (.int .i64 ((ah l0 x11_1).f3))).trans hx110_1
           replace hx110_2 := (cell_far (p := ⟨gb105, 3, none⟩) AB (.int .i64 ((ah l0 x11_1).f3))).trans hx110_2
           replace hx110_3 := (cell_far (p := ⟨gb105, 3, none⟩) AB (.int .i64 ((ah l0 x11_1).f3))).trans hx110_3
           clear hn110_0 hn110_1 hn110_2 hn110_3
           replace p110 := eq_true p110
           replace q110 := eq_true q110
           go_wp2
           go_meet
           case rel => exact ⟨_, ((((ah l0 ((ah l0 x11_1).f2)).f0) != 1)), EQ, H', ⟨by have := HK1.out; first | omega | exact Nat.le_refl _⟩, ⟨by (with_reducible repeat (first | refine av ?_ _ | refine aC ?_ | refine au ?_ _)); refine aU (cs := #[.int .i64 ((ah l0 x11_1).f0), .string ((ah l0 x11_1).f1), .int .i64 ((ah l0 x11_1).f2), .int .i64 0]) ?_ 3 _ rfl; (with_reducible repeat (first | refine av ?_ _ | refine aC ?_ | refine au ?_ _)); refine aU (cs := #[.int .i64 ((ah l0 x11_1).f0), .string ((ah l0 x11_1).f1), .int .i64 0, .int .i64 0]) ?_ 2 _ rfl; (with_reducible repeat (first | refine av ?_ _ | refine aC ?_ | refine au ?_ _)); refine aU (cs := #[.int .i64 ((ah l0 x11_1).f0), .string (⟨#[]⟩ : ByteArray), .int .i64 0, .int .i64 0]) ?_ 1 _ rfl; (with_reducible repeat (first | refine av ?_ _ | refine aC ?_ | refine au ?_ _)); refine aU (cs := #[.int .i64 0, .string (⟨#[]⟩ : ByteArray), .int .i64 0, .int .i64 0]) ?_ 0 _ rfl; (with_reducible repeat (first | refine av ?_ _ | refine aC ?_ | refine au ?_ _)); exact BK105.out⟩, ⟨BL⟩⟩
          ·have H' := aj.mk H
           clear H
           try go_wp2
           go_meet
           case rel => exact ⟨_, (false), EQ, H', ⟨by have := HK1.out; first | omega | exact Nat.le_refl _⟩, ⟨by (with_reducible repeat (first | refine av ?_ _ | refine aC ?_ | refine au ?_ _)); refine aU (cs := #[.int .i64 ((ah l0 x11_1).f0), .string ((ah l0 x11_1).f1), .int .i64 ((ah l0 x11_1).f2), .int .i64 0]) ?_ 3 _ rfl; (with_reducible repeat (first | refine av ?_ _ | refine aC ?_ | refine au ?_ _)); refine aU (cs := #[.int .i64 ((ah l0 x11_1).f0), .string ((ah l0 x11_1).f1), .int .i64 0, .int .i64 0]) ?_ 2 _ rfl; (with_reducible repeat (first | refine av ?_ _ | refine aC ?_ | refine au ?_ _)); refine aU (cs := #[.int .i64 ((ah l0 x11_1).f0), .string (⟨#[]⟩ : ByteArray), .int .i64 0, .int .i64 0]) ?_ 1 _ rfl; (with_reducible repeat (first | refine av ?_ _ | refine aC ?_ | refine au ?_ _)); refine aU (cs := #[.int .i64 0, .string (⟨#[]⟩ : ByteArray), .int .i64 0, .int .i64 0]) ?_ 0 _ rfl; (with_reducible repeat (first | refine av ?_ _ | refine aC ?_ | refine au ?_ _)); exact BK105.out⟩, ⟨BL⟩⟩
         ·have H' := aj.mk H
          clear H
          try go_wp2
          go_meet
          case rel => exact ⟨_, (true), EQ, H', ⟨by have := HK1.out; first | omega | exact Nat.le_refl _⟩, ⟨by (with_reducible repeat (first | refine av ?_ _ | refine aC ?_ | refine au ?_ _)); refine aU (cs := #[.int .i64 ((ah l0 x11_1).f0), .string ((ah l0 x11_1).f1), .int .i64 ((ah l0 x11_1).f2), .int .i64 0]) ?_ 3 _ rfl; (with_reducible repeat (first | refine av ?_ _ | refine aC ?_ | refine au ?_ _)); refine aU (cs := #[.int .i64 ((ah l0 x11_1).f0), .string ((ah l0 x11_1).f1), .int .i64 0, .int .i64 0]) ?_ 2 _ rfl; (with_reducible repeat (first | refine av ?_ _ | refine aC ?_ | refine au ?_ _)); refine aU (cs := #[.int .i64 ((ah l0 x11_1).f0), .string (⟨#[]⟩ : ByteArray), .int .i64 0, .int .i64 0]) ?_ 1 _ rfl; (with_reducible repeat (first | refine av ?_ _ | refine aC ?_ | refine au ?_ _)); refine aU (cs := #[.int .i64 0, .string (⟨#[]⟩ : ByteArray), .int .i64 0, .int .i64 0]) ?_ 0 _ rfl; (with_reducible repeat (first | refine av ?_ _ | refine aC ?_ | refine au ?_ _)); exact BK105.out⟩, ⟨BL⟩⟩
        ·(first | rw [c25b0] | (simp only [bY, cu]; rw [c25b0]) | skip)
         have H' := aj.mk H
         clear H
         go_wp2
         go_meet
         case rel => exact ⟨_, (true), EQ, H', ⟨by have := HK1.out; first | omega | exact Nat.le_refl _⟩, ⟨by (with_reducible repeat (first | refine av ?_ _ | refine aC ?_ | refine au ?_ _)); refine aU (cs := #[.int .i64 ((ah l0 x11_1).f0), .string ((ah l0 x11_1).f1), .int .i64 ((ah l0 x11_1).f2), .int .i64 0]) ?_ 3 _ rfl; (with_reducible repeat (first | refine av ?_ _ | refine aC ?_ | refine au ?_ _)); refine aU (cs := #[.int .i64 ((ah l0 x11_1).f0), .string ((ah l0 x11_1).f1), .int .i64 0, .int .i64 0]) ?_ 2 _ rfl; (with_reducible repeat (first | refine av ?_ _ | refine aC ?_ | refine au ?_ _)); refine aU (cs := #[.int .i64 ((ah l0 x11_1).f0), .string (⟨#[]⟩ : ByteArray), .int .i64 0, .int .i64 0]) ?_ 1 _ rfl; (with_reducible repeat (first | refine av ?_ _ | refine aC ?_ | refine au ?_ _)); refine aU (cs := #[.int .i64 0, .string (⟨#[]⟩ : ByteArray), .int .i64 0, .int .i64 0]) ?_ 0 _ rfl; (with_reducible repeat (first | refine av ?_ _ | refine aC ?_ | refine au ?_ _)); exact BK105.out⟩, ⟨BL⟩⟩
       case rest =>
        clear HC22
        try clear c3
        try clear c4
        try clear c4b0
        try clear c5
        try clear c5b0
        try clear c6
        try clear c6b0
        try clear c8
        try clear c9
        try clear c9b0
        try clear c9b1
        try clear hcz9001_0
        try clear hcz9001_1
        try clear hcz9001_2
        try clear hcz9001_3
        try clear hfz9001_0
        try clear hfz9001_1
        try clear hfz9001_2
        try clear hfz9001_3
        try clear hx104_0
        try clear hx104_1
        try clear hx104_2
        try clear hx104_3
        try clear p104
        try clear q104
        obtain ⟨kq, x60_21, rfl, HA, HJ21, BK105, HB⟩ := hcut
        cases kq with
        | zero => exact absurd HA.out (by simp [aX.j1])
        | succ kj21 =>
         have H := HA.out
         clear HA
         simp only [aX.j1] at H
         replace H := ifB H; rcases H with ⟨rfl, H⟩ | ⟨rfl, H⟩
         ·obtain rfl := Option.some.inj H
          go_wp2
          go_ret
          exact ⟨EWW, BL⟩
         ·replace H := be H; obtain ⟨t111, A37, H⟩ := H
          obtain ⟨hcz9003_0, hcz9003_1, hcz9003_2, hcz9003_3, hfz9003_0, hfz9003_1, hfz9003_2, hfz9003_3⟩ := cz4 BK105.out
          replace H := aj.mk H
          go_wp2_with (first | ((with_reducible refine aJ (f := 107) rfl ?_); refine bI (some 63) Try.func107 #[.int .i64 ((ah l0 x11_1).f0)] ?_; (with_reducible refine (bU.calls ((ah l0 x11_1).f0) _ _ A37.out).mono ?_); rintro e w' ⟨rfl, ⟨nd, rfl⟩⟩; refine ⟨_, rfl, ?_⟩; refine eU ?_))
          refine Hide.mk ?_
          replace H := H.out
          replace H := ifB H; rcases H with ⟨rfl, H⟩ | ⟨rfl, H⟩
          ·replace H := be H; obtain ⟨t112, A39, H⟩ := H
           replace H := aj.mk H
           go_wp2_with (first | (go_at_call 109; (with_reducible refine (iP.calls ((ah l0 x11_1).f3) x11_1 _ _ A39.out).mono ?_); rintro e w' ⟨rfl, ⟨nd, rfl⟩⟩; refine eU ?_))
           refine Hide.mk ?_
           replace H := H.out
           replace H := ifB H; rcases H with ⟨rfl, H⟩ | ⟨rfl, H⟩
           ·replace H := be H; obtain ⟨t113, A41, H⟩ := H
            replace H := aj.mk H
            go_wp2_with (first | (go_at_call 107; (with_reducible refine (bU.calls ((ah l0 x11_1).f0) _ _ A41.out).mono ?_); rintro e w' ⟨rfl, ⟨nd, rfl⟩⟩; refine eU ?_))
            refine Hide.mk ?_
            replace H := H.out
            replace H := ifB H; rcases H with ⟨rfl, H⟩ | ⟨rfl, H⟩
            ·have H' := aj.mk H
             clear H
             try go_wp2
             go_roundg kj21
             case measure => have := HK1.out; have := HJ21.out; omega
             case rel => exact ⟨(wrap64 (x11_1 + 1)), EQ, H', ⟨by have := HK1.out; have := HJ21.out; omega⟩, ⟨BL⟩⟩
            ·replace H := ifE H; rcases H with ⟨c44b0, c44b1, H⟩ | ⟨c44, c44b0, c44b1, H⟩
             ·have H' := aj.mk H
              clear H
              try go_wp2
              go_roundg kj21
              case measure => have := HK1.out; have := HJ21.out; omega
              case rel => exact ⟨(wrap64 (x11_1 + 1)), EQ, H', ⟨by have := HK1.out; have := HJ21.out; omega⟩, ⟨BL⟩⟩
             ·obtain rfl := Option.some.inj H
              try go_wp2
              go_ret
              exact ⟨EWW, BL⟩
           ·obtain rfl := Option.some.inj H
            try go_wp2
            go_ret
            exact ⟨EWW, BL⟩
          ·replace H := be H; obtain ⟨t114, A48, H⟩ := H
           replace H := aj.mk H
           go_wp2_with (first | (go_at_call 107; (with_reducible refine (bU.calls ((ah l0 x11_1).f0) _ _ A48.out).mono ?_); rintro e w' ⟨rfl, ⟨nd, rfl⟩⟩; refine eU ?_))
           refine Hide.mk ?_
           replace H := H.out
           replace H := ifB H; rcases H with ⟨rfl, H⟩ | ⟨rfl, H⟩
           ·have H' := aj.mk H
            clear H
            try go_wp2
            go_roundg kj21
            case measure => have := HK1.out; have := HJ21.out; omega
            case rel => exact ⟨(wrap64 (x11_1 + 1)), EQ, H', ⟨by have := HK1.out; have := HJ21.out; omega⟩, ⟨BL⟩⟩
           ·replace H := ifE H; rcases H with ⟨c51b0, c51b1, H⟩ | ⟨c51, c51b0, c51b1, H⟩
            ·have H' := aj.mk H
             clear H
             try go_wp2
             go_roundg kj21
             case measure => have := HK1.out; have := HJ21.out; omega
             case rel => exact ⟨(wrap64 (x11_1 + 1)), EQ, H', ⟨by have := HK1.out; have := HJ21.out; omega⟩, ⟨BL⟩⟩
            ·obtain rfl := Option.some.inj H
             try go_wp2
             go_ret
             exact ⟨EWW, BL⟩
     ·obtain rfl := Option.some.inj H
      try go_wp2
      go_ret
      exact ⟨EWW, BL⟩
    ·obtain rfl := Option.some.inj H
     go_wp2
     go_ret
     exact ⟨EWW, BL⟩
 ·obtain rfl := Option.some.inj H
  try go_wp2
  go_ret
  exact ⟨EWW, BL⟩
def bN.f : Nat → List (bq) → Int → Option (ByteArray)
 | 0, _, _ => none
 | k + 1, a, b => if 0 ≤ b then (if b < (a.length : Int) then (if ((ah a b).f0) = 1 then (some ((ah a b).f1)) else (if 0 ≤ ((ah a b).f0) then (if ((ah a b).f0) ≤ (wrap64 (((ah a b).f0) + 1)) then (if (wrap64 (((ah a b).f0) + 1)) ≤ 10 then (if ((⟨#[63, 63, 98, 109, 106, 105, 104, 110, 116, 100]⟩ : ByteArray).extract (((ah a b).f0) : Int).toNat ((wrap64 (((ah a b).f0) + 1)) : Int).toNat).size + 1 ≤ 9223372036854775807 then ((bN.f k a ((ah a b).f2)).bind fun c => (if (((⟨#[63, 63, 98, 109, 106, 105, 104, 110, 116, 100]⟩ : ByteArray).extract (((ah a b).f0) : Int).toNat ((wrap64 (((ah a b).f0) + 1)) : Int).toNat) ++ (⟨#[40]⟩ : ByteArray)).size + c.size ≤ 9223372036854775807 then ((bU.f ((ah a b).f0)).bind fun d => (if d = true then ((bN.f k a ((ah a b).f3)).bind fun e => (if 1 + e.size ≤ 9223372036854775807 then (if ((((⟨#[63, 63, 98, 109, 106, 105, 104, 110, 116, 100]⟩ : ByteArray).extract (((ah a b).f0) : Int).toNat ((wrap64 (((ah a b).f0) + 1)) : Int).toNat) ++ (⟨#[40]⟩ : ByteArray)) ++ c).size + ((⟨#[44]⟩ : ByteArray) ++ e).size ≤ 9223372036854775807 then (if (((((⟨#[63, 63, 98, 109, 106, 105, 104, 110, 116, 100]⟩ : ByteArray).extract (((ah a b).f0) : Int).toNat ((wrap64 (((ah a b).f0) + 1)) : Int).toNat) ++ (⟨#[40]⟩ : ByteArray)) ++ c) ++ ((⟨#[44]⟩ : ByteArray) ++ e)).size + 1 ≤ 9223372036854775807 then (some ((((((⟨#[63, 63, 98, 109, 106, 105, 104, 110, 116, 100]⟩ : ByteArray).extract (((ah a b).f0) : Int).toNat ((wrap64 (((ah a b).f0) + 1)) : Int).toNat) ++ (⟨#[40]⟩ : ByteArray)) ++ c) ++ ((⟨#[44]⟩ : ByteArray) ++ e)) ++ (⟨#[41]⟩ : ByteArray))) else (none)) else (none)) else (none))) else (if ((((⟨#[63, 63, 98, 109, 106, 105, 104, 110, 116, 100]⟩ : ByteArray).extract (((ah a b).f0) : Int).toNat ((wrap64 (((ah a b).f0) + 1)) : Int).toNat) ++ (⟨#[40]⟩ : ByteArray)) ++ c).size + 1 ≤ 9223372036854775807 then (some (((((⟨#[63, 63, 98, 109, 106, 105, 104, 110, 116, 100]⟩ : ByteArray).extract (((ah a b).f0) : Int).toNat ((wrap64 (((ah a b).f0) + 1)) : Int).toNat) ++ (⟨#[40]⟩ : ByteArray)) ++ c) ++ (⟨#[41]⟩ : ByteArray))) else (none)))) else (none))) else (none)) else (none)) else (none)) else (none))) else (none)) else (none)
def bN.T4 : Bool × List (List Nat × List Nat) := (true, [([], []), ([0], [0]), ([], []), ([2], [2]), ([3], [3]), ([1, 4], [1, 4]), ([5], [5]), ([], []), ([], []), ([8], [8]), ([7, 9], [7, 9]), ([6, 10], [6, 10]), ([11, 10, 0, 1, 2, 3, 4, 5, 6, 7, 8, 9, 10, 11], [11])])
def bN.B4 : List Nat := [0, 1, 0, 4, 12, 31, 63, 0, 0, 256, 896, 2047, 4095]
theorem bN.wE : iE .any (opsOf Try.f104 4) = bN.T4 := by kernel_rfl
theorem bN.vK : iy bN.T4.2 bN.B4 = true := by kernel_rfl
theorem bN.calls (k : Nat) : ∀ (A0 : Option Addr) (c0 : Nat) (l0 : List (bq)) (a1 : Int) (r : ByteArray) (w : World) (hr0 : Kd.C eY w A0 l0.length l0) (hc0 : l0.length ≤ c0) (h : bN.f k l0 a1 = some r),
  Calls Try.prog 104 #[.slice A0 l0.length c0, .int .i64 a1] w fun e w' => e = .returned (.string r) ∧ Below w.heap.size w w' := by
 induction k using Nat.strongRecOn with
 | _ k ih =>
 intro A0 c0 l0 a1 r w hr0 hc0 h
 cases k with
 | zero => exact absurd h (by simp [bN.f])
 | succ k =>
 simp only [bN.f] at h
 have hu110 := Try.underlying110
 have HR0 := aj.mk hr0
 have HC0 := aj.mk hc0
 clear hr0 hc0
 have HB := aj.mk (Below.refl w.heap.size w)
 have H : (if 0 ≤ a1 then (if a1 < (l0.length : Int) then (if ((ah l0 a1).f0) = 1 then (some ((ah l0 a1).f1)) else (if 0 ≤ ((ah l0 a1).f0) then (if ((ah l0 a1).f0) ≤ (wrap64 (((ah l0 a1).f0) + 1)) then (if (wrap64 (((ah l0 a1).f0) + 1)) ≤ 10 then (if ((⟨#[63, 63, 98, 109, 106, 105, 104, 110, 116, 100]⟩ : ByteArray).extract (((ah l0 a1).f0) : Int).toNat ((wrap64 (((ah l0 a1).f0) + 1)) : Int).toNat).size + 1 ≤ 9223372036854775807 then ((bN.f k l0 ((ah l0 a1).f2)).bind fun t117 => (if (((⟨#[63, 63, 98, 109, 106, 105, 104, 110, 116, 100]⟩ : ByteArray).extract (((ah l0 a1).f0) : Int).toNat ((wrap64 (((ah l0 a1).f0) + 1)) : Int).toNat) ++ (⟨#[40]⟩ : ByteArray)).size + t117.size ≤ 9223372036854775807 then ((bU.f ((ah l0 a1).f0)).bind fun t118 => (if t118 = true then ((bN.f k l0 ((ah l0 a1).f3)).bind fun t119 => (if 1 + t119.size ≤ 9223372036854775807 then (if ((((⟨#[63, 63, 98, 109, 106, 105, 104, 110, 116, 100]⟩ : ByteArray).extract (((ah l0 a1).f0) : Int).toNat ((wrap64 (((ah l0 a1).f0) + 1)) : Int).toNat) ++ (⟨#[40]⟩ : ByteArray)) ++ t117).size + ((⟨#[44]⟩ : ByteArray) ++ t119).size ≤ 9223372036854775807 then (if (((((⟨#[63, 63, 98, 109, 106, 105, 104, 110, 116, 100]⟩ : ByteArray).extract (((ah l0 a1).f0) : Int).toNat ((wrap64 (((ah l0 a1).f0) + 1)) : Int).toNat) ++ (⟨#[40]⟩ : ByteArray)) ++ t117) ++ ((⟨#[44]⟩ : ByteArray) ++ t119)).size + 1 ≤ 9223372036854775807 then (some ((((((⟨#[63, 63, 98, 109, 106, 105, 104, 110, 116, 100]⟩ : ByteArray).extract (((ah l0 a1).f0) : Int).toNat ((wrap64 (((ah l0 a1).f0) + 1)) : Int).toNat) ++ (⟨#[40]⟩ : ByteArray)) ++ t117) ++ ((⟨#[44]⟩ : ByteArray) ++ t119)) ++ (⟨#[41]⟩ : ByteArray))) else (none)) else (none)) else (none))) else (if ((((⟨#[63, 63, 98, 109, 106, 105, 104, 110, 116, 100]⟩ : ByteArray).extract (((ah l0 a1).f0) : Int).toNat ((wrap64 (((ah l0 a1).f0) + 1)) : Int).toNat) ++ (⟨#[40]⟩ : ByteArray)) ++ t117).size + 1 ≤ 9223372036854775807 then (some (((((⟨#[63, 63, 98, 109, 106, 105, 104, 110, 116, 100]⟩ : ByteArray).extract (((ah l0 a1).f0) : Int).toNat ((wrap64 (((ah l0 a1).f0) + 1)) : Int).toNat) ++ (⟨#[40]⟩ : ByteArray)) ++ t117) ++ (⟨#[41]⟩ : ByteArray))) else (none)))) else (none))) else (none)) else (none)) else (none)) else (none))) else (none)) else (none)) = some r := h
 clear h
 replace H := ifN H; obtain ⟨c3b0, H⟩ := H
 replace H := ifN H; obtain ⟨c4b0, H⟩ := H
 have p115 : 0 ≤ (a1 : Int) := OD
 have q115 : a1 < (l0.length : Int) := OD
 obtain ⟨ad115, e115, hx115_0, hx115_1, hx115_2, hx115_3⟩ := fK HR0.out a1 p115 q115
 cases e115
 replace p115 := eq_true p115
 replace q115 := eq_true q115
 replace H := aj.mk H
 go_enter Try.func104, Try.ntmps104
 go_wp2_with (first | ((with_reducible refine dz (N := 5) rfl ?_); refine gV (N := 5) (cs := #[.int .i64 0, .string (⟨#[]⟩ : ByteArray), .int .i64 0, .int .i64 0]) (t := 110) ?_; intro gb116 hg w9000 hbox hb; have BK116 := aj.mk hbox; have GW116 := SZ (w := w) hg; have GE116 := GW116; replace HB := BS (w := w) hb; clear hb hbox hg; obtain ⟨hcz9001_0, hcz9001_1, hcz9001_2, hcz9001_3, hfz9001_0, hfz9001_1, hfz9001_2, hfz9001_3⟩ := cz4 BK116.out; refine eU ?_))
 refine Hide.mk ?_
 replace H := H.out
 replace H := ifE H; rcases H with ⟨c5b0, c5b1, H⟩ | ⟨c5, c5b0, c5b1, H⟩
 ·obtain rfl := Option.some.inj H
  try go_wp2
  go_ret
  exact ⟨EWW, BL⟩
 ·replace H := ifP H; obtain ⟨c8, H⟩ := H
  have c8b0 := eq_true c8
  have c8b1 : decide (0 ≤ ((ah l0 a1).f0)) = true := decide_eq_true c8
  clear c8
  replace H := ifP H; obtain ⟨c9, H⟩ := H
  have c9b0 := eq_true c9
  have c9b1 : decide (((ah l0 a1).f0) ≤ (wrap64 (((ah l0 a1).f0) + 1))) = true := decide_eq_true c9
  replace H := ifP H; obtain ⟨c10, H⟩ := H
  have c10b0 := eq_true c10
  have c10b1 : decide ((wrap64 (((ah l0 a1).f0) + 1)) ≤ 10) = true := decide_eq_true c10
  replace H := ifP H; obtain ⟨c11, H⟩ := H
  have c11b0 := eq_true c11
  have c11b1 : decide (((⟨#[63, 63, 98, 109, 106, 105, 104, 110, 116, 100]⟩ : ByteArray).extract (((ah l0 a1).f0) : Int).toNat ((wrap64 (((ah l0 a1).f0) + 1)) : Int).toNat).size + 1 ≤ 9223372036854775807) = true := decide_eq_true c11
  have c11z : (9223372036854775807 < (wrap64 ((ah l0 a1).f0 + 1)).toNat - ((ah l0 a1).f0).toNat + 1) = False := eq_false (by have hz_ : wrap64 ((ah l0 a1).f0 + 1) ≤ 10 := OD; have hs_ : ((⟨#[63, 63, 98, 109, 106, 105, 104, 110, 116, 100]⟩ : ByteArray).extract (((ah l0 a1).f0) : Int).toNat ((wrap64 (((ah l0 a1).f0) + 1)) : Int).toNat).size = (wrap64 ((ah l0 a1).f0 + 1)).toNat - ((ah l0 a1).f0).toNat := (by rw [ByteArray.size_extract]; show min _ 10 - _ = _; omega); have h_ := of_decide_eq_true c11b1; have e1_ : (⟨#[40]⟩ : ByteArray).size = 1 := rfl; have e2_ : (⟨#[44]⟩ : ByteArray).size = 1 := rfl; simp only [ByteArray.size_append, hs_] at h_; omega)
  try have c11b2 : (9223372036854775807 < ((⟨#[63, 63, 98, 109, 106, 105, 104, 110, 116, 100]⟩ : ByteArray).extract (((ah l0 a1).f0) : Int).toNat ((wrap64 (((ah l0 a1).f0) + 1)) : Int).toNat).size + 1) = False := eq_false (Nat.not_lt.2 c11)
  replace H := be H; obtain ⟨t117, A12, H⟩ := H
  replace H := ifP H; obtain ⟨c13, H⟩ := H
  have c13b0 := eq_true c13
  have c13b1 : decide ((((⟨#[63, 63, 98, 109, 106, 105, 104, 110, 116, 100]⟩ : ByteArray).extract (((ah l0 a1).f0) : Int).toNat ((wrap64 (((ah l0 a1).f0) + 1)) : Int).toNat) ++ (⟨#[40]⟩ : ByteArray)).size + t117.size ≤ 9223372036854775807) = true := decide_eq_true c13
  have c13z : (9223372036854775807 < (wrap64 ((ah l0 a1).f0 + 1)).toNat - ((ah l0 a1).f0).toNat + 1 + t117.size) = False := eq_false (by have hz_ : wrap64 ((ah l0 a1).f0 + 1) ≤ 10 := OD; have hs_ : ((⟨#[63, 63, 98, 109, 106, 105, 104, 110, 116, 100]⟩ : ByteArray).extract (((ah l0 a1).f0) : Int).toNat ((wrap64 (((ah l0 a1).f0) + 1)) : Int).toNat).size = (wrap64 ((ah l0 a1).f0 + 1)).toNat - ((ah l0 a1).f0).toNat := (by rw [ByteArray.size_extract]; show min _ 10 - _ = _; omega); have h_ := of_decide_eq_true c13b1; have e1_ : (⟨#[40]⟩ : ByteArray).size = 1 := rfl; have e2_ : (⟨#[44]⟩ : ByteArray).size = 1 := rfl; simp only [ByteArray.size_append, hs_] at h_; omega)
  try have c13b2 : (9223372036854775807 < (((⟨#[63, 63, 98, 109, 106, 105, 104, 110, 116, 100]⟩ : ByteArray).extract (((ah l0 a1).f0) : Int).toNat ((wrap64 (((ah l0 a1).f0) + 1)) : Int).toNat) ++ (⟨#[40]⟩ : ByteArray)).size + t117.size) = False := eq_false (Nat.not_lt.2 c13)
  replace H := be H; obtain ⟨t118, A14, H⟩ := H
  replace H := aj.mk H
  try go_wp2
  have n0_ : aj (((((w9000.setCell ⟨gb116, 0, none⟩ (.int .i64 ((ah l0 a1).f0))).setCell ⟨gb116, 1, none⟩ (.string ((ah l0 a1).f1))).setCell ⟨gb116, 2, none⟩ (.int .i64 ((ah l0 a1).f2))).setCell ⟨gb116, 3, none⟩ (.int .i64 ((ah l0 a1).f3))).heap[gb116]? = some (.cells #[.int .i64 ((ah l0 a1).f0), .string ((ah l0 a1).f1), .int .i64 ((ah l0 a1).f2), .int .i64 ((ah l0 a1).f3)] 110 (0, 0))) := ⟨by (with_reducible repeat (first | refine av ?_ _ | refine aC ?_ | refine au ?_ _)); refine aU (cs := #[.int .i64 ((ah l0 a1).f0), .string ((ah l0 a1).f1), .int .i64 ((ah l0 a1).f2), .int .i64 0]) ?_ 3 _ rfl; (with_reducible repeat (first | refine av ?_ _ | refine aC ?_ | refine au ?_ _)); refine aU (cs := #[.int .i64 ((ah l0 a1).f0), .string ((ah l0 a1).f1), .int .i64 0, .int .i64 0]) ?_ 2 _ rfl; (with_reducible repeat (first | refine av ?_ _ | refine aC ?_ | refine au ?_ _)); refine aU (cs := #[.int .i64 ((ah l0 a1).f0), .string (⟨#[]⟩ : ByteArray), .int .i64 0, .int .i64 0]) ?_ 1 _ rfl; (with_reducible repeat (first | refine av ?_ _ | refine aC ?_ | refine au ?_ _)); refine aU (cs := #[.int .i64 0, .string (⟨#[]⟩ : ByteArray), .int .i64 0, .int .i64 0]) ?_ 0 _ rfl; (with_reducible repeat (first | refine av ?_ _ | refine aC ?_ | refine au ?_ _)); exact BK116.out⟩
  have n1_ : aj (Below w.heap.size w ((((w9000.setCell ⟨gb116, 0, none⟩ (.int .i64 ((ah l0 a1).f0))).setCell ⟨gb116, 1, none⟩ (.string ((ah l0 a1).f1))).setCell ⟨gb116, 2, none⟩ (.int .i64 ((ah l0 a1).f2))).setCell ⟨gb116, 3, none⟩ (.int .i64 ((ah l0 a1).f3)))) := ⟨BL⟩
  (try clear BK116)
  (try clear HB)
  generalize ((((w9000.setCell ⟨gb116, 0, none⟩ (.int .i64 ((ah l0 a1).f0))).setCell ⟨gb116, 1, none⟩ (.string ((ah l0 a1).f1))).setCell ⟨gb116, 2, none⟩ (.int .i64 ((ah l0 a1).f2))).setCell ⟨gb116, 3, none⟩ (.int .i64 ((ah l0 a1).f3))) = w9002 at n0_ n1_ ⊢
  have BK116 := n0_
  have HB := n1_
  clear n0_ n1_
  replace BK116 := aj.mk (aC BK116.out)
  replace HB := aj.mk (aG HB.out)
  refine iJ (n := 13) (S := fun w' => w'.cell? ⟨gb116, 0, none⟩ = some (.int .i64 ((ah l0 a1).f0)) ∧ w'.cell? ⟨gb116, 1, none⟩ = some (.string ((ah l0 a1).f1)) ∧ w'.cell? ⟨gb116, 2, none⟩ = some (.int .i64 ((ah l0 a1).f2)) ∧ w'.cell? ⟨gb116, 3, none⟩ = some (.int .i64 ((ah l0 a1).f3))) (ds := []) #[F,F,F,F,F,F,F,F,F,F,F,F,F] (by kernel_rfl) rfl rfl ⟨(aT BK116.out 0).trans rfl, (aT BK116.out 1).trans rfl, (aT BK116.out 2).trans rfl, (aT BK116.out 3).trans rfl⟩ (fun hHeld => ?_); refine gZ bN.wE bN.vK (fun HT_ HW_ => ?_)
  generalize w9002.drew = w9003 at BK116 HB hHeld ⊢
  refine puS (i := 0) (N := some 16) #[T,F,F,F,F,F,F,F,F,F,F,F,F] (bg HT_.out (by kernel_rfl)) ?_
  refine puS (i := 2) (N := some 18) #[T,F,T,F,F,F,F,F,F,F,F,F,F] (bg HT_.out (by kernel_rfl)) ?_
  refine puS (i := 7) (N := some 23) #[T,F,T,F,F,F,F,T,F,F,F,F,F] (bg HT_.out (by kernel_rfl)) ?_
  refine puS (i := 8) (N := some 24) #[T,F,T,F,F,F,F,T,T,F,F,F,F] (bg HT_.out (by kernel_rfl)) ?_
  refine taS (i := 1) (N := some 17) #[T,T,T,F,F,F,F,T,T,F,F,F,F] (dU HT_.out HW_.out (by kernel_rfl)) hHeld ?_
  refine taS (i := 3) (N := some 19) #[T,T,T,T,F,F,F,T,T,F,F,F,F] (dU HT_.out HW_.out (by kernel_rfl)) hHeld ?_
  refine puS (i := 4) (N := some 20) #[T,T,T,T,T,F,F,T,T,F,F,F,F] (bg HT_.out (by kernel_rfl)) ?_
  refine puS (i := 5) (N := some 21) #[T,T,T,T,T,T,F,T,T,F,F,F,F] (bg HT_.out (by kernel_rfl)) ?_
  refine puS (i := 6) (N := some 22) #[T,T,T,T,T,T,T,T,T,F,F,F,F] (bg HT_.out (by kernel_rfl)) ?_
  refine taS (i := 9) (N := some 25) #[T,T,T,T,T,T,T,T,T,T,F,F,F] (dU HT_.out HW_.out (by kernel_rfl)) hHeld ?_
  refine jm (i := 10) (N := some 26) #[T,T,T,T,T,T,T,T,T,T,T,F,F] rfl rfl (gW HT_.out (by kernel_rfl)) (by decide) (fun K hK => ?_)
  refine jM Try.func104 #[.slice (some ad115) l0.length c0, .int .i64 ((ah l0 a1).f2)] ?_
  with_reducible refine (ih k (by omega) _ _ l0 ((ah l0 a1).f2) t117 _ ?side1 ?side2 A12.out).mono ?_
  (case side1 => exact CB HR0)
  (case side2 => exact HC0.out)
  rintro e w9004 ⟨rfl, hb⟩
  refine ⟨_, rfl, ?_⟩
  replace BK116 := KB BK116 hb
  replace HB := BS (w := w) hb
  (try clear hb)
  refine hK.out _ _ ⟨(aT BK116.out 0).trans rfl, (aT BK116.out 1).trans rfl, (aT BK116.out 2).trans rfl, (aT BK116.out 3).trans rfl⟩ (fun hHeld => ?_)
  clear hK K
  refine nrm (some 26) ?_
  refine puS (i := 11) (N := some 27) #[T,T,T,T,T,T,T,T,T,T,T,T,F] (bg HT_.out (by kernel_rfl)) ?_
  refine puS (i := 12) (N := some 6) #[T,T,T,T,T,T,T,T,T,T,T,T,T] (bg HT_.out (by kernel_rfl)) ?_
  refine iN (gN HT_.out (by kernel_rfl)) ?_
  obtain ⟨hcz9005_0, hcz9005_1, hcz9005_2, hcz9005_3, hfz9005_0, hfz9005_1, hfz9005_2, hfz9005_3⟩ := cz4 BK116.out
  go_wp2_with (first | ((with_reducible refine aJ (f := 107) rfl ?_); refine bI (some 30) Try.func107 #[.int .i64 ((ah l0 a1).f0)] ?_; (with_reducible refine (bU.calls ((ah l0 a1).f0) _ _ A14.out).mono ?_); rintro e w' ⟨rfl, ⟨nd, rfl⟩⟩; refine ⟨_, rfl, ?_⟩; refine eU ?_))
  refine Hide.mk ?_
  replace H := H.out
  replace H := ifB H; rcases H with ⟨rfl, H⟩ | ⟨rfl, H⟩
  ·replace H := be H; obtain ⟨t119, A16, H⟩ := H
   replace H := ifP H; obtain ⟨c17, H⟩ := H
   have c17b0 := eq_true c17
   have c17b1 : decide (1 + t119.size ≤ 9223372036854775807) = true := decide_eq_true c17
   try have c17b2 : (9223372036854775807 < 1 + t119.size) = False := eq_false (Nat.not_lt.2 c17)
   replace H := ifP H; obtain ⟨c18, H⟩ := H
   have c18b0 := eq_true c18
   have c18b1 : decide (((((⟨#[63, 63, 98, 109, 106, 105, 104, 110, 116, 100]⟩ : ByteArray).extract (((ah l0 a1).f0) : Int).toNat ((wrap64 (((ah l0 a1).f0) + 1)) : Int).toNat) ++ (⟨#[40]⟩ : ByteArray)) ++ t117).size + ((⟨#[44]⟩ : ByteArray) ++ t119).size ≤ 9223372036854775807) = true := decide_eq_true c18
   have c18z : (9223372036854775807 < (wrap64 ((ah l0 a1).f0 + 1)).toNat - ((ah l0 a1).f0).toNat + 1 + t117.size + (1 + t119.size)) = False := eq_false (by have hz_ : wrap64 ((ah l0 a1).f0 + 1) ≤ 10 := OD; have hs_ : ((⟨#[63, 63, 98, 109, 106, 105, 104, 110, 116, 100]⟩ : ByteArray).extract (((ah l0 a1).f0) : Int).toNat ((wrap64 (((ah l0 a1).f0) + 1)) : Int).toNat).size = (wrap64 ((ah l0 a1).f0 + 1)).toNat - ((ah l0 a1).f0).toNat := (by rw [ByteArray.size_extract]; show min _ 10 - _ = _; omega); have h_ := of_decide_eq_true c18b1; have e1_ : (⟨#[40]⟩ : ByteArray).size = 1 := rfl; have e2_ : (⟨#[44]⟩ : ByteArray).size = 1 := rfl; simp only [ByteArray.size_append, hs_] at h_; omega)
   try have c18b2 : (9223372036854775807 < ((((⟨#[63, 63, 98, 109, 106, 105, 104, 110, 116, 100]⟩ : ByteArray).extract (((ah l0 a1).f0) : Int).toNat ((wrap64 (((ah l0 a1).f0) + 1)) : Int).toNat) ++ (⟨#[40]⟩ : ByteArray)) ++ t117).size + ((⟨#[44]⟩ : ByteArray) ++ t119).size) = False := eq_false (Nat.not_lt.2 c18)
   replace H := ifP H; obtain ⟨c19, H⟩ := H
   have c19b0 := eq_true c19
   have c19b1 : decide ((((((⟨#[63, 63, 98, 109, 106, 105, 104, 110, 116, 100]⟩ : ByteArray).extract (((ah l0 a1).f0) : Int).toNat ((wrap64 (((ah l0 a1).f0) + 1)) : Int).toNat) ++ (⟨#[40]⟩ : ByteArray)) ++ t117) ++ ((⟨#[44]⟩ : ByteArray) ++ t119)).size + 1 ≤ 9223372036854775807) = true := decide_eq_true c19
   have c19z : (9223372036854775807 < (wrap64 ((ah l0 a1).f0 + 1)).toNat - ((ah l0 a1).f0).toNat + 1 + t117.size + (1 + t119.size) + 1) = False := eq_false (by have hz_ : wrap64 ((ah l0 a1).f0 + 1) ≤ 10 := OD; have hs_ : ((⟨#[63, 63, 98, 109, 106, 105, 104, 110, 116, 100]⟩ : ByteArray).extract (((ah l0 a1).f0) : Int).toNat ((wrap64 (((ah l0 a1).f0) + 1)) : Int).toNat).size = (wrap64 ((ah l0 a1).f0 + 1)).toNat - ((ah l0 a1).f0).toNat := (by rw [ByteArray.size_extract]; show min _ 10 - _ = _; omega); have h_ := of_decide_eq_true c19b1; have e1_ : (⟨#[40]⟩ : ByteArray).size = 1 := rfl; have e2_ : (⟨#[44]⟩ : ByteArray).size = 1 := rfl; simp only [ByteArray.size_append, hs_] at h_; omega)
   try have c19b2 : (9223372036854775807 < (((((⟨#[63, 63, 98, 109, 106, 105, 104, 110, 116, 100]⟩ : ByteArray).extract (((ah l0 a1).f0) : Int).toNat ((wrap64 (((ah l0 a1).f0) + 1)) : Int).toNat) ++ (⟨#[40]⟩ : ByteArray)) ++ t117) ++ ((⟨#[44]⟩ : ByteArray) ++ t119)).size + 1) = False := eq_false (Nat.not_lt.2 c19)
   obtain rfl := Option.some.inj H
   try go_wp2_with (first | ((with_reducible refine aJ (f := 104) rfl ?_); refine bI (some 35) Try.func104 #[.slice (some ad115) l0.length c0, .int .i64 ((ah l0 a1).f3)] ?_; (with_reducible refine (ih k (by omega) _ _ l0 ((ah l0 a1).f3) t119 _ ?side1 ?side2 A16.out).mono ?_); (case side1 => repeat (first | exact (Kd.jh HR0.out BL) | (with_reducible refine Kd.fU ?_ _) | (with_reducible refine Kd.fT ?_ _) | (with_reducible refine Kd.iB ?_))); (case side2 => exact HC0.out); rintro e w9006 ⟨rfl, hb⟩; refine ⟨_, rfl, ?_⟩; replace BK116 := KB BK116 hb; replace HB := BS (w := w) hb; (try clear hb)))
   go_ret
   exact ⟨EWW, BL⟩
  ·replace H := ifP H; obtain ⟨c27, H⟩ := H
   have c27b0 := eq_true c27
   have c27b1 : decide (((((⟨#[63, 63, 98, 109, 106, 105, 104, 110, 116, 100]⟩ : ByteArray).extract (((ah l0 a1).f0) : Int).toNat ((wrap64 (((ah l0 a1).f0) + 1)) : Int).toNat) ++ (⟨#[40]⟩ : ByteArray)) ++ t117).size + 1 ≤ 9223372036854775807) = true := decide_eq_true c27
   have c27z : (9223372036854775807 < (wrap64 ((ah l0 a1).f0 + 1)).toNat - ((ah l0 a1).f0).toNat + 1 + t117.size + 1) = False := eq_false (by have hz_ : wrap64 ((ah l0 a1).f0 + 1) ≤ 10 := OD; have hs_ : ((⟨#[63, 63, 98, 109, 106, 105, 104, 110, 116, 100]⟩ : ByteArray).extract (((ah l0 a1).f0) : Int).toNat ((wrap64 (((ah l0 a1).f0) + 1)) : Int).toNat).size = (wrap64 ((ah l0 a1).f0 + 1)).toNat - ((ah l0 a1).f0).toNat := (by rw [ByteArray.size_extract]; show min _ 10 - _ = _; omega); have h_ := of_decide_eq_true c27b1; have e1_ : (⟨#[40]⟩ : ByteArray).size = 1 := rfl; have e2_ : (⟨#[44]⟩ : ByteArray).size = 1 := rfl; simp only [ByteArray.size_append, hs_] at h_; omega)
   try have c27b2 : (9223372036854775807 < ((((⟨#[63, 63, 98, 109, 106, 105, 104, 110, 116, 100]⟩ : ByteArray).extract (((ah l0 a1).f0) : Int).toNat ((wrap64 (((ah l0 a1).f0) + 1)) : Int).toNat) ++ (⟨#[40]⟩ : ByteArray)) ++ t117).size + 1) = False := eq_false (Nat.not_lt.2 c27)
   obtain rfl := Option.some.inj H
   try go_wp2
   go_ret
   exact ⟨EWW, BL⟩
def cB.f (k : Nat) (l0 : List (bq)) : Option (ByteArray) := (aX.f k l0).bind fun t120 => (if t120 = true then ((bN.f k l0 (wrap64 ((l0.length : Int) - 1))).bind fun t121 => (if (t121.size : Int) > 80 then (some (⟨#[]⟩ : ByteArray)) else (some t121))) else (some (⟨#[]⟩ : ByteArray)))
theorem cB.calls (k : Nat) (A0 : Option Addr) (c0 : Nat) (l0 : List (bq)) (r : ByteArray) (w : World) (hr0 : Kd.C eY w A0 l0.length l0) (hc0 : l0.length ≤ c0) (h : cB.f k l0 = some r) :
  Calls Try.prog 45 #[.slice A0 l0.length c0] w fun e w' => e = .returned (.string r) ∧ Below w.heap.size w w' := by
 have HR0 := aj.mk hr0
 have HC0 := aj.mk hc0
 clear hr0 hc0
 have HB := aj.mk (Below.refl w.heap.size w)
 unfold cB.f at h
 have H := h
 clear h
 replace H := be H; obtain ⟨t120, A2, H⟩ := H
 replace H := aj.mk H
 go_enter Try.func45, Try.ntmps45
 go_wp2_with (first | ((with_reducible refine aJ (f := 50) rfl ?_); refine bI (some 5) Try.func50 #[.slice A0 l0.length c0] ?_; (with_reducible refine (aX.calls k _ _ l0 _ _ ?side1 ?side2 A2.out).mono ?_); (case side1 => repeat (first | exact HR0.out | (with_reducible refine Kd.fU ?_ _) | (with_reducible refine Kd.fT ?_ _) | (with_reducible refine Kd.iB ?_))); (case side2 => exact HC0.out); rintro e w9000 ⟨rfl, hb⟩; refine ⟨_, rfl, ?_⟩; replace HB := BS (w := w) hb; (try clear hb); refine eU ?_))
 refine Hide.mk ?_
 replace H := H.out
 replace H := ifB H; rcases H with ⟨rfl, H⟩ | ⟨rfl, H⟩
 ·replace H := be H; obtain ⟨t121, A4, H⟩ := H
  replace H := aj.mk H
  go_wp2_with (first | ((with_reducible refine aJ (f := 104) rfl ?_); refine bI (some 11) Try.func104 #[.slice A0 l0.length c0, .int .i64 (wrap64 ((l0.length : Int) - 1))] ?_; (with_reducible refine (bN.calls k _ _ l0 (wrap64 ((l0.length : Int) - 1)) t121 _ ?side1 ?side2 A4.out).mono ?_); (case side1 => exact CB HR0); (case side2 => exact HC0.out); rintro e w9001 ⟨rfl, hb⟩; refine ⟨_, rfl, ?_⟩; replace HB := BS (w := w) hb; (try clear hb); refine eU ?_))
  refine Hide.mk ?_
  replace H := H.out
  by_cases c5 : (t121.size : Int) > 80
  ·rw [if_pos c5] at H
   have c5b0 : decide (80 < (t121.size : Int)) = true := decide_eq_true c5
   have c5b1 : decide (80 < t121.size) = true := decide_eq_true (by omega)
   clear c5
   obtain rfl := Option.some.inj H
   try go_wp2
   go_ret
   exact ⟨EWW, BL⟩
  ·rw [if_neg c5] at H
   have c5b0 : decide (80 < (t121.size : Int)) = false := decide_eq_false c5
   have c5b1 : decide (80 < t121.size) = false := decide_eq_false (by omega)
   clear c5
   obtain rfl := Option.some.inj H
   try go_wp2
   go_ret
   exact ⟨EWW, BL⟩
 ·obtain rfl := Option.some.inj H
  try go_wp2
  go_ret
  exact ⟨EWW, BL⟩
def bn.st (x : Go.Proofs.Ythjcicmmbmagbaa.HandRead.Stp) : bq := ⟨x.1, x.2.1, x.2.2.1, x.2.2.2⟩
def bn.f (k : Nat) (a0 : ByteArray) : Option ((List (bq)) × Bool) := if (a0.size : Int) > 80 then (some ([], false)) else ((Go.Proofs.Ythjcicmmbmagbaa.HandRead.mU k a0 []).bind fun r => (if r.1 < 0 then (some ([], false)) else (if r.2.1.toList = ([] : List UInt8) then ((aX.f k (r.2.2.map bn.st)).bind fun p => (if p = true then ((cB.f k (r.2.2.map bn.st)).bind fun t => (if t.toList = a0.toList then (some (r.2.2.map bn.st, true)) else (some ([], false)))) else (some ([], false)))) else (some ([], false)))))
theorem bn.wU (w : World) (base : Nat) (ok : Nat → Prop) : ∀ l : List Go.Proofs.Ythjcicmmbmagbaa.HandRead.Stp, bD (eY.M w base ok) 4 (l.map bn.st) (l.flatMap Go.Proofs.Ythjcicmmbmagbaa.HandRead.cs)
 | [] => bD.none _ _
 | x :: l => by
  obtain ⟨h1, h2⟩ := bn.wU w base ok l
  refine ⟨?_, fun j p hj => ?_⟩
  ·rw [List.flatMap_cons, List.length_append, h1, List.map_cons, List.length_cons, List.length_map]
   show 4 + _ = _
   omega
  ·cases j with
   | zero =>
    rw [List.map_cons, List.getElem?_cons_zero] at hj
    obtain rfl := Option.some.inj hj
    exact jA w base ok (bn.st x)
   | succ j =>
    rw [List.map_cons, List.getElem?_cons_succ] at hj
    have h3 := h2 j p hj
    rw [List.flatMap_cons, List.drop_append, show (Go.Proofs.Ythjcicmmbmagbaa.HandRead.cs x).length = 4 from rfl, show (j + 1) * 4 - 4 = j * 4 by omega, List.drop_eq_nil_of_le (by show 4 ≤ (j + 1) * 4; omega), List.nil_append]
    exact h3
theorem bn.row {W : World} {base : Nat} {v : Value} {l : List Go.Proofs.Ythjcicmmbmagbaa.HandRead.Stp} (h : W.ownsRow base 110 4 v l.length (l.flatMap Go.Proofs.Ythjcicmmbmagbaa.HandRead.cs)) : Kd.R eY 110 W base (fun _ => True) v (l.map bn.st) :=
 ⟨fun _ _ => trivial, l.flatMap Go.Proofs.Ythjcicmmbmagbaa.HandRead.cs, by rw [List.length_map]; exact h, bn.wU _ _ _ l⟩
theorem bn.isL (c : Int) (W : World) : Calls Try.prog 122 #[.int .u8 c] W fun e w' => e = .returned (.bool (decide (97 ≤ c ∧ c ≤ 122))) ∧ dB W w' :=
 eD.calls c _ W (by unfold eD.f; split <;> simp <;> omega)
theorem bn.isP (c : Int) (W : World) : Calls Try.prog 107 #[.int .i64 c] W fun e w' => e = .returned (.bool (decide (c = 4 ∨ c = 5))) ∧ dB W w' :=
 bU.calls c _ W (by unfold bU.f; split <;> simp_all <;> (rw [Bool.eq_iff_iff]; simp))
theorem bn.calls (k : Nat) (a0 : ByteArray) (r1 : List (bq)) (r2 : Bool) (w : World) (h : bn.f k a0 = some (r1, r2)) :
  Calls Try.prog 31 #[.string a0] w fun e w' => ∃ v0_ : Value, e = .returned (.tuple #[v0_, .bool r2]) ∧ Kd.R eY 110 w' w.heap.size (fun _ => True) v0_ r1 ∧ Below w.heap.size w w' := by
 unfold bn.f at h
 have hBW := Below.refl w.heap.size w
 by_cases c0 : (a0.size : Int) > 80
 ·rw [if_pos c0] at h
  simp only [Option.some.injEq, Prod.mk.injEq] at h
  obtain ⟨rfl, rfl⟩ := h
  go_enter Try.func31, Try.ntmps31
  go_wp2
  go_ret2
  exact ⟨_, rfl, Kd.ko _ _ _ _ _, hBW⟩
 rw [if_neg c0] at h
 obtain ⟨⟨ra, s2, l2⟩, h1, h⟩ := Option.bind_eq_some_iff.mp h
 dsimp only at h
 have H := aj.mk h
 have H1 := aj.mk h1
 clear h h1 hBW
 have hnew := heap_alloc_new w (.cells #[.string a0, .slice none 0 0] 106)
 have hG0 : (w.alloc (.cells #[.string a0, .slice none 0 0] 106)).heap[w.heap.size]? = some (.cells #[.string a0, .slice none 0 0] 106 (0, 0)) := hnew
 have HG0 := aj.mk hG0
 have HB0 := aj.mk ((Below.refl w.heap.size w).alloc (Nat.le_refl _) (.cells #[.string a0, .slice none 0 0] 106))
 have HS0 := aj.mk (show w.heap.size ≤ (w.alloc (.cells #[.string a0, .slice none 0 0] 106)).heap.size by simp)
 clear hnew hG0
 go_enter Try.func31, Try.ntmps31
 go_wp2_with fail
 generalize w.alloc (.cells #[.string a0, .slice none 0 0] 106) = W1 at HG0 HB0 HS0 ⊢
 obtain ⟨g, hg⟩ : ∃ g, g = w.heap.size := ⟨_, rfl⟩
 have HGE := aj.mk (show w.heap.size ≤ g from Nat.le_of_eq hg.symm)
 rw [← hg] at HG0 ⊢
 clear hg
 refine (Go.Proofs.Ythjcicmmbmagbaa.HandRead.wF bn.isL bn.isP k g w.heap.size a0 (.slice none 0 0) [] _ W1 HG0.out (World.ownsRow_nil _ _ _ _) (by simp [Value.ownBlock]) HGE.out HS0.out H1.out).mono ?_
 rintro e w1 ⟨rfl, v, hG1, ho1, hvg, hs1, hb1⟩
 dsimp only at hG1 ho1
 have HB := aj.mk (HB0.out.trans ((hb1.below (B := w.heap.size) HS0.out (by
  intro q hq
  rcases hq with rfl | hq
  ·exact HGE.out
  ·simp [Value.ownBlock] at hq))))
 have HR := aj.mk (bn.row ho1)
 have HG := aj.mk hG1
 clear hG1 ho1 hvg hs1 hb1 H1 HG0 HB0 HS0
 have hz0 : w1.cell? ⟨g, 0, none⟩ = some (.string s2) := (aT HG.out 0).trans rfl
 have hz1 : w1.cell? ⟨g, 1, none⟩ = some v := (aT HG.out 1).trans rfl
 replace H := H.out
 replace HR := HR.out
 generalize l2.map bn.st = M at HR H
 replace HR := aj.mk HR
 by_cases c1 : ra < 0
 ·rw [if_pos c1] at H
  simp only [Option.some.injEq, Prod.mk.injEq] at H
  obtain ⟨rfl, rfl⟩ := H
  replace c1 := decide_eq_true c1
  go_wp2
  go_ret2
  exact ⟨_, rfl, Kd.ko _ _ _ _ _, HB.out⟩
 rw [if_neg c1] at H
 replace c1 := decide_eq_false c1
 by_cases c2 : s2.toList = ([] : List UInt8)
 rotate_left
 ·rw [if_neg c2] at H
  simp only [Option.some.injEq, Prod.mk.injEq] at H
  obtain ⟨rfl, rfl⟩ := H
  have c3 : (s2.toList == ([] : List UInt8)) = false := by simpa using c2
  have c4 : (s2.toList != ([] : List UInt8)) = true := by simpa using c2
  have c5 : s2.toList.isEmpty = false := by simpa using c2
  go_wp2
  go_ret2
  exact ⟨_, rfl, Kd.ko _ _ _ _ _, HB.out⟩
 rw [if_pos c2] at H
 have c3 : (s2.toList == ([] : List UInt8)) = true := by simpa using c2
 have c4 : (s2.toList != ([] : List UInt8)) = false := by simpa using c2
 have c5 : s2.toList.isEmpty = true := by simpa using c2
 obtain ⟨p, h2, H⟩ := Option.bind_eq_some_iff.mp H
 have H2 := aj.mk h2
 clear h2
 obtain ⟨Ao, co, eo⟩ := Kd.dh HR.out
 subst eo
 go_wp2_with fail
 refine (aX.calls k Ao co M p _ (Kd.aZ HR.out).2.2 (Kd.aZ HR.out).2.1 H2.out).mono ?_
 rintro e w2 ⟨rfl, hb⟩
 replace hb := (by first | exact hb | exact hb.below)
 replace HR := aj.mk (Kd.kM HR.out hb)
 replace HG := aj.mk (jv HG.out hb)
 replace HB := aj.mk (HB.out.trans (hb.mono HB.out.size))
 clear hb hz0 hz1
 have hz0 : w2.cell? ⟨g, 0, none⟩ = some (.string s2) := (aT HG.out 0).trans rfl
 have hz1 : w2.cell? ⟨g, 1, none⟩ = some (.slice Ao M.length co) := (aT HG.out 1).trans rfl
 cases p with
 | false =>
  rw [if_neg (by decide)] at H
  simp only [Option.some.injEq, Prod.mk.injEq] at H
  obtain ⟨rfl, rfl⟩ := H
  go_wp2
  go_ret2
  exact ⟨_, rfl, Kd.ko _ _ _ _ _, HB.out⟩
 | true =>
  rw [if_pos rfl] at H
  obtain ⟨t, h3, H⟩ := Option.bind_eq_some_iff.mp H
  have H3 := aj.mk h3
  clear h3
  go_wp2_with fail
  refine (cB.calls k Ao co M t _ (Kd.aZ HR.out).2.2 (Kd.aZ HR.out).2.1 H3.out).mono ?_
  rintro e w3 ⟨rfl, hb⟩
  replace HR := aj.mk (Kd.kM HR.out hb)
  replace HG := aj.mk (jv HG.out hb)
  replace HB := aj.mk (HB.out.trans (hb.mono HB.out.size))
  clear hb hz0 hz1
  have hz0 : w3.cell? ⟨g, 0, none⟩ = some (.string s2) := (aT HG.out 0).trans rfl
  have hz1 : w3.cell? ⟨g, 1, none⟩ = some (.slice Ao M.length co) := (aT HG.out 1).trans rfl
  by_cases c6 : t.toList = a0.toList
  ·rw [if_pos c6] at H
   simp only [Option.some.injEq, Prod.mk.injEq] at H
   obtain ⟨rfl, rfl⟩ := H
   have c7 : (t.toList == a0.toList) = true := by simpa using c6
   have c8 : (t.toList != a0.toList) = false := by simpa using c6
   go_wp2
   go_ret2
   exact ⟨_, rfl, HR.out, HB.out⟩
  ·rw [if_neg c6] at H
   simp only [Option.some.injEq, Prod.mk.injEq] at H
   obtain ⟨rfl, rfl⟩ := H
   have c7 : (t.toList == a0.toList) = false := by simpa using c6
   have c8 : (t.toList != a0.toList) = true := by simpa using c6
   go_wp2
   go_ret2
   exact ⟨_, rfl, Kd.ko _ _ _ _ _, HB.out⟩
def ak (w0 W : World) (g : Nat) (f0 : List Int) (f1 f2 : Int) : Prop := ∃ A0 c0, W.heap[g]? = some (.cells #[.slice A0 f0.length c0, .int .i64 f1, .int .i64 f2] 137 (0, 0)) ∧ w0.heap.size ≤ g ∧ Kd.C (Kd.int .u8) w0 A0 f0.length f0
theorem ak.grown {w0 W : World} {g : Nat} {f0 : List Int} {f1 : Int} {f2 : Int} {W1 : World} {row : Option Nat} (h : ak w0 W g f0 f1 f2) (hw : W.grownBy W1 row) (hne : some g ≠ row) : ak w0 W1 g f0 f1 f2 := by
 obtain ⟨A0, c0, hb, hg, hr0⟩ := h
 exact ⟨A0, c0, iC hb hw hne, hg, hr0⟩
theorem ak.kept {w0 W : World} {g : Nat} {f0 : List Int} {f1 : Int} {f2 : Int} {W1 : World} {S : Nat → Prop} (h : ak w0 W g f0 f1 f2) (hk : Kept W W1 S) (hne : ¬ S g) : ak w0 W1 g f0 f1 f2 := by
 obtain ⟨A0, c0, hb, hg, hr0⟩ := h
 exact ⟨A0, c0, vD hb hk hne, hg, hr0⟩
theorem ak.below {w0 W : World} {g : Nat} {f0 : List Int} {f1 : Int} {f2 : Int} {W1 : World} (h : ak w0 W g f0 f1 f2) (hw : Below W.heap.size W W1) : ak w0 W1 g f0 f1 f2 := h.grown (je hw none) (by simp)
theorem ak.alloc {w0 W : World} {g : Nat} {f0 : List Int} {f1 : Int} {f2 : Int} (h : ak w0 W g f0 f1 f2) (o : Obj) : ak w0 (W.alloc o) g f0 f1 f2 := h.below (aI (Below.refl _ _) o)
theorem ak.drewN {w0 W : World} {g : Nat} {f0 : List Int} {f1 : Int} {f2 : Int} (h : ak w0 W g f0 f1 f2) (m : Nat) : ak w0 (W.drewN m) g f0 f1 f2 := h
theorem ak.drew {w0 W : World} {g : Nat} {f0 : List Int} {f1 : Int} {f2 : Int} (h : ak w0 W g f0 f1 f2) : ak w0 W.drew g f0 f1 f2 := h
theorem ak.at_ {w0 W : World} {g : Nat} {f0 : List Int} {f1 : Int} {f2 : Int} {w' : World} {m : Nat} (hq : W.drewN m = w') (h : ak w0 W g f0 f1 f2) : ak w0 w' g f0 f1 f2 := by subst hq; exact ak.drewN h m
theorem ak.apart {w0 W : World} {g : Nat} {f0 : List Int} {f1 : Int} {f2 : Int} {α : Type} {d : Kd α} {e : Nat} {base : Nat} {ok : Nat → Prop} {v : Value} {xs : List α} (h : ak w0 W g f0 f1 f2) (ho : d.R e W base ok v xs) (ht : ∀ q, q ∈ e :: d.E → q ≠ 137) : d.R e W base (fun k => ok k ∧ k ≠ g) v xs := by
 obtain ⟨A0, c0, hb, hg, hr0⟩ := h
 exact Kd.kr ho hb ht
theorem ak.own_ne {w0 W : World} {g : Nat} {f0 : List Int} {f1 : Int} {f2 : Int} {α : Type} {d : Kd α} {e : Nat} {base : Nat} {ok : Nat → Prop} {v : Value} {xs : List α} (h : ak w0 W g f0 f1 f2) (ho : d.R e W base ok v xs) (ht : e ≠ 137) : some g ≠ v.ownBlock := by
 obtain ⟨A0, c0, hb, hg, hr0⟩ := h
 exact Kd.lq ho hb ht
theorem ak.lt {w0 W : World} {g : Nat} {f0 : List Int} {f1 : Int} {f2 : Int} (h : ak w0 W g f0 f1 f2) : g < W.heap.size := by
 obtain ⟨A0, c0, hb, hg, hr0⟩ := h
 exact jP hb
theorem ak.ge {w0 W : World} {g : Nat} {f0 : List Int} {f1 : Int} {f2 : Int} (h : ak w0 W g f0 f1 f2) : w0.heap.size ≤ g := by
 obtain ⟨A0, c0, hb, hg, hr0⟩ := h
 exact hg
theorem ak.far {w0 W : World} {g : Nat} {f0 : List Int} {f1 : Int} {f2 : Int} {p : Addr} (h : ak w0 W g f0 f1 f2) (hne : g ≠ p.block) (u : Value) : ak w0 (W.setCell p u) g f0 f1 f2 := by
 obtain ⟨A0, c0, hb, hg, hr0⟩ := h
 exact ⟨A0, c0, fG hb hne u, hg, hr0⟩
theorem nN {W : World} {g : Nat} {A0 : Option Addr} {c0 : Nat} {f0 : List Int} {f1 : Int} {f2 : Int} (h : W.heap[g]? = some (.cells #[.slice A0 f0.length c0, .int .i64 f1, .int .i64 f2] 137 (0, 0))) : W.cell? ⟨g, 0, none⟩ = some (.slice A0 f0.length c0) := (aT h 0).trans rfl
theorem nY {W : World} {g : Nat} {A0 : Option Addr} {c0 : Nat} {f0 : List Int} {f1 : Int} {f2 : Int} (h : W.heap[g]? = some (.cells #[.slice A0 f0.length c0, .int .i64 f1, .int .i64 f2] 137 (0, 0))) : W.cell? ⟨g, 1, none⟩ = some (.int .i64 f1) := (aT h 1).trans rfl
theorem ak.bG {w0 W : World} {g : Nat} {f0 : List Int} {f1 : Int} {f2 : Int} (h : ak w0 W g f0 f1 f2) (x : Int) : ak w0 (W.setCell ⟨g, 1, none⟩ (.int .i64 x)) g f0 x f2 := by
 obtain ⟨A0, c0, hb, hg, hr0⟩ := h
 exact ⟨A0, c0, by simpa using nG hb 1 (.int .i64 x), hg, hr0⟩
theorem oL {W : World} {g : Nat} {A0 : Option Addr} {c0 : Nat} {f0 : List Int} {f1 : Int} {f2 : Int} (h : W.heap[g]? = some (.cells #[.slice A0 f0.length c0, .int .i64 f1, .int .i64 f2] 137 (0, 0))) : W.cell? ⟨g, 2, none⟩ = some (.int .i64 f2) := (aT h 2).trans rfl
theorem ak.bF {w0 W : World} {g : Nat} {f0 : List Int} {f1 : Int} {f2 : Int} (h : ak w0 W g f0 f1 f2) (x : Int) : ak w0 (W.setCell ⟨g, 2, none⟩ (.int .i64 x)) g f0 f1 x := by
 obtain ⟨A0, c0, hb, hg, hr0⟩ := h
 exact ⟨A0, c0, by simpa using nG hb 2 (.int .i64 x), hg, hr0⟩
def dx.l0 : Nat → List Int → Int → Int → Option (List Int × Int × Int)
 | 0, _, _, _ => none
 | k + 1, a, b, c => if c < (a.length : Int) then (if c < 4000 then (if 0 ≤ c then (dx.l0 k a (Go.bits .and .i64 (wrap64 ((wrap64 ((wrap64 (b * 137)) + (wrap64 (rd a c)))) + 11)) 1073741823) (wrap64 (c + 1))) else (none)) else (some (a, 0, b))) else (some (a, 0, b))
def dx.f (k : Nat) (l0 : List Int) : Option (List Int × Int × Int) := dx.l0 k l0 (wrap64 (193017 + (l0.length : Int))) 0
theorem dx.calls (k : Nat) (A0 : Option Addr) (c0 : Nat) (l0 r1 : List Int) (r2 r3 : Int) (w0 w : World) (hB : Below w0.heap.size w0 w) (hr0 : Kd.C (Kd.int .u8) w0 A0 l0.length l0) (hc0 : l0.length ≤ c0) (h : dx.f k l0 = some (r1, r2, r3)) :
  Calls Try.prog 60 #[.slice A0 l0.length c0] w fun e w' => ∃ g_ : Nat, e = .returned (.pointer (some ⟨g_, 0, none⟩)) ∧ ak w0 w' g_ r1 r2 r3 ∧ Below w0.heap.size w0 w' ∧ Below w.heap.size w w' := by
 have hu137 := Try.underlying137
 have HR0 := aj.mk hr0
 have HC0 := aj.mk hc0
 clear hr0 hc0
 have HBW := aj.mk (Below.refl w.heap.size w)
 have HW0 := aj.mk hB.size
 have HB := aj.mk hB
 clear hB
 unfold dx.f at h
 have H := h
 clear h
 have H' := aj.mk H
 clear H
 go_enter Try.func60, Try.ntmps60
 go_wp2
 go_loopg [3, 4] k (fun kq v3 v4 w' => ∃ (x3_1 : Int) (x4_1 : Int), v3 = .int .i64 x3_1 ∧ v4 = .int .i64 x4_1 ∧ aj (dx.l0 kq l0 x3_1 x4_1 = some (r1, r2, r3)) ∧ aj (kq ≤ k) ∧ aj (Below w0.heap.size w0 w') ∧ aj (Below w.heap.size w w'))
 case atStart => exact ⟨(wrap64 (193017 + (l0.length : Int))), (0), EQ, EQ, H', ⟨Nat.le_refl _⟩, ⟨BL⟩, ⟨by repeat (first | (with_reducible first | exact HBW.out | apply aI | apply aA | apply aG) | exact HBW.out)⟩⟩
 case round =>
  clear H'
  obtain ⟨x3_1, x4_1, rfl, rfl, HA, HK1, HB, HBW⟩ := hrel
  cases gk with
  | zero => exact absurd HA.out (by simp [dx.l0])
  | succ k1 =>
   have H := HA.out
   clear HA
   simp only [dx.l0] at H
   replace H := ifD H; rcases H with ⟨c2b0, H⟩ | ⟨c2b0, H⟩
   ·replace H := ifD H; rcases H with ⟨c3b0, H⟩ | ⟨c3b0, H⟩
    ·replace H := ifN H; obtain ⟨c4b0, H⟩ := H
     have H' := aj.mk H
     clear H
     have p122 : 0 ≤ (x4_1 : Int) := OD
     have q122 : x4_1 < (l0.length : Int) := OD
     obtain ⟨ad122, e122, hx122_0⟩ := Kd.jH HR0.out x4_1 p122 q122
     cases e122
     replace hx122_0 := gK HB.out hx122_0
     replace p122 := eq_true p122
     replace q122 := eq_true q122
     go_wp2
     go_roundg k1
     case measure => have := HK1.out; omega
     case rel => exact ⟨(Go.bits .and .i64 (wrap64 ((wrap64 ((wrap64 (x3_1 * 137)) + (wrap64 (rd l0 x4_1)))) + 11)) 1073741823), (wrap64 (x4_1 + 1)), EQ, EQ, H', ⟨by have := HK1.out; omega⟩, ⟨BL⟩, ⟨by repeat (first | (with_reducible first | exact HBW.out | apply aI | apply aA | apply aG) | exact HBW.out)⟩⟩
    ·simp only [Option.some.injEq, Prod.mk.injEq] at H
     obtain ⟨rfl, rfl, rfl⟩ := H
     go_wp2_with (first | ((with_reducible refine dz (N := 31) rfl ?_); refine gV (N := 31) (cs := #[.slice A0 l0.length c0, .int .i64 0, .int .i64 x3_1]) (t := 137) ?_; intro gb123 hg w7000 hbox hb; have n0_ := aj.mk (eu HBW.out hb); have n1_ := BS (w := w0) hb; have n2_ := aj.mk (hbox); have n3_ := aj.mk ((by rw [hg]; exact (bS (by repeat (first | (with_reducible first | exact HBW.out | apply aI | apply aA | apply aG) | exact HBW.out))) : w.heap.size ≤ gb123)); have n4_ := aj.mk ((Nat.le_trans HW0.out (by rw [hg]; exact (bS (by repeat (first | (with_reducible first | exact HBW.out | apply aI | apply aA | apply aG) | exact HBW.out))) : w.heap.size ≤ gb123) : w0.heap.size ≤ gb123)); clear HBW HB; have HBW := n0_; have HB := n1_; have BK123 := n2_; have GW123 := n3_; have GE123 := n4_; clear n0_ n1_ n2_ n3_ n4_; clear hb hbox hg))
     go_ret
     exact ⟨_, rfl, (show ak w0 _ gb123 l0 0 x3_1 from ⟨_, _, BK, GE123.out, HR0.out⟩), BL, by repeat (first | (with_reducible first | exact HBW.out | apply aI | apply aA | apply aG | refine aD ?_ GW123.out) | exact HBW.out)⟩
   ·simp only [Option.some.injEq, Prod.mk.injEq] at H
    obtain ⟨rfl, rfl, rfl⟩ := H
    go_wp2_with (first | ((with_reducible refine dz (N := 31) rfl ?_); refine gV (N := 31) (cs := #[.slice A0 l0.length c0, .int .i64 0, .int .i64 x3_1]) (t := 137) ?_; intro gb124 hg w7000 hbox hb; have n0_ := aj.mk (eu HBW.out hb); have n1_ := BS (w := w0) hb; have n2_ := aj.mk (hbox); have n3_ := aj.mk ((by rw [hg]; exact (bS (by repeat (first | (with_reducible first | exact HBW.out | apply aI | apply aA | apply aG) | exact HBW.out))) : w.heap.size ≤ gb124)); have n4_ := aj.mk ((Nat.le_trans HW0.out (by rw [hg]; exact (bS (by repeat (first | (with_reducible first | exact HBW.out | apply aI | apply aA | apply aG) | exact HBW.out))) : w.heap.size ≤ gb124) : w0.heap.size ≤ gb124)); clear HBW HB; have HBW := n0_; have HB := n1_; have BK124 := n2_; have GW124 := n3_; have GE124 := n4_; clear n0_ n1_ n2_ n3_ n4_; clear hb hbox hg))
    go_ret
    exact ⟨_, rfl, (show ak w0 _ gb124 l0 0 x3_1 from ⟨_, _, BK, GE124.out, HR0.out⟩), BL, by repeat (first | (with_reducible first | exact HBW.out | apply aI | apply aA | apply aG | refine aD ?_ GW124.out) | exact HBW.out)⟩
def gI.f  : Option (List ByteArray) := some (([(⟨#[99, 97, 116]⟩ : ByteArray), (⟨#[97, 99, 116]⟩ : ByteArray), (⟨#[116, 97, 99]⟩ : ByteArray), (⟨#[97, 114, 99]⟩ : ByteArray), (⟨#[99, 97, 114]⟩ : ByteArray), (⟨#[101, 114, 97]⟩ : ByteArray), (⟨#[97, 114, 101]⟩ : ByteArray), (⟨#[101, 97, 114]⟩ : ByteArray), (⟨#[97, 116, 101]⟩ : ByteArray), (⟨#[116, 101, 97]⟩ : ByteArray), (⟨#[101, 97, 116]⟩ : ByteArray), (⟨#[115, 101, 97]⟩ : ByteArray), (⟨#[116, 97, 114]⟩ : ByteArray), (⟨#[114, 97, 116]⟩ : ByteArray), (⟨#[97, 114, 116]⟩ : ByteArray), (⟨#[97, 110, 116]⟩ : ByteArray), (⟨#[116, 97, 110]⟩ : ByteArray), (⟨#[110, 101, 116]⟩ : ByteArray), (⟨#[116, 101, 110]⟩ : ByteArray), (⟨#[114, 101, 115, 116]⟩ : ByteArray), (⟨#[116, 114, 101, 101]⟩ : ByteArray), (⟨#[115, 116, 97, 114]⟩ : ByteArray), (⟨#[114, 97, 116, 115]⟩ : ByteArray), (⟨#[97, 114, 116, 115]⟩ : ByteArray), (⟨#[101, 97, 115, 116]⟩ : ByteArray), (⟨#[115, 101, 97, 116]⟩ : ByteArray), (⟨#[116, 101, 97, 115]⟩ : ByteArray), (⟨#[110, 101, 116, 115]⟩ : ByteArray), (⟨#[116, 101, 110, 115]⟩ : ByteArray), (⟨#[115, 101, 110, 116]⟩ : ByteArray), (⟨#[116, 114, 97, 99, 101]⟩ : ByteArray), (⟨#[114, 101, 97, 99, 116]⟩ : ByteArray), (⟨#[99, 114, 97, 116, 101]⟩ : ByteArray), (⟨#[115, 116, 97, 114, 101]⟩ : ByteArray), (⟨#[116, 101, 97, 114, 115]⟩ : ByteArray)] : List ByteArray))
theorem gI.calls  (r : List ByteArray) (w : World) (h : gI.f  = some r) :
  Calls Try.prog 70 #[] w fun e w' => ∃ v0_ : Value, e = .returned (v0_) ∧ Kd.R Kd.string 9 w' w.heap.size (fun _ => True) v0_ r ∧ Below w.heap.size w w' := by
 have HB := aj.mk (Below.refl w.heap.size w)
 unfold gI.f at h
 have H := h
 clear h
 obtain ⟨y125, hy125⟩ : ∃ y_ : List ByteArray, y_ = (([(⟨#[99, 97, 116]⟩ : ByteArray), (⟨#[97, 99, 116]⟩ : ByteArray), (⟨#[116, 97, 99]⟩ : ByteArray), (⟨#[97, 114, 99]⟩ : ByteArray), (⟨#[99, 97, 114]⟩ : ByteArray), (⟨#[101, 114, 97]⟩ : ByteArray), (⟨#[97, 114, 101]⟩ : ByteArray), (⟨#[101, 97, 114]⟩ : ByteArray), (⟨#[97, 116, 101]⟩ : ByteArray), (⟨#[116, 101, 97]⟩ : ByteArray), (⟨#[101, 97, 116]⟩ : ByteArray), (⟨#[115, 101, 97]⟩ : ByteArray), (⟨#[116, 97, 114]⟩ : ByteArray), (⟨#[114, 97, 116]⟩ : ByteArray), (⟨#[97, 114, 116]⟩ : ByteArray), (⟨#[97, 110, 116]⟩ : ByteArray), (⟨#[116, 97, 110]⟩ : ByteArray), (⟨#[110, 101, 116]⟩ : ByteArray), (⟨#[116, 101, 110]⟩ : ByteArray), (⟨#[114, 101, 115, 116]⟩ : ByteArray), (⟨#[116, 114, 101, 101]⟩ : ByteArray), (⟨#[115, 116, 97, 114]⟩ : ByteArray), (⟨#[114, 97, 116, 115]⟩ : ByteArray), (⟨#[97, 114, 116, 115]⟩ : ByteArray), (⟨#[101, 97, 115, 116]⟩ : ByteArray), (⟨#[115, 101, 97, 116]⟩ : ByteArray), (⟨#[116, 101, 97, 115]⟩ : ByteArray), (⟨#[110, 101, 116, 115]⟩ : ByteArray), (⟨#[116, 101, 110, 115]⟩ : ByteArray), (⟨#[115, 101, 110, 116]⟩ : ByteArray), (⟨#[116, 114, 97, 99, 101]⟩ : ByteArray), (⟨#[114, 101, 97, 99, 116]⟩ : ByteArray), (⟨#[99, 114, 97, 116, 101]⟩ : ByteArray), (⟨#[115, 116, 97, 114, 101]⟩ : ByteArray), (⟨#[116, 101, 97, 114, 115]⟩ : ByteArray)] : List ByteArray)) := ⟨_, rfl⟩
 replace H : (some y125) = some r := by first | (rw [hy125]; with_reducible exact H) | (have H2_ := (Option.bind_some _ _).symm.trans H; rw [hy125]; with_reducible exact H2_) | (have H2_ := (Option.bind_some _ _).symm.trans H; with_reducible exact H2_) | with_reducible exact H | (rw [hy125]; exact H) | exact H
 have Ny125 := aj.mk hy125
 clear hy125
 obtain rfl := Option.some.inj H
 go_enter Try.func70, Try.ntmps70
 go_wp2_with (first | ((with_reducible refine dz (N := 1) rfl ?_); refine Kd.kS Kd.string _ 9 ?hg (N := 1) ?hd (xs := ([(⟨#[99, 97, 116]⟩ : ByteArray), (⟨#[97, 99, 116]⟩ : ByteArray), (⟨#[116, 97, 99]⟩ : ByteArray), (⟨#[97, 114, 99]⟩ : ByteArray), (⟨#[99, 97, 114]⟩ : ByteArray), (⟨#[101, 114, 97]⟩ : ByteArray), (⟨#[97, 114, 101]⟩ : ByteArray), (⟨#[101, 97, 114]⟩ : ByteArray), (⟨#[97, 116, 101]⟩ : ByteArray), (⟨#[116, 101, 97]⟩ : ByteArray), (⟨#[101, 97, 116]⟩ : ByteArray), (⟨#[115, 101, 97]⟩ : ByteArray), (⟨#[116, 97, 114]⟩ : ByteArray), (⟨#[114, 97, 116]⟩ : ByteArray), (⟨#[97, 114, 116]⟩ : ByteArray), (⟨#[97, 110, 116]⟩ : ByteArray), (⟨#[116, 97, 110]⟩ : ByteArray), (⟨#[110, 101, 116]⟩ : ByteArray), (⟨#[116, 101, 110]⟩ : ByteArray), (⟨#[114, 101, 115, 116]⟩ : ByteArray), (⟨#[116, 114, 101, 101]⟩ : ByteArray), (⟨#[115, 116, 97, 114]⟩ : ByteArray), (⟨#[114, 97, 116, 115]⟩ : ByteArray), (⟨#[97, 114, 116, 115]⟩ : ByteArray), (⟨#[101, 97, 115, 116]⟩ : ByteArray), (⟨#[115, 101, 97, 116]⟩ : ByteArray), (⟨#[116, 101, 97, 115]⟩ : ByteArray), (⟨#[110, 101, 116, 115]⟩ : ByteArray), (⟨#[116, 101, 110, 115]⟩ : ByteArray), (⟨#[115, 101, 110, 116]⟩ : ByteArray), (⟨#[116, 114, 97, 99, 101]⟩ : ByteArray), (⟨#[114, 101, 97, 99, 116]⟩ : ByteArray), (⟨#[99, 114, 97, 116, 101]⟩ : ByteArray), (⟨#[115, 116, 97, 114, 101]⟩ : ByteArray), (⟨#[116, 101, 97, 114, 115]⟩ : ByteArray)] : List ByteArray)) (inner := [.string (⟨#[99, 97, 116]⟩ : ByteArray), .string (⟨#[97, 99, 116]⟩ : ByteArray), .string (⟨#[116, 97, 99]⟩ : ByteArray), .string (⟨#[97, 114, 99]⟩ : ByteArray), .string (⟨#[99, 97, 114]⟩ : ByteArray), .string (⟨#[101, 114, 97]⟩ : ByteArray), .string (⟨#[97, 114, 101]⟩ : ByteArray), .string (⟨#[101, 97, 114]⟩ : ByteArray), .string (⟨#[97, 116, 101]⟩ : ByteArray), .string (⟨#[116, 101, 97]⟩ : ByteArray), .string (⟨#[101, 97, 116]⟩ : ByteArray), .string (⟨#[115, 101, 97]⟩ : ByteArray), .string (⟨#[116, 97, 114]⟩ : ByteArray), .string (⟨#[114, 97, 116]⟩ : ByteArray), .string (⟨#[97, 114, 116]⟩ : ByteArray), .string (⟨#[97, 110, 116]⟩ : ByteArray), .string (⟨#[116, 97, 110]⟩ : ByteArray), .string (⟨#[110, 101, 116]⟩ : ByteArray), .string (⟨#[116, 101, 110]⟩ : ByteArray), .string (⟨#[114, 101, 115, 116]⟩ : ByteArray), .string (⟨#[116, 114, 101, 101]⟩ : ByteArray), .string (⟨#[115, 116, 97, 114]⟩ : ByteArray), .string (⟨#[114, 97, 116, 115]⟩ : ByteArray), .string (⟨#[97, 114, 116, 115]⟩ : ByteArray), .string (⟨#[101, 97, 115, 116]⟩ : ByteArray), .string (⟨#[115, 101, 97, 116]⟩ : ByteArray), .string (⟨#[116, 101, 97, 115]⟩ : ByteArray), .string (⟨#[110, 101, 116, 115]⟩ : ByteArray), .string (⟨#[116, 101, 110, 115]⟩ : ByteArray), .string (⟨#[115, 101, 110, 116]⟩ : ByteArray), .string (⟨#[116, 114, 97, 99, 101]⟩ : ByteArray), .string (⟨#[114, 101, 97, 99, 116]⟩ : ByteArray), .string (⟨#[99, 114, 97, 116, 101]⟩ : ByteArray), .string (⟨#[115, 116, 97, 114, 101]⟩ : ByteArray), .string (⟨#[116, 101, 97, 114, 115]⟩ : ByteArray)]) (ok := fun _ => True) (okp := fun _ => True) ?hr ?hp (fun _ hk => hk) trivial (Below.refl _ _) (Nat.le_refl _) (by simp) ?_; (case hd => rfl); (case hg => rfl); (case hr => first | (go_simp; done) | (go_simp; rfl)); (case hp => exact (bD.one (show Kd.M Kd.string _ _ _ (⟨#[99, 97, 116]⟩ : ByteArray) [.string (⟨#[99, 97, 116]⟩ : ByteArray)] from rfl) (bD.one (show Kd.M Kd.string _ _ _ (⟨#[97, 99, 116]⟩ : ByteArray) [.string (⟨#[97, 99, 116]⟩ : ByteArray)] from rfl) (bD.one (show Kd.M Kd.string _ _ _ (⟨#[116, 97, 99]⟩ : ByteArray) [.string (⟨#[116, 97, 99]⟩ : ByteArray)] from rfl) (bD.one (show Kd.M Kd.string _ _ _ (⟨#[97, 114, 99]⟩ : ByteArray) [.string (⟨#[97, 114, 99]⟩ : ByteArray)] from rfl) (bD.one (show Kd.M Kd.string _ _ _ (⟨#[99, 97, 114]⟩ : ByteArray) [.string (⟨#[99, 97, 114]⟩ : ByteArray)] from rfl) (bD.one (show Kd.M Kd.string _ _ _ (⟨#[101, 114, 97]⟩ : ByteArray) [.string (⟨#[101, 114, 97]⟩ : ByteArray)] from rfl) (bD.one (show Kd.M Kd.string _ _ _ (⟨#[97, 114, 101]⟩ : ByteArray) [.string (⟨#[97, 114, 101]⟩ : ByteArray)] from rfl) (bD.one (show Kd.M Kd.string _ _ _ (⟨#[101, 97, 114]⟩ : ByteArray) [.string (⟨#[101, 97, 114]⟩ : ByteArray)] from rfl) (bD.one (show Kd.M Kd.string _ _ _ (⟨#[97, 116, 101]⟩ : ByteArray) [.string (⟨#[97, 116, 101]⟩ : ByteArray)] from rfl) (bD.one (show Kd.M Kd.string _ _ _ (⟨#[116, 101, 97]⟩ : ByteArray) [.string (⟨#[116, 101, 97]⟩ : ByteArray)] from rfl) (bD.one (show Kd.M Kd.string _ _ _ (⟨#[101, 97, 116]⟩ : ByteArray) [.string (⟨#[101, 97, 116]⟩ : ByteArray)] from rfl) (bD.one (show Kd.M Kd.string _ _ _ (⟨#[115, 101, 97]⟩ : ByteArray) [.string (⟨#[115, 101, 97]⟩ : ByteArray)] from rfl) (bD.one (show Kd.M Kd.string _ _ _ (⟨#[116, 97, 114]⟩ : ByteArray) [.string (⟨#[116, 97, 114]⟩ : ByteArray)] from rfl) (bD.one (show Kd.M Kd.string _ _ _ (⟨#[114, 97, 116]⟩ : ByteArray) [.string (⟨#[114, 97, 116]⟩ : ByteArray)] from rfl) (bD.one (show Kd.M Kd.string _ _ _ (⟨#[97, 114, 116]⟩ : ByteArray) [.string (⟨#[97, 114, 116]⟩ : ByteArray)] from rfl) (bD.one (show Kd.M Kd.string _ _ _ (⟨#[97, 110, 116]⟩ : ByteArray) [.string (⟨#[97, 110, 116]⟩ : ByteArray)] from rfl) (bD.one (show Kd.M Kd.string _ _ _ (⟨#[116, 97, 110]⟩ : ByteArray) [.string (⟨#[116, 97, 110]⟩ : ByteArray)] from rfl) (bD.one (show Kd.M Kd.string _ _ _ (⟨#[110, 101, 116]⟩ : ByteArray) [.string (⟨#[110, 101, 116]⟩ : ByteArray)] from rfl) (bD.one (show Kd.M Kd.string _ _ _ (⟨#[116, 101, 110]⟩ : ByteArray) [.string (⟨#[116, 101, 110]⟩ : ByteArray)] from rfl) (bD.one (show Kd.M Kd.string _ _ _ (⟨#[114, 101, 115, 116]⟩ : ByteArray) [.string (⟨#[114, 101, 115, 116]⟩ : ByteArray)] from rfl) (bD.one (show Kd.M Kd.string _ _ _ (⟨#[116, 114, 101, 101]⟩ : ByteArray) [.string (⟨#[116, 114, 101, 101]⟩ : ByteArray)] from rfl) (bD.one (show Kd.M Kd.string _ _ _ (⟨#[115, 116, 97, 114]⟩ : ByteArray) [.string (⟨#[115, 116, 97, 114]⟩ : ByteArray)] from rfl) (bD.one (show Kd.M Kd.string _ _ _ (⟨#[114, 97, 116, 115]⟩ : ByteArray) [.string (⟨#[114, 97, 116, 115]⟩ : ByteArray)] from rfl) (bD.one (show Kd.M Kd.string _ _ _ (⟨#[97, 114, 116, 115]⟩ : ByteArray) [.string (⟨#[97, 114, 116, 115]⟩ : ByteArray)] from rfl) (bD.one (show Kd.M Kd.string _ _ _ (⟨#[101, 97, 115, 116]⟩ : ByteArray) [.string (⟨#[101, 97, 115, 116]⟩ : ByteArray)] from rfl) (bD.one (show Kd.M Kd.string _ _ _ (⟨#[115, 101, 97, 116]⟩ : ByteArray) [.string (⟨#[115, 101, 97, 116]⟩ : ByteArray)] from rfl) (bD.one (show Kd.M Kd.string _ _ _ (⟨#[116, 101, 97, 115]⟩ : ByteArray) [.string (⟨#[116, 101, 97, 115]⟩ : ByteArray)] from rfl) (bD.one (show Kd.M Kd.string _ _ _ (⟨#[110, 101, 116, 115]⟩ : ByteArray) [.string (⟨#[110, 101, 116, 115]⟩ : ByteArray)] from rfl) (bD.one (show Kd.M Kd.string _ _ _ (⟨#[116, 101, 110, 115]⟩ : ByteArray) [.string (⟨#[116, 101, 110, 115]⟩ : ByteArray)] from rfl) (bD.one (show Kd.M Kd.string _ _ _ (⟨#[115, 101, 110, 116]⟩ : ByteArray) [.string (⟨#[115, 101, 110, 116]⟩ : ByteArray)] from rfl) (bD.one (show Kd.M Kd.string _ _ _ (⟨#[116, 114, 97, 99, 101]⟩ : ByteArray) [.string (⟨#[116, 114, 97, 99, 101]⟩ : ByteArray)] from rfl) (bD.one (show Kd.M Kd.string _ _ _ (⟨#[114, 101, 97, 99, 116]⟩ : ByteArray) [.string (⟨#[114, 101, 97, 99, 116]⟩ : ByteArray)] from rfl) (bD.one (show Kd.M Kd.string _ _ _ (⟨#[99, 114, 97, 116, 101]⟩ : ByteArray) [.string (⟨#[99, 114, 97, 116, 101]⟩ : ByteArray)] from rfl) (bD.one (show Kd.M Kd.string _ _ _ (⟨#[115, 116, 97, 114, 101]⟩ : ByteArray) [.string (⟨#[115, 116, 97, 114, 101]⟩ : ByteArray)] from rfl) (bD.one (show Kd.M Kd.string _ _ _ (⟨#[116, 101, 97, 114, 115]⟩ : ByteArray) [.string (⟨#[116, 101, 97, 114, 115]⟩ : ByteArray)] from rfl) (bD.none _ _))))))))))))))))))))))))))))))))))))); intro v126 w1 ho2 hb hg_ hnew_; clear hg_ hnew_; (first | rw [← Ny125.out] at ho2 | (simp only [Int.reduceToNat] at ho2; rw [← Ny125.out] at ho2)); have n0_ := aj.mk (Kd.dF ho2 (bS BL)); replace HB := BS (w := w) hb; have HO127 := n0_; clear n0_; clear hb ho2))
 go_ret
 exact ⟨_, EWW, (RR HO127), BL⟩
end Go.Proofs.Ythjcicmmbmagbaa.PFnNotations
