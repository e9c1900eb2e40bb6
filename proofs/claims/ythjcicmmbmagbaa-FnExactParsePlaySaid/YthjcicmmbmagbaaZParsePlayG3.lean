/- Walks of functions: what each computes. -/
import Derived.Test.YthjcicmmbmagbaaZParsePlayG0
import Derived.Test.YthjcicmmbmagbaaZParsePlayG2
import Derived.Test.YthjcicmmbmagbaaZParsePlayW
import Derived.Test.YthjcicmmbmagbaaZParsePlayShelf
import Derived.Test.YthjcicmmbmagbaaZParsePlayHandSort
import Derived.Test.YthjcicmmbmagbaaZParsePlayHandForm
import Derived.Test.YthjcicmmbmagbaaZParsePlayHandAlone
import Derived.Test.YthjcicmmbmagbaaZParsePlayHandRead
namespace Go.Proofs.Ythjcicmmbmagbaa.PFnExactParsePlay
open Go.RowKit Go.Proofs.YthjcicmmbmagbaaW.PrintWords Go.Proofs.YthjcicmmbmagbaaW.PrintLast Go.Proofs.YthjcicmmbmagbaaW.PrintMore Go.Proofs.Ythjcicmmbmagbaa.Sq
attribute [local go_sem] iA gZ jr jf gJ gG gX iF
set_option maxHeartbeats 8000000
set_option maxRecDepth 100000
set_option linter.unusedVariables false
set_option linter.unusedSimpArgs false
def bM.l0 : Nat → ByteArray → Int → Int → Option (Bool)
 | 0, _, _, _ => none
 | k + 1, a, b, c => if c < b then (if 0 ≤ c then (if c < (a.size : Int) then ((cO.f (bt a c)).bind fun d => (if d = true then (bM.l0 k a b (wrap64 (c + 1))) else (some false))) else (none)) else (none)) else (some true)
def bM.f (k : Nat) (a0 : ByteArray) : Option (Bool) := (cB.f (a0.size : Int) 1 8).bind fun t187 => (if t187 = true then (bM.l0 k a0 (a0.size : Int) 0) else (some false))
theorem bM.calls (k : Nat) (a0 : ByteArray) (r : Bool) (w : World) (h : bM.f k a0 = some r) :
  Calls Try.prog 64 #[.string a0] w fun e w' => e = .returned (.bool r) ∧ cu w w' := by
 unfold bM.f at h
 have H := h
 clear h
 replace H := be H; obtain ⟨t187, A2, H⟩ := H
 replace H := aj.mk H
 go_enter Try.func64, Try.ntmps64
 go_wp2_with (first | ((with_reducible refine aV (f := 65) rfl ?_); refine dF (some 6) Try.func65 #[.int .i64 (a0.size : Int), .int .i64 1, .int .i64 8] ?_; (with_reducible refine (cB.calls (a0.size : Int) 1 8 _ _ A2.out).mono ?_); rintro e w' ⟨rfl, ⟨nd, rfl⟩⟩; refine ⟨_, rfl, ?_⟩; refine dS ?_))
 refine Hide.mk ?_
 replace H := H.out
 replace H := ifB H; rcases H with ⟨rfl, H⟩ | ⟨rfl, H⟩
 ·have H' := aj.mk H
  clear H
  try go_wp2
  go_loopg [10] k (fun kq v10 w' => ∃ (x10_1 : Int), v10 = .int .i64 x10_1 ∧ aj (bM.l0 kq a0 (a0.size : Int) x10_1 = some r) ∧ aj (kq ≤ k) ∧ cu w w')
  case atStart => exact ⟨(0), EQ, H', ⟨Nat.le_refl _⟩, DR⟩
  case round =>
   clear H'
   try clear c3
   obtain ⟨x10_1, rfl, HA, HK1, ⟨m1, rfl⟩⟩ := hrel
   cases gk with
   | zero => exact absurd HA.out (by simp [bM.l0])
   | succ k1 =>
    have H := HA.out
    clear HA
    simp only [bM.l0] at H
    replace H := ifD H; rcases H with ⟨c4b0, H⟩ | ⟨c4b0, H⟩
    ·replace H := ifN H; obtain ⟨c5b0, H⟩ := H
     replace H := ifN H; obtain ⟨c6b0, H⟩ := H
     replace H := be H; obtain ⟨t188, A8, H⟩ := H
     have p7 : (0 ≤ (x10_1 : Int)) = True := OT
     have q7 : (x10_1 < (a0.size : Int)) = True := OT
     have hx7 := eF a0 x10_1
     replace H := aj.mk H
     go_wp2_with (first | ((with_reducible refine aV (f := 122) rfl ?_); refine dF (some 16) Try.func122 #[.int .u8 (bt a0 x10_1)] ?_; (with_reducible refine (cO.calls (bt a0 x10_1) _ _ A8.out).mono ?_); rintro e w' ⟨rfl, ⟨nd, rfl⟩⟩; refine ⟨_, rfl, ?_⟩; refine dS ?_))
     refine Hide.mk ?_
     replace H := H.out
     replace H := ifB H; rcases H with ⟨rfl, H⟩ | ⟨rfl, H⟩
     ·have H' := aj.mk H
      clear H
      try go_wp2
      go_roundg k1
      case measure => have := HK1.out; omega
      case rel => exact ⟨(wrap64 (x10_1 + 1)), EQ, H', ⟨by have := HK1.out; omega⟩, DR⟩
     ·obtain rfl := Option.some.inj H
      try go_wp2
      go_ret
      exact ⟨EQ, DR⟩
    ·obtain rfl := Option.some.inj H
     go_wp2
     go_ret
     exact ⟨EQ, DR⟩
 ·obtain rfl := Option.some.inj H
  try go_wp2
  go_ret
  exact ⟨EQ, DR⟩
def bO.f (a0 : Int) : Option (Bool) := if a0 = 4 then (some true) else (some (a0 == 5))
theorem bO.calls (a0 : Int) (r : Bool) (w : World) (h : bO.f a0 = some r) :
  Calls Try.prog 107 #[.int .i64 a0] w fun e w' => e = .returned (.bool r) ∧ cu w w' := by
 unfold bO.f at h
 have H := h
 clear h
 replace H := aj.mk H
 go_enter Try.func107, Try.ntmps107
 replace H := H.out
 replace H := ifE H; rcases H with ⟨c2b0, c2b1, H⟩ | ⟨c2, c2b0, c2b1, H⟩
 ·obtain rfl := Option.some.inj H
  try go_wp2
  go_ret
  exact ⟨EQ, DR⟩
 ·obtain rfl := Option.some.inj H
  try go_wp2
  go_ret
  exact ⟨EQ, DR⟩
def fM.f (a0 a1 : Int) : Option (Bool) := if a0 ≥ 0 then (some (decide (a0 < a1))) else (some false)
theorem fM.calls (a0 a1 : Int) (r : Bool) (w : World) (h : fM.f a0 a1 = some r) :
  Calls Try.prog 109 #[.int .i64 a0, .int .i64 a1] w fun e w' => e = .returned (.bool r) ∧ cu w w' := by
 unfold fM.f at h
 have H := h
 clear h
 replace H := aj.mk H
 go_enter Try.func109, Try.ntmps109
 replace H := H.out
 by_cases c3 : a0 ≥ 0
 ·rw [if_pos c3] at H
  have c3b0 : decide (0 ≤ a0) = true := decide_eq_true c3
  clear c3
  obtain rfl := Option.some.inj H
  try go_wp2
  go_ret
  exact ⟨EQ, DR⟩
 ·rw [if_neg c3] at H
  have c3b0 : decide (0 ≤ a0) = false := decide_eq_false c3
  clear c3
  obtain rfl := Option.some.inj H
  try go_wp2
  go_ret
  exact ⟨EQ, DR⟩
def dA.f (a0 : Int) : Option (Bool) := if a0 = 3 then (some true) else (some (decide (a0 ≥ 6)))
theorem dA.calls (a0 : Int) (r : Bool) (w : World) (h : dA.f a0 = some r) :
  Calls Try.prog 110 #[.int .i64 a0] w fun e w' => e = .returned (.bool r) ∧ cu w w' := by
 unfold dA.f at h
 have H := h
 clear h
 replace H := aj.mk H
 go_enter Try.func110, Try.ntmps110
 replace H := H.out
 replace H := ifE H; rcases H with ⟨c2b0, c2b1, H⟩ | ⟨c2, c2b0, c2b1, H⟩
 ·obtain rfl := Option.some.inj H
  try go_wp2
  go_ret
  exact ⟨EQ, DR⟩
 ·obtain rfl := Option.some.inj H
  try go_wp2
  go_ret
  exact ⟨EQ, DR⟩
mutual
def aN.l0 : Nat → List (aA) → List (aA) → Int → Int → Option (Bool)
 | 0, _, _, _, _ => none
 | k + 1, a, b, c, d => if d < c then (if 0 ≤ d then (if d < (b.length : Int) then ((cB.f ((ah b d).f0) 1 9).bind fun e => (if e = true then (if ((ah b d).f0) = 1 then ((bM.f k ((ah b d).f1)).bind fun f => (if f = true then (if ((ah b d).f2) = 0 then (if ((ah b d).f3) = 0 then (aN.l0 k a b c (wrap64 (d + 1))) else (some false)) else (some false)) else (some false))) else (if ((ah b d).f1).toList = ([] : List UInt8) then ((fM.f ((ah b d).f2) d).bind fun g => (if g = true then ((dA.f ((ah b d).f0)).bind fun h => (if h = true then (if 0 ≤ ((ah b d).f2) then (if ((ah b d).f2) < (a.length : Int) then (aN.j1 k a d b c d (((ah a ((ah b d).f2)).f0) != 1) ((ah b d).f0) ((ah b d).f1) ((ah b d).f2) ((ah b d).f3)) else (none)) else (none)) else (aN.j1 k a d b c d false ((ah b d).f0) ((ah b d).f1) ((ah b d).f2) ((ah b d).f3)))) else (aN.j1 k a d b c d true ((ah b d).f0) ((ah b d).f1) ((ah b d).f2) ((ah b d).f3)))) else (aN.j1 k a d b c d true ((ah b d).f0) ((ah b d).f1) ((ah b d).f2) ((ah b d).f3)))) else (some false))) else (none)) else (none)) else (some true)
def aN.j1 : Nat → List (aA) → Int → List (aA) → Int → Int → Bool → Int → ByteArray → Int → Int → Option (Bool)
 | 0, _, _, _, _, _, _, _, _, _, _ => none
 | k + 1, a, b, c, d, e, f, g, h, i, j => if f = true then (some false) else ((bO.f g).bind fun l => (if l = true then ((fM.f j b).bind fun m => (if m = true then ((bO.f g).bind fun n => (if n = true then (aN.l0 k a c d (wrap64 (e + 1))) else (if j = 0 then (aN.l0 k a c d (wrap64 (e + 1))) else (some false)))) else (some false))) else ((bO.f g).bind fun o => (if o = true then (aN.l0 k a c d (wrap64 (e + 1))) else (if j = 0 then (aN.l0 k a c d (wrap64 (e + 1))) else (some false))))))
end
def aN.f (k : Nat) (l0 : List (aA)) : Option (Bool) := (cB.f (l0.length : Int) 1 9).bind fun t189 => (if t189 = true then (aN.l0 k l0 l0 (l0.length : Int) 0) else (some false))
theorem aN.calls (k : Nat) (A0 : Option Addr) (c0 : Nat) (l0 : List (aA)) (r : Bool) (w : World) (hr0 : Kd.C bQ w A0 l0.length l0) (hc0 : l0.length ≤ c0) (h : aN.f k l0 = some r) :
  Calls Try.prog 50 #[.slice A0 l0.length c0] w fun e w' => e = .returned (.bool r) ∧ Below w.heap.size w w' := by
 have hu110 := Try.underlying110
 have HR0 := aj.mk hr0
 have HC0 := aj.mk hc0
 clear hr0 hc0
 have HB := aj.mk (Below.refl w.heap.size w)
 unfold aN.f at h
 have H := h
 clear h
 replace H := be H; obtain ⟨t189, A2, H⟩ := H
 replace H := aj.mk H
 go_enter Try.func50, Try.ntmps50
 go_wp2_with (first | ((with_reducible refine aV (f := 65) rfl ?_); refine dF (some 7) Try.func65 #[.int .i64 (l0.length : Int), .int .i64 1, .int .i64 9] ?_; (with_reducible refine (cB.calls (l0.length : Int) 1 9 _ _ A2.out).mono ?_); rintro e w' ⟨rfl, ⟨nd, rfl⟩⟩; refine ⟨_, rfl, ?_⟩; refine dS ?_))
 refine Hide.mk ?_
 replace H := H.out
 replace H := ifB H; rcases H with ⟨rfl, H⟩ | ⟨rfl, H⟩
 ·have H' := aj.mk H
  clear H
  try go_wp2
  go_loopg [11] k (fun kq v11 w' => ∃ (x11_1 : Int), v11 = .int .i64 x11_1 ∧ aj (aN.l0 kq l0 l0 (l0.length : Int) x11_1 = some r) ∧ aj (kq ≤ k) ∧ aj (Below w.heap.size w w'))
  case atStart => exact ⟨(0), EQ, H', ⟨Nat.le_refl _⟩, ⟨BL⟩⟩
  case round =>
   clear H'
   try clear c3
   obtain ⟨x11_1, rfl, HA, HK1, HB⟩ := hrel
   cases gk with
   | zero => exact absurd HA.out (by simp [aN.l0])
   | succ k1 =>
    have H := HA.out
    clear HA
    simp only [aN.l0] at H
    replace H := ifD H; rcases H with ⟨c4b0, H⟩ | ⟨c4b0, H⟩
    ·replace H := ifN H; obtain ⟨c5b0, H⟩ := H
     replace H := ifN H; obtain ⟨c6b0, H⟩ := H
     replace H := be H; obtain ⟨t192, A7, H⟩ := H
     have p190 : 0 ≤ (x11_1 : Int) := OD
     have q190 : x11_1 < (l0.length : Int) := OD
     obtain ⟨ad190, e190, hx190_0, hx190_1, hx190_2, hx190_3⟩ := dD HR0.out x11_1 p190 q190
     cases e190
     try replace hx190_0 := (HB.out.cell (World.block_lt_of_cell? w _ hx190_0)).trans hx190_0
     try replace hx190_1 := (HB.out.cell (World.block_lt_of_cell? w _ hx190_1)).trans hx190_1
     try replace hx190_2 := (HB.out.cell (World.block_lt_of_cell? w _ hx190_2)).trans hx190_2
     try replace hx190_3 := (HB.out.cell (World.block_lt_of_cell? w _ hx190_3)).trans hx190_3
     replace p190 := eq_true p190
     replace q190 := eq_true q190
     replace H := aj.mk H
     go_wp2_with (first | ((with_reducible refine bR (N := 4) rfl ?_); refine fC (N := 4) (cs := #[.int .i64 0, .string (⟨#[]⟩ : ByteArray), .int .i64 0, .int .i64 0]) (t := 110) ?_; intro gb191 hg w9000 hbox hb; have BK191 := aj.mk hbox; have GW191 := SZ (w := w) hg; have GE191 := GW191; replace HB := BS (w := w) hb; clear hb hbox hg; obtain ⟨hcz9001_0, hcz9001_1, hcz9001_2, hcz9001_3, hfz9001_0, hfz9001_1, hfz9001_2, hfz9001_3⟩ := cz4 BK191.out) | ((with_reducible refine aV (f := 65) rfl ?_); refine dF (some 18) Try.func65 #[.int .i64 ((ah l0 x11_1).f0), .int .i64 1, .int .i64 9] ?_; (with_reducible refine (cB.calls ((ah l0 x11_1).f0) 1 9 _ _ A7.out).mono ?_); rintro e w' ⟨rfl, ⟨nd, rfl⟩⟩; refine ⟨_, rfl, ?_⟩; refine dS ?_))
     refine Hide.mk ?_
     replace H := H.out
     replace H := ifB H; rcases H with ⟨rfl, H⟩ | ⟨rfl, H⟩
     ·replace H := ifE H; rcases H with ⟨c9b0, c9b1, H⟩ | ⟨c9, c9b0, c9b1, H⟩
      ·replace H := be H; obtain ⟨t193, A10, H⟩ := H
       replace H := aj.mk H
       go_wp2_with (first | ((with_reducible refine aV (f := 64) rfl ?_); refine dF (some 25) Try.func64 #[.string ((ah l0 x11_1).f1)] ?_; (with_reducible refine (bM.calls k1 ((ah l0 x11_1).f1) _ _ A10.out).mono ?_); rintro e w' ⟨rfl, ⟨nd, rfl⟩⟩; refine ⟨_, rfl, ?_⟩; refine dS ?_))
       refine Hide.mk ?_
       replace H := H.out
       replace H := ifB H; rcases H with ⟨rfl, H⟩ | ⟨rfl, H⟩
       ·replace H := ifE H; rcases H with ⟨c12b0, c12b1, H⟩ | ⟨c12, c12b0, c12b1, H⟩
        ·replace H := ifE H; rcases H with ⟨c13b0, c13b1, H⟩ | ⟨c13, c13b0, c13b1, H⟩
         ·have H' := aj.mk H
          clear H
          try go_wp2
          go_roundg k1
          case measure => have := HK1.out; omega
          case rel => exact ⟨(wrap64 (x11_1 + 1)), EQ, H', ⟨by have := HK1.out; omega⟩, ⟨BL⟩⟩
         ·obtain rfl := Option.some.inj H
          try go_wp2
          go_ret
          exact ⟨EWW, BL⟩
        ·obtain rfl := Option.some.inj H
         try go_wp2
         go_ret
         exact ⟨EWW, BL⟩
       ·obtain rfl := Option.some.inj H
        try go_wp2
        go_ret
        exact ⟨EWW, BL⟩
      ·have HC22 := aj.mk H
       clear H
       go_upto_region 11 with (fail)
       (try simp only [Act.put, List.setIfInBounds_toArray, List.set_cons_zero, List.set_cons_succ])
       go_cut [60] (fun v60 wc => ∃ (kq : Nat) (x60_21 : Bool), v60 = .bool x60_21 ∧ aj (aN.j1 kq l0 x11_1 l0 (l0.length : Int) x11_1 x60_21 ((ah l0 x11_1).f0) ((ah l0 x11_1).f1) ((ah l0 x11_1).f2) ((ah l0 x11_1).f3) = some r) ∧ aj (kq ≤ k1) ∧ aj (wc.heap[gb191]? = some (.cells #[.int .i64 ((ah l0 x11_1).f0), .string ((ah l0 x11_1).f1), .int .i64 ((ah l0 x11_1).f2), .int .i64 ((ah l0 x11_1).f3)] 110 (0, 0))) ∧ aj (Below w.heap.size w wc))
       case first =>
        have H := HC22.out
        clear HC22
        obtain ⟨hcz9002_0, hcz9002_1, hcz9002_2, hcz9002_3, hfz9002_0, hfz9002_1, hfz9002_2, hfz9002_3⟩ := cz4 BK191.out
        replace H := ifE H; rcases H with ⟨c25b0, c25b1, H⟩ | ⟨c25, c25b0, c25b1, H⟩
        ·(first | rw [c25b0] | (simp only [bL, bN]; rw [c25b0]) | skip)
         replace H := be H; obtain ⟨t194, A26, H⟩ := H
         replace H := aj.mk H
         go_wp2_with (first | (go_at_call 109; (with_reducible refine (fM.calls ((ah l0 x11_1).f2) x11_1 _ _ A26.out).mono ?_); rintro e w' ⟨rfl, ⟨nd, rfl⟩⟩; refine dS ?_))
         refine Hide.mk ?_
         replace H := H.out
         replace H := ifB H; rcases H with ⟨rfl, H⟩ | ⟨rfl, H⟩
         ·replace H := be H; obtain ⟨t195, A28, H⟩ := H
          replace H := aj.mk H
          go_wp2_with (first | (go_at_call 110; (with_reducible refine (dA.calls ((ah l0 x11_1).f0) _ _ A28.out).mono ?_); rintro e w' ⟨rfl, ⟨nd, rfl⟩⟩; refine dS ?_))
          refine Hide.mk ?_
          replace H := H.out
          replace H := ifB H; rcases H with ⟨rfl, H⟩ | ⟨rfl, H⟩
          ·replace H := ifN H; obtain ⟨c30b0, H⟩ := H
           replace H := ifN H; obtain ⟨c31b0, H⟩ := H
           have H' := aj.mk H
           clear H
           have p196 : 0 ≤ (((ah l0 x11_1).f2) : Int) := OD
           have q196 : ((ah l0 x11_1).f2) < (l0.length : Int) := OD
           obtain ⟨ad196, e196, hx196_0, hx196_1, hx196_2, hx196_3⟩ := dD HR0.out ((ah l0 x11_1).f2) p196 q196
           obtain rfl : ad190 = ad196 := (by injection e196)
           have hn196_0 : ad190.block ≠ gb191 := Nat.ne_of_lt (Nat.lt_of_lt_of_le (by have := World.block_lt_of_cell? _ _ hx196_0; first | rwa [add_block] at this | exact this) GW191.out)
           have hn196_1 : ad190.block ≠ gb191 := Nat.ne_of_lt (Nat.lt_of_lt_of_le (by have := World.block_lt_of_cell? _ _ hx196_0; first | rwa [add_block] at this | exact this) GW191.out)
           have hn196_2 : ad190.block ≠ gb191 := Nat.ne_of_lt (Nat.lt_of_lt_of_le (by have := World.block_lt_of_cell? _ _ hx196_0; first | rwa [add_block] at this | exact this) GW191.out)
           have hn196_3 : ad190.block ≠ gb191 := Nat.ne_of_lt (Nat.lt_of_lt_of_le (by have := World.block_lt_of_cell? _ _ hx196_0; first | rwa [add_block] at this | exact this) GW191.out)
           replace hx196_0 := (HB.out.cell (World.block_lt_of_cell? w _ hx196_0)).trans hx196_0
           replace hx196_1 := (HB.out.cell (World.block_lt_of_cell? w _ hx196_1)).trans hx196_1
           replace hx196_2 := (HB.out.cell (World.block_lt_of_cell? w _ hx196_2)).trans hx196_2
           replace hx196_3 := (HB.out.cell (World.block_lt_of_cell? w _ hx196_3)).trans hx196_3
           replace hx196_0 := (cell_far (p := ⟨gb191, 0, none⟩) AB (.int .i64 ((ah l0 x11_1).f0))).trans hx196_0
           replace hx196_1 := (cell_far (p := ⟨gb191, 0, none⟩) AB (.int .i64 ((ah l0 x11_1).f0))).trans hx196_1
           replace hx196_2 := (cell_far (p := ⟨gb191, 0, none⟩) AB (.int .i64 ((ah l0 x11_1).f0))).trans hx196_2
           replace hx196_3 := (cell_far (p := ⟨gb191, 0, none⟩) AB (.int .i64 ((ah l0 x11_1).f0))).trans hx196_3
           replace hx196_0 := (cell_far (p := ⟨gb191, 1, none⟩) AB (.string ((ah l0 x11_1).f1))).trans hx196_0
           replace hx196_1 := (cell_far (p := ⟨gb191, 1, none⟩) AB (.string ((ah l0 x11_1).f1))).trans hx196_1
           replace hx196_2 := (cell_far (p := ⟨gb191, 1, none⟩) AB (.string ((ah l0 x11_1).f1))).trans hx196_2
           replace hx196_3 := (cell_far (p := ⟨gb191, 1, none⟩) AB (.string ((ah l0 x11_1).f1))).trans hx196_3
           replace hx196_0 := (cell_far (p := ⟨gb191, 2, none⟩) AB (.int .i64 ((ah l0 x11_1).f2))).trans hx196_0
           replace hx196_1 := (cell_far (p := ⟨gb191, 2, none⟩) AB (.int .i64 ((ah l0 x11_1).f2))).trans hx196_1
           replace hx196_2 := (cell_far (p := ⟨gb191, 2, none⟩) AB (.int .i64 ((ah l0 x11_1).f2))).trans hx196_2
           replace hx196_3 := (cell_far (p := ⟨gb191, 2, none⟩) AB (.int .i64 ((ah l0 x11_1).f2))).trans hx196_3
           replace hx196_0 := (cell_far (p := ⟨gb191, 3, none⟩) AB (.int .i64 ((ah l0 x11_1).f3))).trans hx196_0
           replace hx196_1 := (cell_far (p := ⟨gb191, 3, none⟩) AB (.int .i64 ((ah l0 x11_1).f3))).trans hx196_1
           replace hx196_2 := (cell_far (p := ⟨gb191, 3, none⟩) AB (.int .i64 ((ah l0 x11_1).f3))).trans hx196_2
           replace hx196_3 := (cell_far (p := ⟨gb191, 3, none⟩) AB (.int .i64 ((ah l0 x11_1).f3))).trans hx196_3
           clear hn196_0 hn196_1 hn196_2 hn196_3
           replace p196 := eq_true p196
           replace q196 := eq_true q196
           go_wp2
           go_meet
           case rel => exact ⟨_, ((((ah l0 ((ah l0 x11_1).f2)).f0) != 1)), EQ, H', ⟨by have := HK1.out; first | omega | exact Nat.le_refl _⟩, ⟨by (with_reducible repeat (first | refine av ?_ _ | refine ay ?_ | refine au ?_ _)); refine aM (cs := #[.int .i64 ((ah l0 x11_1).f0), .string ((ah l0 x11_1).f1), .int .i64 ((ah l0 x11_1).f2), .int .i64 0]) ?_ 3 _ rfl; (with_reducible repeat (first | refine av ?_ _ | refine ay ?_ | refine au ?_ _)); refine aM (cs := #[.int .i64 ((ah l0 x11_1).f0), .string ((ah l0 x11_1).f1), .int .i64 0, .int .i64 0]) ?_ 2 _ rfl; (with_reducible repeat (first | refine av ?_ _ | refine ay ?_ | refine au ?_ _)); refine aM (cs := #[.int .i64 ((ah l0 x11_1).f0), .string (⟨#[]⟩ : ByteArray), .int .i64 0, .int .i64 0]) ?_ 1 _ rfl; (with_reducible repeat (first | refine av ?_ _ | refine ay ?_ | refine au ?_ _)); refine aM (cs := #[.int .i64 0, .string (⟨#[]⟩ : ByteArray), .int .i64 0, .int .i64 0]) ?_ 0 _ rfl; (with_reducible repeat (first | refine av ?_ _ | refine ay ?_ | refine au ?_ _)); exact BK191.out⟩, ⟨BL⟩⟩
          ·have H' := aj.mk H
           clear H
           try go_wp2
           go_meet
           case rel => exact ⟨_, (false), EQ, H', ⟨by have := HK1.out; first | omega | exact Nat.le_refl _⟩, ⟨by (with_reducible repeat (first | refine av ?_ _ | refine ay ?_ | refine au ?_ _)); refine aM (cs := #[.int .i64 ((ah l0 x11_1).f0), .string ((ah l0 x11_1).f1), .int .i64 ((ah l0 x11_1).f2), .int .i64 0]) ?_ 3 _ rfl; (with_reducible repeat (first | refine av ?_ _ | refine ay ?_ | refine au ?_ _)); refine aM (cs := #[.int .i64 ((ah l0 x11_1).f0), .string ((ah l0 x11_1).f1), .int .i64 0, .int .i64 0]) ?_ 2 _ rfl; (with_reducible repeat (first | refine av ?_ _ | refine ay ?_ | refine au ?_ _)); refine aM (cs := #[.int .i64 ((ah l0 x11_1).f0), .string (⟨#[]⟩ : ByteArray), .int .i64 0, .int .i64 0]) ?_ 1 _ rfl; (with_reducible repeat (first | refine av ?_ _ | refine ay ?_ | refine au ?_ _)); refine aM (cs := #[.int .i64 0, .string (⟨#[]⟩ : ByteArray), .int .i64 0, .int .i64 0]) ?_ 0 _ rfl; (with_reducible repeat (first | refine av ?_ _ | refine ay ?_ | refine au ?_ _)); exact BK191.out⟩, ⟨BL⟩⟩
         ·have H' := aj.mk H
          clear H
          try go_wp2
          go_meet
          case rel => exact ⟨_, (true), EQ, H', ⟨by have := HK1.out; first | omega | exact Nat.le_refl _⟩, ⟨by (with_reducible repeat (first | refine av ?_ _ | refine ay ?_ | refine au ?_ _)); refine aM (cs := #[.int .i64 ((ah l0 x11_1).f0), .string ((ah l0 x11_1).f1), .int .i64 ((ah l0 x11_1).f2), .int .i64 0]) ?_ 3 _ rfl; (with_reducible repeat (first | refine av ?_ _ | refine ay ?_ | refine au ?_ _)); refine aM (cs := #[.int .i64 ((ah l0 x11_1).f0), .string ((ah l0 x11_1).f1), .int .i64 0, .int .i64 0]) ?_ 2 _ rfl; (with_reducible repeat (first | refine av ?_ _ | refine ay ?_ | refine au ?_ _)); refine aM (cs := #[.int .i64 ((ah l0 x11_1).f0), .string (⟨#[]⟩ : ByteArray), .int .i64 0, .int .i64 0]) ?_ 1 _ rfl; (with_reducible repeat (first | refine av ?_ _ | refine ay ?_ | refine au ?_ _)); refine aM (cs := #[.int .i64 0, .string (⟨#[]⟩ : ByteArray), .int .i64 0, .int .i64 0]) ?_ 0 _ rfl; (with_reducible repeat (first | refine av ?_ _ | refine ay ?_ | refine au ?_ _)); exact BK191.out⟩, ⟨BL⟩⟩
        ·(first | rw [c25b0] | (simp only [bL, bN]; rw [c25b0]) | skip)
         have H' := aj.mk H
         clear H
         go_wp2
         go_meet
         case rel => exact ⟨_, (true), EQ, H', ⟨by have := HK1.out; first | omega | exact Nat.le_refl _⟩, ⟨by (with_reducible repeat (first | refine av ?_ _ | refine ay ?_ | refine au ?_ _)); refine aM (cs := #[.int .i64 ((ah l0 x11_1).f0), .string ((ah l0 x11_1).f1), .int .i64 ((ah l0 x11_1).f2), .int .i64 0]) ?_ 3 _ rfl; (with_reducible repeat (first | refine av ?_ _ | refine ay ?_ | refine au ?_ _)); refine aM (cs := #[.int .i64 ((ah l0 x11_1).f0), .string ((ah l0 x11_1).f1), .int .i64 0, .int .i64 0]) ?_ 2 _ rfl; (with_reducible repeat (first | refine av ?_ _ | refine ay ?_ | refine au ?_ _)); refine aM (cs := #[.int .i64 ((ah l0 x11_1).f0), .string (⟨#[]⟩ : ByteArray), .int .i64 0, .int .i64 0]) ?_ 1 _ rfl; (with_reducible repeat (first | refine av ?_ _ | refine ay ?_ | refine au ?_ _)); refine aM (cs := #[.int .i64 0, .string (⟨#[]⟩ : ByteArray), .int .i64 0, .int .i64 0]) ?_ 0 _ rfl; (with_reducible repeat (first | refine av ?_ _ | refine ay ?_ | refine au ?_ _)); exact BK191.out⟩, ⟨BL⟩⟩
       case rest =>
        clear HC22
        try clear c3
        try clear c4
        try clear c4b0
        try clear c5
        try clear c5b0
        try clear c6
        try clear c6b0
        try clear c8
        try clear c9
        try clear c9b0
        try clear c9b1
        try clear hcz9001_0
        try clear hcz9001_1
        try clear hcz9001_2
        try clear hcz9001_3
        try clear hfz9001_0
        try clear hfz9001_1
        try clear hfz9001_2
        try clear hfz9001_3
        try clear hx190_0
        try clear hx190_1
        try clear hx190_2
        try clear hx190_3
        try clear p190
        try clear q190
        obtain ⟨kq, x60_21, rfl, HA, HJ21, BK191, HB⟩ := hcut
        cases kq with
        | zero => exact absurd HA.out (by simp [aN.j1])
        | succ kj21 =>
         have H := HA.out
         clear HA
         simp only [aN.j1] at H
         replace H := ifB H; rcases H with ⟨rfl, H⟩ | ⟨rfl, H⟩
         ·obtain rfl := Option.some.inj H
          go_wp2
          go_ret
          exact ⟨EWW, BL⟩
         ·replace H := be H; obtain ⟨t197, A37, H⟩ := H
          obtain ⟨hcz9003_0, hcz9003_1, hcz9003_2, hcz9003_3, hfz9003_0, hfz9003_1, hfz9003_2, hfz9003_3⟩ := cz4 BK191.out
          replace H := aj.mk H
          go_wp2_with (first | ((with_reducible refine aV (f := 107) rfl ?_); refine dF (some 63) Try.func107 #[.int .i64 ((ah l0 x11_1).f0)] ?_; (with_reducible refine (bO.calls ((ah l0 x11_1).f0) _ _ A37.out).mono ?_); rintro e w' ⟨rfl, ⟨nd, rfl⟩⟩; refine ⟨_, rfl, ?_⟩; refine dS ?_))
          refine Hide.mk ?_
          replace H := H.out
          replace H := ifB H; rcases H with ⟨rfl, H⟩ | ⟨rfl, H⟩
          ·replace H := be H; obtain ⟨t198, A39, H⟩ := H
           replace H := aj.mk H
           go_wp2_with (first | (go_at_call 109; (with_reducible refine (fM.calls ((ah l0 x11_1).f3) x11_1 _ _ A39.out).mono ?_); rintro e w' ⟨rfl, ⟨nd, rfl⟩⟩; refine dS ?_))
           refine Hide.mk ?_
           replace H := H.out
           replace H := ifB H; rcases H with ⟨rfl, H⟩ | ⟨rfl, H⟩
           ·replace H := be H; obtain ⟨t199, A41, H⟩ := H
            replace H := aj.mk H
            go_wp2_with (first | (go_at_call 107; (with_reducible refine (bO.calls ((ah l0 x11_1).f0) _ _ A41.out).mono ?_); rintro e w' ⟨rfl, ⟨nd, rfl⟩⟩; refine dS ?_))
            refine Hide.mk ?_
            replace H := H.out
            replace H := ifB H; rcases H with ⟨rfl, H⟩ | ⟨rfl, H⟩
            ·have H' := aj.mk H
             clear H
             try go_wp2
             go_roundg kj21
             case measure => have := HK1.out; have := HJ21.out; omega
             case rel => exact ⟨(wrap64 (x11_1 + 1)), EQ, H', ⟨by have := HK1.out; have := HJ21.out; omega⟩, ⟨BL⟩⟩
            ·replace H := ifE H; rcases H with ⟨c44b0, c44b1, H⟩ | ⟨c44, c44b0, c44b1, H⟩
             ·have H' := aj.mk H
              clear H
              try go_wp2
              go_roundg kj21
              case measure => have := HK1.out; have := HJ21.out; omega
              case rel => exact ⟨(wrap64 (x11_1 + 1)), EQ, H', ⟨by have := HK1.out; have := HJ21.out; omega⟩, ⟨BL⟩⟩
             ·obtain rfl := Option.some.inj H
              try go_wp2
              go_ret
              exact ⟨EWW, BL⟩
           ·obtain rfl := Option.some.inj H
            try go_wp2
            go_ret
            exact ⟨EWW, BL⟩
          ·replace H := be H; obtain ⟨t200, A48, H⟩ := H
           replace H := aj.mk H
           go_wp2_with (first | (go_at_call 107; (with_reducible refine (bO.calls ((ah l0 x11_1).f0) _ _ A48.out).mono ?_); rintro e w' ⟨rfl, ⟨nd, rfl⟩⟩; refine dS ?_))
           refine Hide.mk ?_
           replace H := H.out
           replace H := ifB H; rcases H with ⟨rfl, H⟩ | ⟨rfl, H⟩
           ·have H' := aj.mk H
            clear H
            try go_wp2
            go_roundg kj21
            case measure => have := HK1.out; have := HJ21.out; omega
            case rel => exact ⟨(wrap64 (x11_1 + 1)), EQ, H', ⟨by have := HK1.out; have := HJ21.out; omega⟩, ⟨BL⟩⟩
           ·replace H := ifE H; rcases H with ⟨c51b0, c51b1, H⟩ | ⟨c51, c51b0, c51b1, H⟩
            ·have H' := aj.mk H
             clear H
             try go_wp2
             go_roundg kj21
             case measure => have := HK1.out; have := HJ21.out; omega
             case rel => exact ⟨(wrap64 (x11_1 + 1)), EQ, H', ⟨by have := HK1.out; have := HJ21.out; omega⟩, ⟨BL⟩⟩
            ·obtain rfl := Option.some.inj H
             try go_wp2
             go_ret
             exact ⟨EWW, BL⟩
     ·obtain rfl := Option.some.inj H
      try go_wp2
      go_ret
      exact ⟨EWW, BL⟩
    ·obtain rfl := Option.some.inj H
     go_wp2
     go_ret
     exact ⟨EWW, BL⟩
 ·obtain rfl := Option.some.inj H
  try go_wp2
  go_ret
  exact ⟨EWW, BL⟩
def bg.f : Nat → List (aA) → Int → Option (ByteArray)
 | 0, _, _ => none
 | k + 1, a, b => if 0 ≤ b then (if b < (a.length : Int) then (if ((ah a b).f0) = 1 then (some ((ah a b).f1)) else (if 0 ≤ ((ah a b).f0) then (if ((ah a b).f0) ≤ (wrap64 (((ah a b).f0) + 1)) then (if (wrap64 (((ah a b).f0) + 1)) ≤ 10 then (if ((⟨#[63, 63, 98, 109, 106, 105, 104, 110, 116, 100]⟩ : ByteArray).extract (((ah a b).f0) : Int).toNat ((wrap64 (((ah a b).f0) + 1)) : Int).toNat).size + 1 ≤ 9223372036854775807 then ((bg.f k a ((ah a b).f2)).bind fun c => (if (((⟨#[63, 63, 98, 109, 106, 105, 104, 110, 116, 100]⟩ : ByteArray).extract (((ah a b).f0) : Int).toNat ((wrap64 (((ah a b).f0) + 1)) : Int).toNat) ++ (⟨#[40]⟩ : ByteArray)).size + c.size ≤ 9223372036854775807 then ((bO.f ((ah a b).f0)).bind fun d => (if d = true then ((bg.f k a ((ah a b).f3)).bind fun e => (if 1 + e.size ≤ 9223372036854775807 then (if ((((⟨#[63, 63, 98, 109, 106, 105, 104, 110, 116, 100]⟩ : ByteArray).extract (((ah a b).f0) : Int).toNat ((wrap64 (((ah a b).f0) + 1)) : Int).toNat) ++ (⟨#[40]⟩ : ByteArray)) ++ c).size + ((⟨#[44]⟩ : ByteArray) ++ e).size ≤ 9223372036854775807 then (if (((((⟨#[63, 63, 98, 109, 106, 105, 104, 110, 116, 100]⟩ : ByteArray).extract (((ah a b).f0) : Int).toNat ((wrap64 (((ah a b).f0) + 1)) : Int).toNat) ++ (⟨#[40]⟩ : ByteArray)) ++ c) ++ ((⟨#[44]⟩ : ByteArray) ++ e)).size + 1 ≤ 9223372036854775807 then (some ((((((⟨#[63, 63, 98, 109, 106, 105, 104, 110, 116, 100]⟩ : ByteArray).extract (((ah a b).f0) : Int).toNat ((wrap64 (((ah a b).f0) + 1)) : Int).toNat) ++ (⟨#[40]⟩ : ByteArray)) ++ c) ++ ((⟨#[44]⟩ : ByteArray) ++ e)) ++ (⟨#[41]⟩ : ByteArray))) else (none)) else (none)) else (none))) else (if ((((⟨#[63, 63, 98, 109, 106, 105, 104, 110, 116, 100]⟩ : ByteArray).extract (((ah a b).f0) : Int).toNat ((wrap64 (((ah a b).f0) + 1)) : Int).toNat) ++ (⟨#[40]⟩ : ByteArray)) ++ c).size + 1 ≤ 9223372036854775807 then (some (((((⟨#[63, 63, 98, 109, 106, 105, 104, 110, 116, 100]⟩ : ByteArray).extract (((ah a b).f0) : Int).toNat ((wrap64 (((ah a b).f0) + 1)) : Int).toNat) ++ (⟨#[40]⟩ : ByteArray)) ++ c) ++ (⟨#[41]⟩ : ByteArray))) else (none)))) else (none))) else (none)) else (none)) else (none)) else (none))) else (none)) else (none)
def bg.T4 : Bool × List (List Nat × List Nat) := (true, [([], []), ([0], [0]), ([], []), ([2], [2]), ([3], [3]), ([1, 4], [1, 4]), ([5], [5]), ([], []), ([], []), ([8], [8]), ([7, 9], [7, 9]), ([6, 10], [6, 10]), ([11, 10, 0, 1, 2, 3, 4, 5, 6, 7, 8, 9, 10, 11], [11])])
def bg.B4 : List Nat := [0, 1, 0, 4, 12, 31, 63, 0, 0, 256, 896, 2047, 4095]
theorem bg.qC : fG .any (opsOf Try.f104 4) = bg.T4 := by kernel_rfl
theorem bg.oU : fK bg.T4.2 bg.B4 = true := by kernel_rfl
theorem bg.calls (k : Nat) : ∀ (A0 : Option Addr) (c0 : Nat) (l0 : List (aA)) (a1 : Int) (r : ByteArray) (w : World) (hr0 : Kd.C bQ w A0 l0.length l0) (hc0 : l0.length ≤ c0) (h : bg.f k l0 a1 = some r),
  Calls Try.prog 104 #[.slice A0 l0.length c0, .int .i64 a1] w fun e w' => e = .returned (.string r) ∧ Below w.heap.size w w' := by
 induction k using Nat.strongRecOn with
 | _ k ih =>
 intro A0 c0 l0 a1 r w hr0 hc0 h
 cases k with
 | zero => exact absurd h (by simp [bg.f])
 | succ k =>
 simp only [bg.f] at h
 have hu110 := Try.underlying110
 have HR0 := aj.mk hr0
 have HC0 := aj.mk hc0
 clear hr0 hc0
 have HB := aj.mk (Below.refl w.heap.size w)
 have H : (if 0 ≤ a1 then (if a1 < (l0.length : Int) then (if ((ah l0 a1).f0) = 1 then (some ((ah l0 a1).f1)) else (if 0 ≤ ((ah l0 a1).f0) then (if ((ah l0 a1).f0) ≤ (wrap64 (((ah l0 a1).f0) + 1)) then (if (wrap64 (((ah l0 a1).f0) + 1)) ≤ 10 then (if ((⟨#[63, 63, 98, 109, 106, 105, 104, 110, 116, 100]⟩ : ByteArray).extract (((ah l0 a1).f0) : Int).toNat ((wrap64 (((ah l0 a1).f0) + 1)) : Int).toNat).size + 1 ≤ 9223372036854775807 then ((bg.f k l0 ((ah l0 a1).f2)).bind fun t203 => (if (((⟨#[63, 63, 98, 109, 106, 105, 104, 110, 116, 100]⟩ : ByteArray).extract (((ah l0 a1).f0) : Int).toNat ((wrap64 (((ah l0 a1).f0) + 1)) : Int).toNat) ++ (⟨#[40]⟩ : ByteArray)).size + t203.size ≤ 9223372036854775807 then ((bO.f ((ah l0 a1).f0)).bind fun t204 => (if t204 = true then ((bg.f k l0 ((ah l0 a1).f3)).bind fun t205 => (if 1 + t205.size ≤ 9223372036854775807 then (if ((((⟨#[63, 63, 98, 109, 106, 105, 104, 110, 116, 100]⟩ : ByteArray).extract (((ah l0 a1).f0) : Int).toNat ((wrap64 (((ah l0 a1).f0) + 1)) : Int).toNat) ++ (⟨#[40]⟩ : ByteArray)) ++ t203).size + ((⟨#[44]⟩ : ByteArray) ++ t205).size ≤ 9223372036854775807 then (if (((((⟨#[63, 63, 98, 109, 106, 105, 104, 110, 116, 100]⟩ : ByteArray).extract (((ah l0 a1).f0) : Int).toNat ((wrap64 (((ah l0 a1).f0) + 1)) : Int).toNat) ++ (⟨#[40]⟩ : ByteArray)) ++ t203) ++ ((⟨#[44]⟩ : ByteArray) ++ t205)).size + 1 ≤ 9223372036854775807 then (some ((((((⟨#[63, 63, 98, 109, 106, 105, 104, 110, 116, 100]⟩ : ByteArray).extract (((ah l0 a1).f0) : Int).toNat ((wrap64 (((ah l0 a1).f0) + 1)) : Int).toNat) ++ (⟨#[40]⟩ : ByteArray)) ++ t203) ++ ((⟨#[44]⟩ : ByteArray) ++ t205)) ++ (⟨#[41]⟩ : ByteArray))) else (none)) else (none)) else (none))) else (if ((((⟨#[63, 63, 98, 109, 106, 105, 104, 110, 116, 100]⟩ : ByteArray).extract (((ah l0 a1).f0) : Int).toNat ((wrap64 (((ah l0 a1).f0) + 1)) : Int).toNat) ++ (⟨#[40]⟩ : ByteArray)) ++ t203).size + 1 ≤ 9223372036854775807 then (some (((((⟨#[63, 63, 98, 109, 106, 105, 104, 110, 116, 100]⟩ : ByteArray).extract (((ah l0 a1).f0) : Int).toNat ((wrap64 (((ah l0 a1).f0) + 1)) : Int).toNat) ++ (⟨#[40]⟩ : ByteArray)) ++ t203) ++ (⟨#[41]⟩ : ByteArray))) else (none)))) else (none))) else (none)) else (none)) else (none)) else (none))) else (none)) else (none)) = some r := h
 clear h
 replace H := ifN H; obtain ⟨c3b0, H⟩ := H
 replace H := ifN H; obtain ⟨c4b0, H⟩ := H
 have p201 : 0 ≤ (a1 : Int) := OD
 have q201 : a1 < (l0.length : Int) := OD
 obtain ⟨ad201, e201, hx201_0, hx201_1, hx201_2, hx201_3⟩ := dD HR0.out a1 p201 q201
 cases e201
 replace p201 := eq_true p201
 replace q201 := eq_true q201
 replace H := aj.mk H
 go_enter Try.func104, Try.ntmps104
 go_wp2_with (first | ((with_reducible refine bR (N := 5) rfl ?_); refine fC (N := 5) (cs := #[.int .i64 0, .string (⟨#[]⟩ : ByteArray), .int .i64 0, .int .i64 0]) (t := 110) ?_; intro gb202 hg w9000 hbox hb; have BK202 := aj.mk hbox; have GW202 := SZ (w := w) hg; have GE202 := GW202; replace HB := BS (w := w) hb; clear hb hbox hg; obtain ⟨hcz9001_0, hcz9001_1, hcz9001_2, hcz9001_3, hfz9001_0, hfz9001_1, hfz9001_2, hfz9001_3⟩ := cz4 BK202.out; refine dS ?_))
 refine Hide.mk ?_
 replace H := H.out
 replace H := ifE H; rcases H with ⟨c5b0, c5b1, H⟩ | ⟨c5, c5b0, c5b1, H⟩
 ·obtain rfl := Option.some.inj H
  try go_wp2
  go_ret
  exact ⟨EWW, BL⟩
 ·replace H := ifP H; obtain ⟨c8, H⟩ := H
  have c8b0 := eq_true c8
  have c8b1 : decide (0 ≤ ((ah l0 a1).f0)) = true := decide_eq_true c8
  clear c8
  replace H := ifP H; obtain ⟨c9, H⟩ := H
  have c9b0 := eq_true c9
  have c9b1 : decide (((ah l0 a1).f0) ≤ (wrap64 (((ah l0 a1).f0) + 1))) = true := decide_eq_true c9
  replace H := ifP H; obtain ⟨c10, H⟩ := H
  have c10b0 := eq_true c10
  have c10b1 : decide ((wrap64 (((ah l0 a1).f0) + 1)) ≤ 10) = true := decide_eq_true c10
  replace H := ifP H; obtain ⟨c11, H⟩ := H
  have c11b0 := eq_true c11
  have c11b1 : decide (((⟨#[63, 63, 98, 109, 106, 105, 104, 110, 116, 100]⟩ : ByteArray).extract (((ah l0 a1).f0) : Int).toNat ((wrap64 (((ah l0 a1).f0) + 1)) : Int).toNat).size + 1 ≤ 9223372036854775807) = true := decide_eq_true c11
  have c11z : (9223372036854775807 < (wrap64 ((ah l0 a1).f0 + 1)).toNat - ((ah l0 a1).f0).toNat + 1) = False := eq_false (by have hz_ : wrap64 ((ah l0 a1).f0 + 1) ≤ 10 := OD; have hs_ : ((⟨#[63, 63, 98, 109, 106, 105, 104, 110, 116, 100]⟩ : ByteArray).extract (((ah l0 a1).f0) : Int).toNat ((wrap64 (((ah l0 a1).f0) + 1)) : Int).toNat).size = (wrap64 ((ah l0 a1).f0 + 1)).toNat - ((ah l0 a1).f0).toNat := (by rw [ByteArray.size_extract]; show min _ 10 - _ = _; omega); have h_ := of_decide_eq_true c11b1; have e1_ : (⟨#[40]⟩ : ByteArray).size = 1 := rfl; have e2_ : (⟨#[44]⟩ : ByteArray).size = 1 := rfl; simp only [ByteArray.size_append, hs_] at h_; omega)
  try have c11b2 : (9223372036854775807 < ((⟨#[63, 63, 98, 109, 106, 105, 104, 110, 116, 100]⟩ : ByteArray).extract (((ah l0 a1).f0) : Int).toNat ((wrap64 (((ah l0 a1).f0) + 1)) : Int).toNat).size + 1) = False := eq_false (Nat.not_lt.2 c11)
  replace H := be H; obtain ⟨t203, A12, H⟩ := H
  replace H := ifP H; obtain ⟨c13, H⟩ := H
  have c13b0 := eq_true c13
  have c13b1 : decide ((((⟨#[63, 63, 98, 109, 106, 105, 104, 110, 116, 100]⟩ : ByteArray).extract (((ah l0 a1).f0) : Int).toNat ((wrap64 (((ah l0 a1).f0) + 1)) : Int).toNat) ++ (⟨#[40]⟩ : ByteArray)).size + t203.size ≤ 9223372036854775807) = true := decide_eq_true c13
  have c13z : (9223372036854775807 < (wrap64 ((ah l0 a1).f0 + 1)).toNat - ((ah l0 a1).f0).toNat + 1 + t203.size) = False := eq_false (by have hz_ : wrap64 ((ah l0 a1).f0 + 1) ≤ 10 := OD; have hs_ : ((⟨#[63, 63, 98, 109, 106, 105, 104, 110, 116, 100]⟩ : ByteArray).extract (((ah l0 a1).f0) : Int).toNat ((wrap64 (((ah l0 a1).f0) + 1)) : Int).toNat).size = (wrap64 ((ah l0 a1).f0 + 1)).toNat - ((ah l0 a1).f0).toNat := (by rw [ByteArray.size_extract]; show min _ 10 - _ = _; omega); have h_ := of_decide_eq_true c13b1; have e1_ : (⟨#[40]⟩ : ByteArray).size = 1 := rfl; have e2_ : (⟨#[44]⟩ : ByteArray).size = 1 := rfl; simp only [ByteArray.size_append, hs_] at h_; omega)
  try have c13b2 : (9223372036854775807 < (((⟨#[63, 63, 98, 109, 106, 105, 104, 110, 116, 100]⟩ : ByteArray).extract (((ah l0 a1).f0) : Int).toNat ((wrap64 (((ah l0 a1).f0) + 1)) : Int).toNat) ++ (⟨#[40]⟩ : ByteArray)).size + t203.size) = False := eq_false (Nat.not_lt.2 c13)
  replace H := be H; obtain ⟨t204, A14, H⟩ := H
  replace H := aj.mk H
  try go_wp2
  have n0_ : aj (((((w9000.setCell ⟨gb202, 0, none⟩ (.int .i64 ((ah l0 a1).f0))).setCell ⟨gb202, 1, none⟩ (.string ((ah l0 a1).f1))).setCell ⟨gb202, 2, none⟩ (.int .i64 ((ah l0 a1).f2))).setCell ⟨gb202, 3, none⟩ (.int .i64 ((ah l0 a1).f3))).heap[gb202]? = some (.cells #[.int .i64 ((ah l0 a1).f0), .string ((ah l0 a1).f1), .int .i64 ((ah l0 a1).f2), .int .i64 ((ah l0 a1).f3)] 110 (0, 0))) := ⟨by (with_reducible repeat (first | refine av ?_ _ | refine ay ?_ | refine au ?_ _)); refine aM (cs := #[.int .i64 ((ah l0 a1).f0), .string ((ah l0 a1).f1), .int .i64 ((ah l0 a1).f2), .int .i64 0]) ?_ 3 _ rfl; (with_reducible repeat (first | refine av ?_ _ | refine ay ?_ | refine au ?_ _)); refine aM (cs := #[.int .i64 ((ah l0 a1).f0), .string ((ah l0 a1).f1), .int .i64 0, .int .i64 0]) ?_ 2 _ rfl; (with_reducible repeat (first | refine av ?_ _ | refine ay ?_ | refine au ?_ _)); refine aM (cs := #[.int .i64 ((ah l0 a1).f0), .string (⟨#[]⟩ : ByteArray), .int .i64 0, .int .i64 0]) ?_ 1 _ rfl; (with_reducible repeat (first | refine av ?_ _ | refine ay ?_ | refine au ?_ _)); refine aM (cs := #[.int .i64 0, .string (⟨#[]⟩ : ByteArray), .int .i64 0, .int .i64 0]) ?_ 0 _ rfl; (with_reducible repeat (first | refine av ?_ _ | refine ay ?_ | refine au ?_ _)); exact BK202.out⟩
  have n1_ : aj (Below w.heap.size w ((((w9000.setCell ⟨gb202, 0, none⟩ (.int .i64 ((ah l0 a1).f0))).setCell ⟨gb202, 1, none⟩ (.string ((ah l0 a1).f1))).setCell ⟨gb202, 2, none⟩ (.int .i64 ((ah l0 a1).f2))).setCell ⟨gb202, 3, none⟩ (.int .i64 ((ah l0 a1).f3)))) := ⟨BL⟩
  (try clear BK202)
  (try clear HB)
  generalize ((((w9000.setCell ⟨gb202, 0, none⟩ (.int .i64 ((ah l0 a1).f0))).setCell ⟨gb202, 1, none⟩ (.string ((ah l0 a1).f1))).setCell ⟨gb202, 2, none⟩ (.int .i64 ((ah l0 a1).f2))).setCell ⟨gb202, 3, none⟩ (.int .i64 ((ah l0 a1).f3))) = w9002 at n0_ n1_ ⊢
  have BK202 := n0_
  have HB := n1_
  clear n0_ n1_
  replace BK202 := aj.mk (ay BK202.out)
  replace HB := aj.mk (dM HB.out)
  refine fQ (n := 13) (S := fun w' => w'.cell? ⟨gb202, 0, none⟩ = some (.int .i64 ((ah l0 a1).f0)) ∧ w'.cell? ⟨gb202, 1, none⟩ = some (.string ((ah l0 a1).f1)) ∧ w'.cell? ⟨gb202, 2, none⟩ = some (.int .i64 ((ah l0 a1).f2)) ∧ w'.cell? ⟨gb202, 3, none⟩ = some (.int .i64 ((ah l0 a1).f3))) (ds := []) #[F,F,F,F,F,F,F,F,F,F,F,F,F] (by kernel_rfl) rfl rfl ⟨(bC BK202.out 0).trans rfl, (bC BK202.out 1).trans rfl, (bC BK202.out 2).trans rfl, (bC BK202.out 3).trans rfl⟩ (fun hHeld => ?_); refine eP bg.qC bg.oU (fun HT_ HW_ => ?_)
  generalize w9002.drew = w9003 at BK202 HB hHeld ⊢
  refine puS (i := 0) (N := some 16) #[T,F,F,F,F,F,F,F,F,F,F,F,F] (bf HT_.out (by kernel_rfl)) ?_
  refine puS (i := 2) (N := some 18) #[T,F,T,F,F,F,F,F,F,F,F,F,F] (bf HT_.out (by kernel_rfl)) ?_
  refine puS (i := 7) (N := some 23) #[T,F,T,F,F,F,F,T,F,F,F,F,F] (bf HT_.out (by kernel_rfl)) ?_
  refine puS (i := 8) (N := some 24) #[T,F,T,F,F,F,F,T,T,F,F,F,F] (bf HT_.out (by kernel_rfl)) ?_
  refine taS (i := 1) (N := some 17) #[T,T,T,F,F,F,F,T,T,F,F,F,F] (dw HT_.out HW_.out (by kernel_rfl)) hHeld ?_
  refine taS (i := 3) (N := some 19) #[T,T,T,T,F,F,F,T,T,F,F,F,F] (dw HT_.out HW_.out (by kernel_rfl)) hHeld ?_
  refine puS (i := 4) (N := some 20) #[T,T,T,T,T,F,F,T,T,F,F,F,F] (bf HT_.out (by kernel_rfl)) ?_
  refine puS (i := 5) (N := some 21) #[T,T,T,T,T,T,F,T,T,F,F,F,F] (bf HT_.out (by kernel_rfl)) ?_
  refine puS (i := 6) (N := some 22) #[T,T,T,T,T,T,T,T,T,F,F,F,F] (bf HT_.out (by kernel_rfl)) ?_
  refine taS (i := 9) (N := some 25) #[T,T,T,T,T,T,T,T,T,T,F,F,F] (dw HT_.out HW_.out (by kernel_rfl)) hHeld ?_
  refine jv (i := 10) (N := some 26) #[T,T,T,T,T,T,T,T,T,T,T,F,F] rfl rfl (gu HT_.out (by kernel_rfl)) (by decide) (fun K hK => ?_)
  refine jU Try.func104 #[.slice (some ad201) l0.length c0, .int .i64 ((ah l0 a1).f2)] ?_
  with_reducible refine (ih k (by omega) _ _ l0 ((ah l0 a1).f2) t203 _ ?side1 ?side2 A12.out).mono ?_
  (case side1 => exact CB HR0)
  (case side2 => exact HC0.out)
  rintro e w9004 ⟨rfl, hb⟩
  refine ⟨_, rfl, ?_⟩
  replace BK202 := KB BK202 hb
  replace HB := BS (w := w) hb
  (try clear hb)
  refine hK.out _ _ ⟨(bC BK202.out 0).trans rfl, (bC BK202.out 1).trans rfl, (bC BK202.out 2).trans rfl, (bC BK202.out 3).trans rfl⟩ (fun hHeld => ?_)
  clear hK K
  refine nrm (some 26) ?_
  refine puS (i := 11) (N := some 27) #[T,T,T,T,T,T,T,T,T,T,T,T,F] (bf HT_.out (by kernel_rfl)) ?_
  refine puS (i := 12) (N := some 6) #[T,T,T,T,T,T,T,T,T,T,T,T,T] (bf HT_.out (by kernel_rfl)) ?_
  refine gV (fJ HT_.out (by kernel_rfl)) ?_
  obtain ⟨hcz9005_0, hcz9005_1, hcz9005_2, hcz9005_3, hfz9005_0, hfz9005_1, hfz9005_2, hfz9005_3⟩ := cz4 BK202.out
  go_wp2_with (first | ((with_reducible refine aV (f := 107) rfl ?_); refine dF (some 30) Try.func107 #[.int .i64 ((ah l0 a1).f0)] ?_; (with_reducible refine (bO.calls ((ah l0 a1).f0) _ _ A14.out).mono ?_); rintro e w' ⟨rfl, ⟨nd, rfl⟩⟩; refine ⟨_, rfl, ?_⟩; refine dS ?_))
  refine Hide.mk ?_
  replace H := H.out
  replace H := ifB H; rcases H with ⟨rfl, H⟩ | ⟨rfl, H⟩
  ·replace H := be H; obtain ⟨t205, A16, H⟩ := H
   replace H := ifP H; obtain ⟨c17, H⟩ := H
   have c17b0 := eq_true c17
   have c17b1 : decide (1 + t205.size ≤ 9223372036854775807) = true := decide_eq_true c17
   try have c17b2 : (9223372036854775807 < 1 + t205.size) = False := eq_false (Nat.not_lt.2 c17)
   replace H := ifP H; obtain ⟨c18, H⟩ := H
   have c18b0 := eq_true c18
   have c18b1 : decide (((((⟨#[63, 63, 98, 109, 106, 105, 104, 110, 116, 100]⟩ : ByteArray).extract (((ah l0 a1).f0) : Int).toNat ((wrap64 (((ah l0 a1).f0) + 1)) : Int).toNat) ++ (⟨#[40]⟩ : ByteArray)) ++ t203).size + ((⟨#[44]⟩ : ByteArray) ++ t205).size ≤ 9223372036854775807) = true := decide_eq_true c18
   have c18z : (9223372036854775807 < (wrap64 ((ah l0 a1).f0 + 1)).toNat - ((ah l0 a1).f0).toNat + 1 + t203.size + (1 + t205.size)) = False := eq_false (by have hz_ : wrap64 ((ah l0 a1).f0 + 1) ≤ 10 := OD; have hs_ : ((⟨#[63, 63, 98, 109, 106, 105, 104, 110, 116, 100]⟩ : ByteArray).extract (((ah l0 a1).f0) : Int).toNat ((wrap64 (((ah l0 a1).f0) + 1)) : Int).toNat).size = (wrap64 ((ah l0 a1).f0 + 1)).toNat - ((ah l0 a1).f0).toNat := (by rw [ByteArray.size_extract]; show min _ 10 - _ = _; omega); have h_ := of_decide_eq_true c18b1; have e1_ : (⟨#[40]⟩ : ByteArray).size = 1 := rfl; have e2_ : (⟨#[44]⟩ : ByteArray).size = 1 := rfl; simp only [ByteArray.size_append, hs_] at h_; omega)
   try have c18b2 : (9223372036854775807 < ((((⟨#[63, 63, 98, 109, 106, 105, 104, 110, 116, 100]⟩ : ByteArray).extract (((ah l0 a1).f0) : Int).toNat ((wrap64 (((ah l0 a1).f0) + 1)) : Int).toNat) ++ (⟨#[40]⟩ : ByteArray)) ++ t203).size + ((⟨#[44]⟩ : ByteArray) ++ t205).size) = False := eq_false (Nat.not_lt.2 c18)
   replace H := ifP H; obtain ⟨c19, H⟩ := H
   have c19b0 := eq_true c19
   have c19b1 : decide ((((((⟨#[63, 63, 98, 109, 106, 105, 104, 110, 116, 100]⟩ : ByteArray).extract (((ah l0 a1).f0) : Int).toNat ((wrap64 (((ah l0 a1).f0) + 1)) : Int).toNat) ++ (⟨#[40]⟩ : ByteArray)) ++ t203) ++ ((⟨#[44]⟩ : ByteArray) ++ t205)).size + 1 ≤ 9223372036854775807) = true := decide_eq_true c19
   have c19z : (9223372036854775807 < (wrap64 ((ah l0 a1).f0 + 1)).toNat - ((ah l0 a1).f0).toNat + 1 + t203.size + (1 + t205.size) + 1) = False := eq_false (by have hz_ : wrap64 ((ah l0 a1).f0 + 1) ≤ 10 := OD; have hs_ : ((⟨#[63, 63, 98, 109, 106, 105, 104, 110, 116, 100]⟩ : ByteArray).extract (((ah l0 a1).f0) : Int).toNat ((wrap64 (((ah l0 a1).f0) + 1)) : Int).toNat).size = (wrap64 ((ah l0 a1).f0 + 1)).toNat - ((ah l0 a1).f0).toNat := (by rw [ByteArray.size_extract]; show min _ 10 - _ = _; omega); have h_ := of_decide_eq_true c19b1; have e1_ : (⟨#[40]⟩ : ByteArray).size = 1 := rfl; have e2_ : (⟨#[44]⟩ : ByteArray).size = 1 := rfl; simp only [ByteArray.size_append, hs_] at h_; omega)
   try have c19b2 : (9223372036854775807 < (((((⟨#[63, 63, 98, 109, 106, 105, 104, 110, 116, 100]⟩ : ByteArray).extract (((ah l0 a1).f0) : Int).toNat ((wrap64 (((ah l0 a1).f0) + 1)) : Int).toNat) ++ (⟨#[40]⟩ : ByteArray)) ++ t203) ++ ((⟨#[44]⟩ : ByteArray) ++ t205)).size + 1) = False := eq_false (Nat.not_lt.2 c19)
   obtain rfl := Option.some.inj H
   try go_wp2_with (first | ((with_reducible refine aV (f := 104) rfl ?_); refine dF (some 35) Try.func104 #[.slice (some ad201) l0.length c0, .int .i64 ((ah l0 a1).f3)] ?_; (with_reducible refine (ih k (by omega) _ _ l0 ((ah l0 a1).f3) t205 _ ?side1 ?side2 A16.out).mono ?_); (case side1 => repeat (first | exact (Kd.iI HR0.out BL) | (with_reducible refine Kd.jh ?_ _) | (with_reducible refine Kd.jl ?_ _) | (with_reducible refine Kd.kL ?_))); (case side2 => exact HC0.out); rintro e w9006 ⟨rfl, hb⟩; refine ⟨_, rfl, ?_⟩; replace BK202 := KB BK202 hb; replace HB := BS (w := w) hb; (try clear hb)))
   go_ret
   exact ⟨EWW, BL⟩
  ·replace H := ifP H; obtain ⟨c27, H⟩ := H
   have c27b0 := eq_true c27
   have c27b1 : decide (((((⟨#[63, 63, 98, 109, 106, 105, 104, 110, 116, 100]⟩ : ByteArray).extract (((ah l0 a1).f0) : Int).toNat ((wrap64 (((ah l0 a1).f0) + 1)) : Int).toNat) ++ (⟨#[40]⟩ : ByteArray)) ++ t203).size + 1 ≤ 9223372036854775807) = true := decide_eq_true c27
   have c27z : (9223372036854775807 < (wrap64 ((ah l0 a1).f0 + 1)).toNat - ((ah l0 a1).f0).toNat + 1 + t203.size + 1) = False := eq_false (by have hz_ : wrap64 ((ah l0 a1).f0 + 1) ≤ 10 := OD; have hs_ : ((⟨#[63, 63, 98, 109, 106, 105, 104, 110, 116, 100]⟩ : ByteArray).extract (((ah l0 a1).f0) : Int).toNat ((wrap64 (((ah l0 a1).f0) + 1)) : Int).toNat).size = (wrap64 ((ah l0 a1).f0 + 1)).toNat - ((ah l0 a1).f0).toNat := (by rw [ByteArray.size_extract]; show min _ 10 - _ = _; omega); have h_ := of_decide_eq_true c27b1; have e1_ : (⟨#[40]⟩ : ByteArray).size = 1 := rfl; have e2_ : (⟨#[44]⟩ : ByteArray).size = 1 := rfl; simp only [ByteArray.size_append, hs_] at h_; omega)
   try have c27b2 : (9223372036854775807 < ((((⟨#[63, 63, 98, 109, 106, 105, 104, 110, 116, 100]⟩ : ByteArray).extract (((ah l0 a1).f0) : Int).toNat ((wrap64 (((ah l0 a1).f0) + 1)) : Int).toNat) ++ (⟨#[40]⟩ : ByteArray)) ++ t203).size + 1) = False := eq_false (Nat.not_lt.2 c27)
   obtain rfl := Option.some.inj H
   try go_wp2
   go_ret
   exact ⟨EWW, BL⟩
def dH.f (k : Nat) (l0 : List (aA)) : Option (ByteArray) := (aN.f k l0).bind fun t206 => (if t206 = true then ((bg.f k l0 (wrap64 ((l0.length : Int) - 1))).bind fun t207 => (if (t207.size : Int) > 80 then (some (⟨#[]⟩ : ByteArray)) else (some t207))) else (some (⟨#[]⟩ : ByteArray)))
theorem dH.calls (k : Nat) (A0 : Option Addr) (c0 : Nat) (l0 : List (aA)) (r : ByteArray) (w : World) (hr0 : Kd.C bQ w A0 l0.length l0) (hc0 : l0.length ≤ c0) (h : dH.f k l0 = some r) :
  Calls Try.prog 45 #[.slice A0 l0.length c0] w fun e w' => e = .returned (.string r) ∧ Below w.heap.size w w' := by
 have HR0 := aj.mk hr0
 have HC0 := aj.mk hc0
 clear hr0 hc0
 have HB := aj.mk (Below.refl w.heap.size w)
 unfold dH.f at h
 have H := h
 clear h
 replace H := be H; obtain ⟨t206, A2, H⟩ := H
 replace H := aj.mk H
 go_enter Try.func45, Try.ntmps45
 go_wp2_with (first | ((with_reducible refine aV (f := 50) rfl ?_); refine dF (some 5) Try.func50 #[.slice A0 l0.length c0] ?_; (with_reducible refine (aN.calls k _ _ l0 _ _ ?side1 ?side2 A2.out).mono ?_); (case side1 => repeat (first | exact HR0.out | (with_reducible refine Kd.jh ?_ _) | (with_reducible refine Kd.jl ?_ _) | (with_reducible refine Kd.kL ?_))); (case side2 => exact HC0.out); rintro e w9000 ⟨rfl, hb⟩; refine ⟨_, rfl, ?_⟩; replace HB := BS (w := w) hb; (try clear hb); refine dS ?_))
 refine Hide.mk ?_
 replace H := H.out
 replace H := ifB H; rcases H with ⟨rfl, H⟩ | ⟨rfl, H⟩
 ·replace H := be H; obtain ⟨t207, A4, H⟩ := H
  replace H := aj.mk H
  go_wp2_with (first | ((with_reducible refine aV (f := 104) rfl ?_); refine dF (some 11) Try.func104 #[.slice A0 l0.length c0, .int .i64 (wrap64 ((l0.length : Int) - 1))] ?_; (with_reducible refine (bg.calls k _ _ l0 (wrap64 ((l0.length : Int) - 1)) t207 _ ?side1 ?side2 A4.out).mono ?_); (case side1 => exact CB HR0); (case side2 => exact HC0.out); rintro e w9001 ⟨rfl, hb⟩; refine ⟨_, rfl, ?_⟩; replace HB := BS (w := w) hb; (try clear hb); refine dS ?_))
  refine Hide.mk ?_
  replace H := H.out
  by_cases c5 : (t207.size : Int) > 80
  ·rw [if_pos c5] at H
   have c5b0 : decide (80 < (t207.size : Int)) = true := decide_eq_true c5
   have c5b1 : decide (80 < t207.size) = true := decide_eq_true (by omega)
   clear c5
   obtain rfl := Option.some.inj H
   try go_wp2
   go_ret
   exact ⟨EWW, BL⟩
  ·rw [if_neg c5] at H
   have c5b0 : decide (80 < (t207.size : Int)) = false := decide_eq_false c5
   have c5b1 : decide (80 < t207.size) = false := decide_eq_false (by omega)
   clear c5
   obtain rfl := Option.some.inj H
   try go_wp2
   go_ret
   exact ⟨EWW, BL⟩
 ·obtain rfl := Option.some.inj H
  try go_wp2
  go_ret
  exact ⟨EWW, BL⟩
def aI.st (x : Go.Proofs.Ythjcicmmbmagbaa.HandRead.Stp) : aA := ⟨x.1, x.2.1, x.2.2.1, x.2.2.2⟩
def aI.f (k : Nat) (a0 : ByteArray) : Option ((List (aA)) × Bool) := if (a0.size : Int) > 80 then (some ([], false)) else ((Go.Proofs.Ythjcicmmbmagbaa.HandRead.jS k a0 []).bind fun r => (if r.1 < 0 then (some ([], false)) else (if r.2.1.toList = ([] : List UInt8) then ((aN.f k (r.2.2.map aI.st)).bind fun p => (if p = true then ((dH.f k (r.2.2.map aI.st)).bind fun t => (if t.toList = a0.toList then (some (r.2.2.map aI.st, true)) else (some ([], false)))) else (some ([], false)))) else (some ([], false)))))
theorem aI.qG (w : World) (base : Nat) (ok : Nat → Prop) : ∀ l : List Go.Proofs.Ythjcicmmbmagbaa.HandRead.Stp, bT (bQ.M w base ok) 4 (l.map aI.st) (l.flatMap Go.Proofs.Ythjcicmmbmagbaa.HandRead.cs)
 | [] => bT.none _ _
 | x :: l => by
  obtain ⟨h1, h2⟩ := aI.qG w base ok l
  refine ⟨?_, fun j p hj => ?_⟩
  ·rw [List.flatMap_cons, List.length_append, h1, List.map_cons, List.length_cons, List.length_map]
   show 4 + _ = _
   omega
  ·cases j with
   | zero =>
    rw [List.map_cons, List.getElem?_cons_zero] at hj
    obtain rfl := Option.some.inj hj
    exact bX w base ok (aI.st x)
   | succ j =>
    rw [List.map_cons, List.getElem?_cons_succ] at hj
    have h3 := h2 j p hj
    rw [List.flatMap_cons, List.drop_append, show (Go.Proofs.Ythjcicmmbmagbaa.HandRead.cs x).length = 4 from rfl, show (j + 1) * 4 - 4 = j * 4 by omega, List.drop_eq_nil_of_le (by show 4 ≤ (j + 1) * 4; omega), List.nil_append]
    exact h3
theorem aI.row {W : World} {base : Nat} {v : Value} {l : List Go.Proofs.Ythjcicmmbmagbaa.HandRead.Stp} (h : W.ownsRow base 110 4 v l.length (l.flatMap Go.Proofs.Ythjcicmmbmagbaa.HandRead.cs)) : Kd.R bQ 110 W base (fun _ => True) v (l.map aI.st) :=
 ⟨fun _ _ => trivial, l.flatMap Go.Proofs.Ythjcicmmbmagbaa.HandRead.cs, by rw [List.length_map]; exact h, aI.qG _ _ _ l⟩
theorem aI.isL (c : Int) (W : World) : Calls Try.prog 122 #[.int .u8 c] W fun e w' => e = .returned (.bool (decide (97 ≤ c ∧ c ≤ 122))) ∧ cu W w' :=
 cO.calls c _ W (by unfold cO.f; split <;> simp <;> omega)
theorem aI.isP (c : Int) (W : World) : Calls Try.prog 107 #[.int .i64 c] W fun e w' => e = .returned (.bool (decide (c = 4 ∨ c = 5))) ∧ cu W w' :=
 bO.calls c _ W (by unfold bO.f; split <;> simp_all <;> (rw [Bool.eq_iff_iff]; simp))
theorem aI.calls (k : Nat) (a0 : ByteArray) (r1 : List (aA)) (r2 : Bool) (w : World) (h : aI.f k a0 = some (r1, r2)) :
  Calls Try.prog 31 #[.string a0] w fun e w' => ∃ v0_ : Value, e = .returned (.tuple #[v0_, .bool r2]) ∧ Kd.R bQ 110 w' w.heap.size (fun _ => True) v0_ r1 ∧ Below w.heap.size w w' := by
 unfold aI.f at h
 have hBW := Below.refl w.heap.size w
 by_cases c0 : (a0.size : Int) > 80
 ·rw [if_pos c0] at h
  simp only [Option.some.injEq, Prod.mk.injEq] at h
  obtain ⟨rfl, rfl⟩ := h
  go_enter Try.func31, Try.ntmps31
  go_wp2
  go_ret2
  exact ⟨_, rfl, Kd.mH _ _ _ _ _, hBW⟩
 rw [if_neg c0] at h
 obtain ⟨⟨ra, s2, l2⟩, h1, h⟩ := Option.bind_eq_some_iff.mp h
 dsimp only at h
 have H := aj.mk h
 have H1 := aj.mk h1
 clear h h1 hBW
 have hnew := heap_alloc_new w (.cells #[.string a0, .slice none 0 0] 106)
 have hG0 : (w.alloc (.cells #[.string a0, .slice none 0 0] 106)).heap[w.heap.size]? = some (.cells #[.string a0, .slice none 0 0] 106 (0, 0)) := hnew
 have HG0 := aj.mk hG0
 have HB0 := aj.mk ((Below.refl w.heap.size w).alloc (Nat.le_refl _) (.cells #[.string a0, .slice none 0 0] 106))
 have HS0 := aj.mk (show w.heap.size ≤ (w.alloc (.cells #[.string a0, .slice none 0 0] 106)).heap.size by simp)
 clear hnew hG0
 go_enter Try.func31, Try.ntmps31
 go_wp2_with fail
 generalize w.alloc (.cells #[.string a0, .slice none 0 0] 106) = W1 at HG0 HB0 HS0 ⊢
 obtain ⟨g, hg⟩ : ∃ g, g = w.heap.size := ⟨_, rfl⟩
 have HGE := aj.mk (show w.heap.size ≤ g from Nat.le_of_eq hg.symm)
 rw [← hg] at HG0 ⊢
 clear hg
 refine (Go.Proofs.Ythjcicmmbmagbaa.HandRead.qw aI.isL aI.isP k g w.heap.size a0 (.slice none 0 0) [] _ W1 HG0.out (World.ownsRow_nil _ _ _ _) (by simp [Value.ownBlock]) HGE.out HS0.out H1.out).mono ?_
 rintro e w1 ⟨rfl, v, hG1, ho1, hvg, hs1, hb1⟩
 dsimp only at hG1 ho1
 have HB := aj.mk (HB0.out.trans ((hb1.below (B := w.heap.size) HS0.out (by
  intro q hq
  rcases hq with rfl | hq
  ·exact HGE.out
  ·simp [Value.ownBlock] at hq))))
 have HR := aj.mk (aI.row ho1)
 have HG := aj.mk hG1
 clear hG1 ho1 hvg hs1 hb1 H1 HG0 HB0 HS0
 have hz0 : w1.cell? ⟨g, 0, none⟩ = some (.string s2) := (bC HG.out 0).trans rfl
 have hz1 : w1.cell? ⟨g, 1, none⟩ = some v := (bC HG.out 1).trans rfl
 replace H := H.out
 replace HR := HR.out
 generalize l2.map aI.st = M at HR H
 replace HR := aj.mk HR
 by_cases c1 : ra < 0
 ·rw [if_pos c1] at H
  simp only [Option.some.injEq, Prod.mk.injEq] at H
  obtain ⟨rfl, rfl⟩ := H
  replace c1 := decide_eq_true c1
  go_wp2
  go_ret2
  exact ⟨_, rfl, Kd.mH _ _ _ _ _, HB.out⟩
 rw [if_neg c1] at H
 replace c1 := decide_eq_false c1
 by_cases c2 : s2.toList = ([] : List UInt8)
 rotate_left
 ·rw [if_neg c2] at H
  simp only [Option.some.injEq, Prod.mk.injEq] at H
  obtain ⟨rfl, rfl⟩ := H
  have c3 : (s2.toList == ([] : List UInt8)) = false := by simpa using c2
  have c4 : (s2.toList != ([] : List UInt8)) = true := by simpa using c2
  have c5 : s2.toList.isEmpty = false := by simpa using c2
  go_wp2
  go_ret2
  exact ⟨_, rfl, Kd.mH _ _ _ _ _, HB.out⟩
 rw [if_pos c2] at H
 have c3 : (s2.toList == ([] : List UInt8)) = true := by simpa using c2
 have c4 : (s2.toList != ([] : List UInt8)) = false := by simpa using c2
 have c5 : s2.toList.isEmpty = true := by simpa using c2
 obtain ⟨p, h2, H⟩ := Option.bind_eq_some_iff.mp H
 have H2 := aj.mk h2
 clear h2
 obtain ⟨Ao, co, eo⟩ := Kd.bG HR.out
 subst eo
 go_wp2_with fail
 refine (aN.calls k Ao co M p _ (Kd.bF HR.out).2.2 (Kd.bF HR.out).2.1 H2.out).mono ?_
 rintro e w2 ⟨rfl, hb⟩
 replace hb := (by first | exact hb | exact hb.below)
 replace HR := aj.mk (Kd.fO HR.out hb)
 replace HG := aj.mk (jF HG.out hb)
 replace HB := aj.mk (HB.out.trans (hb.mono HB.out.size))
 clear hb hz0 hz1
 have hz0 : w2.cell? ⟨g, 0, none⟩ = some (.string s2) := (bC HG.out 0).trans rfl
 have hz1 : w2.cell? ⟨g, 1, none⟩ = some (.slice Ao M.length co) := (bC HG.out 1).trans rfl
 cases p with
 | false =>
  rw [if_neg (by decide)] at H
  simp only [Option.some.injEq, Prod.mk.injEq] at H
  obtain ⟨rfl, rfl⟩ := H
  go_wp2
  go_ret2
  exact ⟨_, rfl, Kd.mH _ _ _ _ _, HB.out⟩
 | true =>
  rw [if_pos rfl] at H
  obtain ⟨t, h3, H⟩ := Option.bind_eq_some_iff.mp H
  have H3 := aj.mk h3
  clear h3
  go_wp2_with fail
  refine (dH.calls k Ao co M t _ (Kd.bF HR.out).2.2 (Kd.bF HR.out).2.1 H3.out).mono ?_
  rintro e w3 ⟨rfl, hb⟩
  replace HR := aj.mk (Kd.fO HR.out hb)
  replace HG := aj.mk (jF HG.out hb)
  replace HB := aj.mk (HB.out.trans (hb.mono HB.out.size))
  clear hb hz0 hz1
  have hz0 : w3.cell? ⟨g, 0, none⟩ = some (.string s2) := (bC HG.out 0).trans rfl
  have hz1 : w3.cell? ⟨g, 1, none⟩ = some (.slice Ao M.length co) := (bC HG.out 1).trans rfl
  by_cases c6 : t.toList = a0.toList
  ·rw [if_pos c6] at H
   simp only [Option.some.injEq, Prod.mk.injEq] at H
   obtain ⟨rfl, rfl⟩ := H
   have c7 : (t.toList == a0.toList) = true := by simpa using c6
   have c8 : (t.toList != a0.toList) = false := by simpa using c6
   go_wp2
   go_ret2
   exact ⟨_, rfl, HR.out, HB.out⟩
  ·rw [if_neg c6] at H
   simp only [Option.some.injEq, Prod.mk.injEq] at H
   obtain ⟨rfl, rfl⟩ := H
   have c7 : (t.toList == a0.toList) = false := by simpa using c6
   have c8 : (t.toList != a0.toList) = true := by simpa using c6
   go_wp2
   go_ret2
   exact ⟨_, rfl, Kd.mH _ _ _ _ _, HB.out⟩
def eU.f (a0_0 : Int) (a0_1 : ByteArray) (a0_2 a0_3 a1_0 : Int) (a1_1 : ByteArray) (a1_2 a1_3 : Int) : Option (Bool) := if a0_0 = a1_0 then (if a0_1.toList = a1_1.toList then (if a0_2 = a1_2 then (if a0_3 = a1_3 then (some true) else (some false)) else (some false)) else (some false)) else (some false)
theorem eU.calls (a0_0 : Int) (a0_1 : ByteArray) (a0_2 a0_3 a1_0 : Int) (a1_1 : ByteArray) (a1_2 a1_3 : Int) (r : Bool) (w : World) (h : eU.f a0_0 a0_1 a0_2 a0_3 a1_0 a1_1 a1_2 a1_3 = some r) :
  Calls Try.prog 79 #[.agg #[.int .i64 a0_0, .string a0_1, .int .i64 a0_2, .int .i64 a0_3], .agg #[.int .i64 a1_0, .string a1_1, .int .i64 a1_2, .int .i64 a1_3]] w fun e w' => e = .returned (.bool r) ∧ Below w.heap.size w w' := by
 have hu110 := Try.underlying110
 have HB := aj.mk (Below.refl w.heap.size w)
 unfold eU.f at h
 have H := h
 clear h
 replace H := aj.mk H
 go_enter Try.func79, Try.ntmps79
 go_wp2_with (first | ((with_reducible refine bR (N := 2) rfl ?_); refine fC (N := 2) (cs := #[.int .i64 a0_0, .string a0_1, .int .i64 a0_2, .int .i64 a0_3]) (t := 110) ?_; intro gb208 hg w9000 hbox hb; have BK208 := aj.mk hbox; have GW208 := SZ (w := w) hg; have GE208 := GW208; replace HB := BS (w := w) hb; clear hb hbox hg) | ((with_reducible refine bR (N := 3) rfl ?_); refine fC (N := 3) (cs := #[.int .i64 a1_0, .string a1_1, .int .i64 a1_2, .int .i64 a1_3]) (t := 110) ?_; intro gb209 hg w9001 hbox hb; have n0_ := KB BK208 hb; have n1_ := BS (w := w) hb; have n2_ := aj.mk (hbox); have n3_ := SZ (w := w) hg; have n4_ := SZ (w := w) hg; have n5_ := NL BK208 hg; have n6_ := NG BK208 hg; clear BK208 HB; have BK208 := n0_; have HB := n1_; have BK209 := n2_; have GW209 := n3_; have GE209 := n4_; have NB208_209 := n5_; have NB209_208 := n6_; clear n0_ n1_ n2_ n3_ n4_ n5_ n6_; clear hb hbox hg; have hnb9002 := NB208_209.out; have hnc9002 := NB209_208.out; obtain ⟨hcz9003_0, hcz9003_1, hcz9003_2, hcz9003_3, hfz9003_0, hfz9003_1, hfz9003_2, hfz9003_3⟩ := cz4 BK208.out; obtain ⟨hcz9004_0, hcz9004_1, hcz9004_2, hcz9004_3, hfz9004_0, hfz9004_1, hfz9004_2, hfz9004_3⟩ := cz4 BK209.out; refine dS ?_))
 refine Hide.mk ?_
 replace H := H.out
 replace H := ifE H; rcases H with ⟨c3b0, c3b1, H⟩ | ⟨c3, c3b0, c3b1, H⟩
 ·replace H := ifE H; rcases H with ⟨c4b0, c4b1, H⟩ | ⟨c4, c4b0, c4b1, H⟩
  ·replace H := ifE H; rcases H with ⟨c5b0, c5b1, H⟩ | ⟨c5, c5b0, c5b1, H⟩
   ·replace H := ifE H; rcases H with ⟨c6b0, c6b1, H⟩ | ⟨c6, c6b0, c6b1, H⟩
    ·obtain rfl := Option.some.inj H
     try go_wp2
     go_ret
     exact ⟨EWW, BL⟩
    ·obtain rfl := Option.some.inj H
     try go_wp2
     go_ret
     exact ⟨EWW, BL⟩
   ·obtain rfl := Option.some.inj H
    try go_wp2
    go_ret
    exact ⟨EWW, BL⟩
  ·obtain rfl := Option.some.inj H
   try go_wp2
   go_ret
   exact ⟨EWW, BL⟩
 ·obtain rfl := Option.some.inj H
  try go_wp2
  go_ret
  exact ⟨EWW, BL⟩
def aX.l0 : Nat → List (aA) → List (aA) → Int → Option (Bool)
 | 0, _, _, _ => none
 | k + 1, a, b, c => if c < (a.length : Int) then (if 0 ≤ c then (if c < (b.length : Int) then ((eU.f ((ah a c).f0) ((ah a c).f1) ((ah a c).f2) ((ah a c).f3) ((ah b c).f0) ((ah b c).f1) ((ah b c).f2) ((ah b c).f3)).bind fun d => (if d = true then (aX.l0 k a b (wrap64 (c + 1))) else (some false))) else (none)) else (none)) else (some true)
def aX.f (k : Nat) (l0 l1 : List (aA)) : Option (Bool) := if (l0.length : Int) = (l1.length : Int) then (aX.l0 k l0 l1 0) else (some false)
def aX.T6 : Bool × List (List Nat × List Nat) := (true, [([], []), ([], []), ([0, 1], [0, 1]), ([2], [2]), ([], []), ([], []), ([4, 5], [4, 5]), ([6], [6]), ([3, 7], [3, 7]), ([8], [8])])
def aX.B6 : List Nat := [0, 0, 3, 7, 0, 0, 48, 112, 255, 511]
theorem aX.qP : fG .any (opsOf Try.f32 6) = aX.T6 := by kernel_rfl
theorem aX.qL : fK aX.T6.2 aX.B6 = true := by kernel_rfl
theorem aX.calls (k : Nat) (A0 : Option Addr) (c0 : Nat) (l0 : List (aA)) (A1 : Option Addr) (c1 : Nat) (l1 : List (aA)) (r : Bool) (w : World) (hr0 : Kd.C bQ w A0 l0.length l0) (hc0 : l0.length ≤ c0) (hr1 : Kd.C bQ w A1 l1.length l1) (hc1 : l1.length ≤ c1) (h : aX.f k l0 l1 = some r) :
  Calls Try.prog 32 #[.slice A0 l0.length c0, .slice A1 l1.length c1] w fun e w' => e = .returned (.bool r) ∧ Below w.heap.size w w' := by
 have hu110 := Try.underlying110
 have HR0 := aj.mk hr0
 have HC0 := aj.mk hc0
 clear hr0 hc0
 have HR1 := aj.mk hr1
 have HC1 := aj.mk hc1
 clear hr1 hc1
 have HB := aj.mk (Below.refl w.heap.size w)
 unfold aX.f at h
 have H := h
 clear h
 replace H := aj.mk H
 go_enter Try.func32, Try.ntmps32
 replace H := H.out
 by_cases c3 : (l0.length : Int) = (l1.length : Int)
 ·rw [if_pos c3] at H
  have c3b0 : ((l0.length : Int) == (l1.length : Int)) = true := beq_iff_eq.mpr c3
  have c3b1 : ((l0.length : Int) != (l1.length : Int)) = false := bne_eq_false_iff_eq.mpr c3
  have c3b2 : (l0.length == l1.length) = true := by first | simpa using c3 | (simp at c3 ⊢; omega)
  clear c3
  have H' := aj.mk H
  clear H
  try go_wp2
  go_loopg [5] k (fun kq v5 w' => ∃ (x5_1 : Int), v5 = .int .i64 x5_1 ∧ aj (aX.l0 kq l0 l1 x5_1 = some r) ∧ aj (kq ≤ k) ∧ aj (Below w.heap.size w w'))
  case atStart => exact ⟨(0), EQ, H', ⟨Nat.le_refl _⟩, ⟨BL⟩⟩
  case round =>
   clear H'
   try clear c1
   try clear c3
   try clear c3b0
   try clear c3b1
   try clear c3b2
   obtain ⟨x5_1, rfl, HA, HK1, HB⟩ := hrel
   cases gk with
   | zero => exact absurd HA.out (by simp [aX.l0])
   | succ k1 =>
    have H := HA.out
    clear HA
    simp only [aX.l0] at H
    replace H := ifD H; rcases H with ⟨c4b0, H⟩ | ⟨c4b0, H⟩
    ·replace H := ifN H; obtain ⟨c5b0, H⟩ := H
     replace H := ifN H; obtain ⟨c6b0, H⟩ := H
     replace H := be H; obtain ⟨t212, A7, H⟩ := H
     replace H := aj.mk H
     try go_wp2
     replace HB := aj.mk (dM HB.out)
     have p210 : 0 ≤ (x5_1 : Int) := OD
     have q210 : x5_1 < (l0.length : Int) := OD
     obtain ⟨ad210, e210, hx210_0, hx210_1, hx210_2, hx210_3⟩ := dD HR0.out x5_1 p210 q210
     have hw210_3 := hx210_3
     have hw210_2 := hx210_2
     have hw210_1 := hx210_1
     have hw210_0 := hx210_0
     cases e210
     try replace hx210_0 := (HB.out.cell (World.block_lt_of_cell? w _ hx210_0)).trans hx210_0
     try replace hx210_1 := (HB.out.cell (World.block_lt_of_cell? w _ hx210_1)).trans hx210_1
     try replace hx210_2 := (HB.out.cell (World.block_lt_of_cell? w _ hx210_2)).trans hx210_2
     try replace hx210_3 := (HB.out.cell (World.block_lt_of_cell? w _ hx210_3)).trans hx210_3
     replace p210 := eq_true p210
     replace q210 := eq_true q210
     have p211 : 0 ≤ (x5_1 : Int) := OD
     have q211 : x5_1 < (l1.length : Int) := OD
     obtain ⟨ad211, e211, hx211_0, hx211_1, hx211_2, hx211_3⟩ := dD HR1.out x5_1 p211 q211
     have hw211_3 := hx211_3
     have hw211_2 := hx211_2
     have hw211_1 := hx211_1
     have hw211_0 := hx211_0
     cases e211
     try replace hx211_0 := (HB.out.cell (World.block_lt_of_cell? w _ hx211_0)).trans hx211_0
     try replace hx211_1 := (HB.out.cell (World.block_lt_of_cell? w _ hx211_1)).trans hx211_1
     try replace hx211_2 := (HB.out.cell (World.block_lt_of_cell? w _ hx211_2)).trans hx211_2
     try replace hx211_3 := (HB.out.cell (World.block_lt_of_cell? w _ hx211_3)).trans hx211_3
     replace p211 := eq_true p211
     replace q211 := eq_true q211
     refine fQ (n := 10) (S := fun w' => w'.cell? (ad210.add ((x5_1).toNat * 4)) = some (.int .i64 ((ah l0 x5_1).f0)) ∧ w'.cell? ⟨(ad210.add ((x5_1).toNat * 4)).block, (ad210.add ((x5_1).toNat * 4)).off + 1, none⟩ = some (.string ((ah l0 x5_1).f1)) ∧ w'.cell? ⟨(ad210.add ((x5_1).toNat * 4)).block, (ad210.add ((x5_1).toNat * 4)).off + 2, none⟩ = some (.int .i64 ((ah l0 x5_1).f2)) ∧ w'.cell? ⟨(ad210.add ((x5_1).toNat * 4)).block, (ad210.add ((x5_1).toNat * 4)).off + 3, none⟩ = some (.int .i64 ((ah l0 x5_1).f3)) ∧ w'.cell? (ad211.add ((x5_1).toNat * 4)) = some (.int .i64 ((ah l1 x5_1).f0)) ∧ w'.cell? ⟨(ad211.add ((x5_1).toNat * 4)).block, (ad211.add ((x5_1).toNat * 4)).off + 1, none⟩ = some (.string ((ah l1 x5_1).f1)) ∧ w'.cell? ⟨(ad211.add ((x5_1).toNat * 4)).block, (ad211.add ((x5_1).toNat * 4)).off + 2, none⟩ = some (.int .i64 ((ah l1 x5_1).f2)) ∧ w'.cell? ⟨(ad211.add ((x5_1).toNat * 4)).block, (ad211.add ((x5_1).toNat * 4)).off + 3, none⟩ = some (.int .i64 ((ah l1 x5_1).f3))) (ds := []) #[F,F,F,F,F,F,F,F,F,F] (by kernel_rfl) rfl rfl ⟨((HB.out.cell (World.block_lt_of_cell? w _ hw210_0)).trans hw210_0), ((HB.out.cell (World.block_lt_of_cell? w _ hw210_1)).trans hw210_1), ((HB.out.cell (World.block_lt_of_cell? w _ hw210_2)).trans hw210_2), ((HB.out.cell (World.block_lt_of_cell? w _ hw210_3)).trans hw210_3), ((HB.out.cell (World.block_lt_of_cell? w _ hw211_0)).trans hw211_0), ((HB.out.cell (World.block_lt_of_cell? w _ hw211_1)).trans hw211_1), ((HB.out.cell (World.block_lt_of_cell? w _ hw211_2)).trans hw211_2), ((HB.out.cell (World.block_lt_of_cell? w _ hw211_3)).trans hw211_3)⟩ (fun hHeld => ?_); refine eP aX.qP aX.qL (fun HT_ HW_ => ?_)
     generalize wr.drew = w9000 at HB hx210_0 hx210_1 hx210_2 hx210_3 hx211_0 hx211_1 hx211_2 hx211_3 hHeld ⊢
     refine puS (i := 0) (N := some 17) #[T,F,F,F,F,F,F,F,F,F] (bf HT_.out (by kernel_rfl)) ?_
     refine puS (i := 1) (N := some 18) #[T,T,F,F,F,F,F,F,F,F] (bf HT_.out (by kernel_rfl)) ?_
     refine puS (i := 2) (N := some 19) #[T,T,T,F,F,F,F,F,F,F] (bf HT_.out (by kernel_rfl)) ?_
     refine puS (i := 4) (N := some 21) #[T,T,T,F,T,F,F,F,F,F] (bf HT_.out (by kernel_rfl)) ?_
     refine puS (i := 5) (N := some 22) #[T,T,T,F,T,T,F,F,F,F] (bf HT_.out (by kernel_rfl)) ?_
     refine puS (i := 6) (N := some 23) #[T,T,T,F,T,T,T,F,F,F] (bf HT_.out (by kernel_rfl)) ?_
     refine taS (i := 3) (N := some 20) #[T,T,T,T,T,T,T,F,F,F] (dw HT_.out HW_.out (by kernel_rfl)) hHeld ?_
     refine taS (i := 7) (N := some 24) #[T,T,T,T,T,T,T,T,F,F] (dw HT_.out HW_.out (by kernel_rfl)) hHeld ?_
     refine jv (i := 8) (N := some 25) #[T,T,T,T,T,T,T,T,T,F] rfl rfl (gu HT_.out (by kernel_rfl)) (by decide) (fun K hK => ?_)
     refine jU Try.func79 #[.agg #[.int .i64 ((ah l0 x5_1).f0), .string ((ah l0 x5_1).f1), .int .i64 ((ah l0 x5_1).f2), .int .i64 ((ah l0 x5_1).f3)], .agg #[.int .i64 ((ah l1 x5_1).f0), .string ((ah l1 x5_1).f1), .int .i64 ((ah l1 x5_1).f2), .int .i64 ((ah l1 x5_1).f3)]] ?_
     with_reducible refine (eU.calls ((ah l0 x5_1).f0) ((ah l0 x5_1).f1) ((ah l0 x5_1).f2) ((ah l0 x5_1).f3) ((ah l1 x5_1).f0) ((ah l1 x5_1).f1) ((ah l1 x5_1).f2) ((ah l1 x5_1).f3) _ _ A7.out).mono ?_
     rintro e w9001 ⟨rfl, hb⟩
     refine ⟨_, rfl, ?_⟩
     replace HB := BS (w := w) hb
     (try clear hb)
     refine hK.out _ _ ⟨((HB.out.cell (World.block_lt_of_cell? w _ hw210_0)).trans hw210_0), ((HB.out.cell (World.block_lt_of_cell? w _ hw210_1)).trans hw210_1), ((HB.out.cell (World.block_lt_of_cell? w _ hw210_2)).trans hw210_2), ((HB.out.cell (World.block_lt_of_cell? w _ hw210_3)).trans hw210_3), ((HB.out.cell (World.block_lt_of_cell? w _ hw211_0)).trans hw211_0), ((HB.out.cell (World.block_lt_of_cell? w _ hw211_1)).trans hw211_1), ((HB.out.cell (World.block_lt_of_cell? w _ hw211_2)).trans hw211_2), ((HB.out.cell (World.block_lt_of_cell? w _ hw211_3)).trans hw211_3)⟩ (fun hHeld => ?_)
     clear hK K
     refine nrm (some 25) ?_
     replace H := H.out
     replace H := ifB H; rcases H with ⟨rfl, H⟩ | ⟨rfl, H⟩
     ·have H' := aj.mk H
      clear H
      refine puS (i := 9) (N := some 26) #[T,T,T,T,T,T,T,T,T,T] (bf HT_.out (by kernel_rfl)) ?_
      refine gV (fJ HT_.out (by kernel_rfl)) ?_
      try go_wp2
      go_roundg k1
      case measure => have := HK1.out; omega
      case rel => exact ⟨(wrap64 (x5_1 + 1)), EQ, H', ⟨by have := HK1.out; omega⟩, ⟨BL⟩⟩
     ·obtain rfl := Option.some.inj H
      refine puS (i := 9) (N := some 26) #[T,T,T,T,T,T,T,T,T,T] (bf HT_.out (by kernel_rfl)) ?_
      refine gV (fJ HT_.out (by kernel_rfl)) ?_
      try go_wp2
      go_ret
      exact ⟨EWW, BL⟩
    ·obtain rfl := Option.some.inj H
     go_wp2
     go_ret
     exact ⟨EWW, BL⟩
 ·rw [if_neg c3] at H
  have c3b0 : ((l0.length : Int) == (l1.length : Int)) = false := beq_eq_false_iff_ne.mpr c3
  have c3b1 : ((l0.length : Int) != (l1.length : Int)) = true := bne_iff_ne.mpr c3
  have c3b2 : (l0.length == l1.length) = false := by first | simpa using c3 | (simp at c3 ⊢; omega)
  obtain rfl := Option.some.inj H
  try go_wp2
  go_ret
  exact ⟨EWW, BL⟩
def aT.l0 : Nat → Int → ByteArray → Option (ByteArray)
 | 0, _, _ => none
 | k + 1, a, b => if a > 0 then ((some (([(wrap64 (48 + (Int.tmod a 10))) % 256] : List Int) : List Int)).bind fun c => (if (strOfNums c).size + b.size ≤ 9223372036854775807 then (aT.l0 k (wrap64 (Int.tdiv a 10)) ((strOfNums c) ++ b)) else (none))) else (if 1 + b.size ≤ 9223372036854775807 then (some ((⟨#[109]⟩ : ByteArray) ++ b)) else (none))
def aT.f (k : Nat) (a0 : Int) : Option (ByteArray) := if a0 ≤ 0 then (some (⟨#[109, 48]⟩ : ByteArray)) else (aT.l0 k a0 (⟨#[]⟩ : ByteArray))
theorem aT.calls (k : Nat) (a0 : Int) (r : ByteArray) (w : World) (h : aT.f k a0 = some r) :
  Calls Try.prog 59 #[.int .i64 a0] w fun e w' => e = .returned (.string r) ∧ Below w.heap.size w w' := by
 have HB := aj.mk (Below.refl w.heap.size w)
 unfold aT.f at h
 have H := h
 clear h
 replace H := aj.mk H
 go_enter Try.func59, Try.ntmps59
 replace H := H.out
 replace H := ifD H; rcases H with ⟨c2b0, H⟩ | ⟨c2b0, H⟩
 ·obtain rfl := Option.some.inj H
  try go_wp2
  go_ret
  exact ⟨EWW, BL⟩
 ·have H' := aj.mk H
  clear H
  try go_wp2
  go_loopg [0, 3] k (fun kq v0 v3 w' => ∃ (x0_1 : Int) (x3_1 : ByteArray), v0 = .int .i64 x0_1 ∧ v3 = .string x3_1 ∧ aj (aT.l0 kq x0_1 x3_1 = some r) ∧ aj (kq ≤ k) ∧ aj (Below w.heap.size w w'))
  case atStart => exact ⟨(a0), ((⟨#[]⟩ : ByteArray)), EQ, EQ, H', ⟨Nat.le_refl _⟩, ⟨BL⟩⟩
  case round =>
   clear H'
   try clear c2
   try clear c2b0
   obtain ⟨x0_1, x3_1, rfl, rfl, HA, HK1, HB⟩ := hrel
   cases gk with
   | zero => exact absurd HA.out (by simp [aT.l0])
   | succ k1 =>
    have H := HA.out
    clear HA
    simp only [aT.l0] at H
    by_cases c3 : x0_1 > 0
    ·rw [if_pos c3] at H
     have c3b0 : decide (0 < x0_1) = true := decide_eq_true c3
     clear c3
     obtain ⟨y213, hy213⟩ : ∃ y_ : List Int, y_ = (([(wrap64 (48 + (Int.tmod x0_1 10))) % 256] : List Int)) := ⟨_, rfl⟩
     replace H : (if (strOfNums y213).size + x3_1.size ≤ 9223372036854775807 then (aT.l0 k1 (wrap64 (Int.tdiv x0_1 10)) ((strOfNums y213) ++ x3_1)) else (none)) = some r := by first | (rw [hy213]; with_reducible exact H) | (have H2_ := (Option.bind_some _ _).symm.trans H; rw [hy213]; with_reducible exact H2_) | (have H2_ := (Option.bind_some _ _).symm.trans H; with_reducible exact H2_) | with_reducible exact H | (rw [hy213]; exact H) | exact H
     have Ny213 := aj.mk hy213
     clear hy213
     replace H := ifP H; obtain ⟨c4, H⟩ := H
     have c4b0 := eq_true c4
     have c4b1 : decide ((strOfNums y213).size + x3_1.size ≤ 9223372036854775807) = true := decide_eq_true c4
     try have c4b2 : (9223372036854775807 < (strOfNums y213).size + x3_1.size) = False := eq_false (Nat.not_lt.2 c4)
     have H' := aj.mk H
     clear H
     go_wp2_with (first | ((with_reducible refine bR (N := 12) rfl ?_); refine Kd.iR (Kd.int .u8) _ 5 ?hg (N := 12) ?hd (xs := ([(wrap64 (48 + (Int.tmod x0_1 10))) % 256] : List Int)) (inner := [.int .u8 ((wrap64 (48 + (Int.tmod x0_1 10))) % 256)]) (ok := fun _ => True) (okp := fun _ => True) ?hr ?hp (fun _ hk => hk) trivial (Below.refl _ _) (Nat.le_refl _) (by simp) ?_; (case hd => rfl); (case hg => rfl); (case hr => first | (go_simp; done) | (go_simp; rfl)); (case hp => exact (bT.one (show Kd.M (Kd.int .u8) _ _ _ ((wrap64 (48 + (Int.tmod x0_1 10))) % 256) [.int .u8 ((wrap64 (48 + (Int.tmod x0_1 10))) % 256)] from rfl) (bT.none _ _))); intro v214 w9000 ho6 hb hg_ hnew_; clear hg_ hnew_; (first | rw [← Ny213.out] at ho6 | (simp only [Int.reduceToNat] at ho6; rw [← Ny213.out] at ho6)); have n0_ := aj.mk (Kd.dV ho6 (aW BL)); replace HB := BS (w := w) hb; have HO215 := n0_; clear n0_; clear hb ho6; have hcv7 := nA (P := Try.prog) Try.underlying36 Try.underlying5 Try.underlying9 (Kd.oL HO215.out)))
     go_roundg k1
     case measure => have := HK1.out; omega
     case rel => exact ⟨(wrap64 (Int.tdiv x0_1 10)), ((strOfNums y213) ++ x3_1), EQ, EQ, H', ⟨by have := HK1.out; omega⟩, ⟨BL⟩⟩
    ·rw [if_neg c3] at H
     have c3b0 : decide (0 < x0_1) = false := decide_eq_false c3
     clear c3
     replace H := ifP H; obtain ⟨c8, H⟩ := H
     have c8b0 := eq_true c8
     have c8b1 : decide (1 + x3_1.size ≤ 9223372036854775807) = true := decide_eq_true c8
     try have c8b2 : (9223372036854775807 < 1 + x3_1.size) = False := eq_false (Nat.not_lt.2 c8)
     obtain rfl := Option.some.inj H
     go_wp2
     go_ret
     exact ⟨EWW, BL⟩
def bq.l0 : Nat → List (aA) → Int → Int → Option (Int × (List (aA)))
 | 0, _, _, _ => none
 | k + 1, a, b, c => if c < (a.length : Int) then (if 0 ≤ c then ((some (a.set (c : Int).toNat (⟨b, (ah a c).f1, (ah a c).f2, (ah a c).f3⟩ : aA) : List (aA))).bind fun d => ((aT.f k (wrap64 (b + 1))).bind fun e => ((some (d.set (c : Int).toNat (⟨(ah d c).f0, e, (ah d c).f2, (ah d c).f3⟩ : aA) : List (aA))).bind fun f => ((some (f.set (c : Int).toNat (⟨(ah f c).f0, (ah f c).f1, wrap64 ((wrap64 (b + 1)) + 1), (ah f c).f3⟩ : aA) : List (aA))).bind fun g => (bq.l0 k (g.set (c : Int).toNat (⟨(ah g c).f0, (ah g c).f1, (ah g c).f2, wrap64 ((wrap64 ((wrap64 (b + 1)) + 1)) + 1)⟩ : aA)) (wrap64 ((wrap64 ((wrap64 ((wrap64 (b + 1)) + 1)) + 1)) + 1)) (wrap64 (c + 1))))))) else (none)) else (some (b, a))
def bq.f (k : Nat) (l0 : List (aA)) (a1 : Int) : Option (Int × (List (aA))) := bq.l0 k l0 a1 0
theorem bq.calls (k : Nat) (P0_ : Nat → Prop) (u9000_ : Value) (l0 : List (aA)) (a1 r1 : Int) (r2 : List (aA)) (w0 w : World) (hB : Below w0.heap.size w0 w) (ho0 : Kd.R bQ 110 w w0.heap.size P0_ u9000_ l0) (h : bq.f k l0 a1 = some (r1, r2)) :
  Calls Try.prog 33 #[u9000_, .int .i64 a1] w fun e w' => e = .returned (.int .i64 r1) ∧ Kd.R bQ 110 w' w0.heap.size (fun k_ => (P0_ k_ ∨ w.heap.size ≤ k_)) u9000_ r2 ∧ Below w0.heap.size w0 w' ∧ Kept w w' (fun k_ => P0_ k_) := by
 have HO0 := aj.mk (show Kd.R bQ 110 w w0.heap.size (fun k_ => (P0_ k_ ∨ w.heap.size ≤ k_)) u9000_ l0 from Kd.aQ ho0 (fun k_ hk => (.inl hk)))
 have HK := aj.mk (Kept.refl w (fun k_ => P0_ k_))
 have HW0 := aj.mk hB.size
 have HB := aj.mk hB
 clear hB
 unfold bq.f at h
 have H := h
 clear h
 have H' := aj.mk H
 clear H
 go_enter Try.func33, Try.ntmps33
 go_wp2
 go_loopg [1, 5] k (fun kq v1 v5 w' => ∃ (x0_1 : List (aA)) (x1_1 : Int) (x5_1 : Int), v1 = .int .i64 x1_1 ∧ v5 = .int .i64 x5_1 ∧ aj (bq.l0 kq x0_1 x1_1 x5_1 = some (r1, r2)) ∧ aj (kq ≤ k) ∧ aj (Kd.R bQ 110 w' w0.heap.size (fun k_ => (P0_ k_ ∨ w.heap.size ≤ k_)) u9000_ x0_1) ∧ aj (Kept w w' (fun k_ => P0_ k_)) ∧ aj (Below w0.heap.size w0 w'))
 case atStart => exact ⟨(l0), (a1), (0), EQ, EQ, H', ⟨Nat.le_refl _⟩, ⟨(RR HO0)⟩, ⟨by repeat (first | (with_reducible first | exact HK.out | apply Kept.alloc | apply Kept.drewN | apply Kept.drew) | exact HK.out)⟩, ⟨BL⟩⟩
 case round =>
  clear H'
  obtain ⟨x0_1, x1_1, x5_1, rfl, rfl, HA, HK1, HO_0, HK, HB⟩ := hrel
  cases gk with
  | zero => exact absurd HA.out (by simp [bq.l0])
  | succ k1 =>
   have H := HA.out
   clear HA
   simp only [bq.l0] at H
   obtain ⟨Ao7000, co7000, eo7000⟩ := Kd.bG HO_0.out
   subst eo7000
   replace H := ifD H; rcases H with ⟨c3b0, H⟩ | ⟨c3b0, H⟩
   ·replace H := ifN H; obtain ⟨c4b0, H⟩ := H
    obtain ⟨y216, hy216⟩ : ∃ y_ : List (aA), y_ = (x0_1.set (x5_1 : Int).toNat (⟨x1_1, (ah x0_1 x5_1).f1, (ah x0_1 x5_1).f2, (ah x0_1 x5_1).f3⟩ : aA)) := ⟨_, rfl⟩
    replace H : ((aT.f k1 (wrap64 (x1_1 + 1))).bind fun t217 => ((some (y216.set (x5_1 : Int).toNat (⟨(ah y216 x5_1).f0, t217, (ah y216 x5_1).f2, (ah y216 x5_1).f3⟩ : aA) : List (aA))).bind fun y218 => ((some (y218.set (x5_1 : Int).toNat (⟨(ah y218 x5_1).f0, (ah y218 x5_1).f1, wrap64 ((wrap64 (x1_1 + 1)) + 1), (ah y218 x5_1).f3⟩ : aA) : List (aA))).bind fun y219 => (bq.l0 k1 (y219.set (x5_1 : Int).toNat (⟨(ah y219 x5_1).f0, (ah y219 x5_1).f1, (ah y219 x5_1).f2, wrap64 ((wrap64 ((wrap64 (x1_1 + 1)) + 1)) + 1)⟩ : aA)) (wrap64 ((wrap64 ((wrap64 ((wrap64 (x1_1 + 1)) + 1)) + 1)) + 1)) (wrap64 (x5_1 + 1)))))) = some (r1, r2) := by first | (rw [hy216]; with_reducible exact H) | (have H2_ := (Option.bind_some _ _).symm.trans H; rw [hy216]; with_reducible exact H2_) | (have H2_ := (Option.bind_some _ _).symm.trans H; with_reducible exact H2_) | with_reducible exact H | (rw [hy216]; exact H) | exact H
    have Ny216 := aj.mk hy216
    clear hy216
    replace H := be H; obtain ⟨t217, A6, H⟩ := H
    obtain ⟨y218, hy218⟩ : ∃ y_ : List (aA), y_ = (y216.set (x5_1 : Int).toNat (⟨(ah y216 x5_1).f0, t217, (ah y216 x5_1).f2, (ah y216 x5_1).f3⟩ : aA)) := ⟨_, rfl⟩
    replace H : ((some (y218.set (x5_1 : Int).toNat (⟨(ah y218 x5_1).f0, (ah y218 x5_1).f1, wrap64 ((wrap64 (x1_1 + 1)) + 1), (ah y218 x5_1).f3⟩ : aA) : List (aA))).bind fun y219 => (bq.l0 k1 (y219.set (x5_1 : Int).toNat (⟨(ah y219 x5_1).f0, (ah y219 x5_1).f1, (ah y219 x5_1).f2, wrap64 ((wrap64 ((wrap64 (x1_1 + 1)) + 1)) + 1)⟩ : aA)) (wrap64 ((wrap64 ((wrap64 ((wrap64 (x1_1 + 1)) + 1)) + 1)) + 1)) (wrap64 (x5_1 + 1)))) = some (r1, r2) := by first | (rw [hy218]; with_reducible exact H) | (have H2_ := (Option.bind_some _ _).symm.trans H; rw [hy218]; with_reducible exact H2_) | (have H2_ := (Option.bind_some _ _).symm.trans H; with_reducible exact H2_) | with_reducible exact H | (rw [hy218]; exact H) | exact H
    have Ny218 := aj.mk hy218
    clear hy218
    obtain ⟨y219, hy219⟩ : ∃ y_ : List (aA), y_ = (y218.set (x5_1 : Int).toNat (⟨(ah y218 x5_1).f0, (ah y218 x5_1).f1, wrap64 ((wrap64 (x1_1 + 1)) + 1), (ah y218 x5_1).f3⟩ : aA)) := ⟨_, rfl⟩
    replace H : (bq.l0 k1 (y219.set (x5_1 : Int).toNat (⟨(ah y219 x5_1).f0, (ah y219 x5_1).f1, (ah y219 x5_1).f2, wrap64 ((wrap64 ((wrap64 (x1_1 + 1)) + 1)) + 1)⟩ : aA)) (wrap64 ((wrap64 ((wrap64 ((wrap64 (x1_1 + 1)) + 1)) + 1)) + 1)) (wrap64 (x5_1 + 1))) = some (r1, r2) := by first | (rw [hy219]; with_reducible exact H) | (have H2_ := (Option.bind_some _ _).symm.trans H; rw [hy219]; with_reducible exact H2_) | (have H2_ := (Option.bind_some _ _).symm.trans H; with_reducible exact H2_) | with_reducible exact H | (rw [hy219]; exact H) | exact H
    have Ny219 := aj.mk hy219
    clear hy219
    obtain ⟨y220, hy220⟩ : ∃ y_ : List (aA), y_ = (y219.set (x5_1 : Int).toNat (⟨(ah y219 x5_1).f0, (ah y219 x5_1).f1, (ah y219 x5_1).f2, wrap64 ((wrap64 ((wrap64 (x1_1 + 1)) + 1)) + 1)⟩ : aA)) := ⟨_, rfl⟩
    replace H : (bq.l0 k1 y220 (wrap64 ((wrap64 ((wrap64 ((wrap64 (x1_1 + 1)) + 1)) + 1)) + 1)) (wrap64 (x5_1 + 1))) = some (r1, r2) := by first | (rw [hy220]; with_reducible exact H) | (have H2_ := (Option.bind_some _ _).symm.trans H; rw [hy220]; with_reducible exact H2_) | (have H2_ := (Option.bind_some _ _).symm.trans H; with_reducible exact H2_) | with_reducible exact H | (rw [hy220]; exact H) | exact H
    have Ny220 := aj.mk hy220
    clear hy220
    have H' := aj.mk H
    clear H
    have p5 : 0 ≤ (x5_1 : Int) := OD
    have q5 : (x5_1 : Int) < ((x0_1.length : Int) : Int) := OD
    obtain ⟨go5, co7001, eo7001, gb5, gl5, cl5, HG5⟩ := Kd.qy HO_0.out (by omega)
    (first | cases eo7001 | (injection eo7001 with ea_ en_ ec_; (first | subst ea_ | (injection ea_ with ea_; subst ea_)); subst ec_; clear en_))
    have GB5 := aj.mk gb5
    have GG5 := aj.mk HG5
    clear gb5 gl5 HG5
    have HMgo5 := aj.mk (show (P0_ go5 ∨ w.heap.size ≤ go5) from (HO_0.out.1 _ rfl))
    obtain ⟨ce5, hcl5, hM5, hcc5, hfr5⟩ := Kd.gY HO_0.out lH (x5_1 : Int) p5 q5
    obtain rfl := dW hM5
    have hx5_0 : wr.cell? ⟨go5, (x5_1 : Int).toNat * 4, none⟩ = some (.int .i64 ((ah x0_1 x5_1).f0)) := hcc5 0 _ rfl
    have hx5_1 : wr.cell? ⟨go5, (x5_1 : Int).toNat * 4 + 1, none⟩ = some (.string ((ah x0_1 x5_1).f1)) := hcc5 1 _ rfl
    have hx5_2 : wr.cell? ⟨go5, (x5_1 : Int).toNat * 4 + 2, none⟩ = some (.int .i64 ((ah x0_1 x5_1).f2)) := hcc5 2 _ rfl
    have hx5_3 : wr.cell? ⟨go5, (x5_1 : Int).toNat * 4 + 3, none⟩ = some (.int .i64 ((ah x0_1 x5_1).f3)) := hcc5 3 _ rfl
    have hf5_0 : wr.frozen? ⟨go5, (x5_1 : Int).toNat * 4, none⟩ = false := hfr5 0
    have hf5_1 : wr.frozen? ⟨go5, (x5_1 : Int).toNat * 4 + 1, none⟩ = false := hfr5 1
    have hf5_2 : wr.frozen? ⟨go5, (x5_1 : Int).toNat * 4 + 2, none⟩ = false := hfr5 2
    have hf5_3 : wr.frozen? ⟨go5, (x5_1 : Int).toNat * 4 + 3, none⟩ = false := hfr5 3
    clear hcl5 hcc5 hfr5 hM5
    replace p5 := eq_true p5
    replace q5 := eq_true q5
    have HX11 := aj.mk (show Kd.R bQ 110 wr w0.heap.size (fun k_ => (P0_ k_ ∨ w.heap.size ≤ k_)) (.slice (some ⟨go5, 0, none⟩) x0_1.length co7000) x0_1 from (RR HO_0))
    obtain ⟨ce11, hcl11, hM11, hcc11, hfr11⟩ := Kd.gY HX11.out lH (x5_1 : Int) (OD) (by have h_ : (x5_1 : Int) < ((x0_1.length : Int) : Int) := OD; first | exact h_ | (have e_ := (Kd.bF HO_0.out).1; omega) | simpa using h_)
    obtain rfl := dW hM11
    have HP11 := Kd.nK HX11.out (x5_1 : Int) (OD) (by have h_ : (x5_1 : Int) < ((x0_1.length : Int) : Int) := OD; first | exact h_ | (have e_ := (Kd.bF HO_0.out).1; omega) | simpa using h_) (seg := [.int .i64 x1_1]) (j := 0) hcl11 hcc11 (show 1 ≤ 4 from by decide) (x' := (⟨x1_1, (ah x0_1 x5_1).f1, (ah x0_1 x5_1).f2, (ah x0_1 x5_1).f3⟩ : aA)) (bX _ _ _ (⟨x1_1, (ah x0_1 x5_1).f1, (ah x0_1 x5_1).f2, (ah x0_1 x5_1).f3⟩ : aA) ) (fun _ hk => hk)
    have hx11_0 := hcc11 0 _ rfl
    (try simp only [show (bQ).sz = 4 from rfl, Nat.mul_one, Nat.add_zero] at hx11_0)
    have hf11_0 := hfr11 0
    (try simp only [show (bQ).sz = 4 from rfl, Nat.mul_one, Nat.add_zero] at hf11_0)
    clear hcl11 hcc11 hfr11 hM11
    go_wp2_with (first | ((with_reducible refine gP (t := 3) (p := 16) rfl ?_); refine fV (t := 3) (p := 16) (v := ?vo_w12) (w1 := (wr.setCell ⟨go5, (x5_1 : Int).toNat * 4, none⟩ (.int .i64 x1_1))) ?hg ?ho ?hn ?hr ?_; (case ho => rfl); (case hg => rfl); (case hn => rfl); (case hr => first | (go_simp; done) | (go_simp; rfl)); intro w7002 hw; have hg : wr.grownBy w7002 (some go5) := (by rw [hw]; exact HP11.2); have hp_ : Kd.R bQ 110 w7002 w0.heap.size (fun k_ => (P0_ k_ ∨ w.heap.size ≤ k_)) (.slice (some ⟨go5, 0, none⟩) x0_1.length co7000) y216 := (by rw [hw, Ny216.out]; exact HP11.1); clear HP11; have n0_ := aj.mk (hp_); have n1_ := aj.mk ((by rw [hw]; exact fD (HB.out) GB5.out : Below w0.heap.size w0 w7002)); have n2_ := aj.mk (Kept.bY (S := (fun k_ => P0_ k_)) hg (by repeat (first | (with_reducible first | exact HK.out | apply Kept.alloc | apply Kept.drewN | apply Kept.drew) | exact HK.out)) (fun k_ e_ => (HO_0.out.1 k_ e_))); clear HO_0 HB HK; have HO_0 := n0_; have HB := n1_; have HK := n2_; clear n0_ n1_ n2_; clear hg hw hp_) | ((with_reducible refine aV (f := 59) rfl ?_); refine dF (some 22) Try.func59 #[.int .i64 (wrap64 (x1_1 + 1))] ?_; (with_reducible refine (aT.calls k1 (wrap64 (x1_1 + 1)) t217 _ A6.out).mono ?_); rintro e w7003 ⟨rfl, hb⟩; refine ⟨_, rfl, ?_⟩; have n0_ := RB HO_0 hb; have n1_ := aj.mk (Kept.below (S := (fun k_ => P0_ k_)) (by repeat (first | (with_reducible first | exact HK.out | apply Kept.alloc | apply Kept.drewN | apply Kept.drew) | exact HK.out)) hb); have n2_ := BS (w := w0) hb; clear HO_0 HK HB; have HO_0 := n0_; have HK := n1_; have HB := n2_; clear n0_ n1_ n2_; (try clear hb); (try clear hk); have p7 : 0 ≤ (x5_1 : Int) := OD; have q7 : (x5_1 : Int) < ((x0_1.length : Int) : Int) := OD; obtain ⟨ce7, hcl7, hM7, hcc7, hfr7⟩ := Kd.gY HO_0.out lH (x5_1 : Int) p7 q7; obtain rfl := dW hM7; have hx7_0 : w7003.cell? ⟨go5, (x5_1 : Int).toNat * 4, none⟩ = some (.int .i64 ((ah y216 x5_1).f0)) := hcc7 0 _ rfl; have hx7_1 : w7003.cell? ⟨go5, (x5_1 : Int).toNat * 4 + 1, none⟩ = some (.string ((ah y216 x5_1).f1)) := hcc7 1 _ rfl; have hx7_2 : w7003.cell? ⟨go5, (x5_1 : Int).toNat * 4 + 2, none⟩ = some (.int .i64 ((ah y216 x5_1).f2)) := hcc7 2 _ rfl; have hx7_3 : w7003.cell? ⟨go5, (x5_1 : Int).toNat * 4 + 3, none⟩ = some (.int .i64 ((ah y216 x5_1).f3)) := hcc7 3 _ rfl; have hf7_0 : w7003.frozen? ⟨go5, (x5_1 : Int).toNat * 4, none⟩ = false := hfr7 0; have hf7_1 : w7003.frozen? ⟨go5, (x5_1 : Int).toNat * 4 + 1, none⟩ = false := hfr7 1; have hf7_2 : w7003.frozen? ⟨go5, (x5_1 : Int).toNat * 4 + 2, none⟩ = false := hfr7 2; have hf7_3 : w7003.frozen? ⟨go5, (x5_1 : Int).toNat * 4 + 3, none⟩ = false := hfr7 3; clear hcl7 hcc7 hfr7 hM7; replace p7 := eq_true p7; replace q7 := eq_true q7; have HX14 := aj.mk (show Kd.R bQ 110 w7003 w0.heap.size (fun k_ => (P0_ k_ ∨ w.heap.size ≤ k_)) (.slice (some ⟨go5, 0, none⟩) x0_1.length co7000) y216 from (RR HO_0)); obtain ⟨ce14, hcl14, hM14, hcc14, hfr14⟩ := Kd.gY HX14.out lH (x5_1 : Int) (OD) (by have h_ : (x5_1 : Int) < ((x0_1.length : Int) : Int) := OD; first | exact h_ | (have e_ := (Kd.bF HO_0.out).1; omega) | simpa using h_); obtain rfl := dW hM14; have HP14 := Kd.nK HX14.out (x5_1 : Int) (OD) (by have h_ : (x5_1 : Int) < ((x0_1.length : Int) : Int) := OD; first | exact h_ | (have e_ := (Kd.bF HO_0.out).1; omega) | simpa using h_) (seg := [.string t217]) (j := 1) hcl14 hcc14 (show 2 ≤ 4 from by decide) (x' := (⟨(ah y216 x5_1).f0, t217, (ah y216 x5_1).f2, (ah y216 x5_1).f3⟩ : aA)) (bX _ _ _ (⟨(ah y216 x5_1).f0, t217, (ah y216 x5_1).f2, (ah y216 x5_1).f3⟩ : aA) ) (fun _ hk => hk); have hx14_1 := hcc14 1 _ rfl; (try simp only [show (bQ).sz = 4 from rfl, Nat.mul_one, Nat.add_zero] at hx14_1); have hf14_1 := hfr14 1; (try simp only [show (bQ).sz = 4 from rfl, Nat.mul_one, Nat.add_zero] at hf14_1); clear hcl14 hcc14 hfr14 hM14) | ((with_reducible refine gP (t := 9) (p := 24) rfl ?_); refine fV (t := 9) (p := 24) (v := ?vo_w15) (w1 := (w7003.setCell ⟨go5, (x5_1 : Int).toNat * 4 + 1, none⟩ (.string t217))) ?hg ?ho ?hn ?hr ?_; (case ho => rfl); (case hg => rfl); (case hn => rfl); (case hr => first | (go_simp; done) | (go_simp; rfl)); intro w7004 hw; have hg : w7003.grownBy w7004 (some go5) := (by rw [hw]; exact HP14.2); have hp_ : Kd.R bQ 110 w7004 w0.heap.size (fun k_ => (P0_ k_ ∨ w.heap.size ≤ k_)) (.slice (some ⟨go5, 0, none⟩) x0_1.length co7000) y218 := (by rw [hw, Ny218.out]; exact HP14.1); clear HP14; have n0_ := aj.mk (hp_); have n1_ := aj.mk ((by rw [hw]; exact fD (HB.out) GB5.out : Below w0.heap.size w0 w7004)); have n2_ := aj.mk (Kept.bY (S := (fun k_ => P0_ k_)) hg (by repeat (first | (with_reducible first | exact HK.out | apply Kept.alloc | apply Kept.drewN | apply Kept.drew) | exact HK.out)) (fun k_ e_ => (HO_0.out.1 k_ e_))); clear HO_0 HB HK; have HO_0 := n0_; have HB := n1_; have HK := n2_; clear n0_ n1_ n2_; clear hg hw hp_; have p8 : 0 ≤ (x5_1 : Int) := OD; have q8 : (x5_1 : Int) < ((x0_1.length : Int) : Int) := OD; obtain ⟨ce8, hcl8, hM8, hcc8, hfr8⟩ := Kd.gY HO_0.out lH (x5_1 : Int) p8 q8; obtain rfl := dW hM8; have hx8_0 : w7004.cell? ⟨go5, (x5_1 : Int).toNat * 4, none⟩ = some (.int .i64 ((ah y218 x5_1).f0)) := hcc8 0 _ rfl; have hx8_1 : w7004.cell? ⟨go5, (x5_1 : Int).toNat * 4 + 1, none⟩ = some (.string ((ah y218 x5_1).f1)) := hcc8 1 _ rfl; have hx8_2 : w7004.cell? ⟨go5, (x5_1 : Int).toNat * 4 + 2, none⟩ = some (.int .i64 ((ah y218 x5_1).f2)) := hcc8 2 _ rfl; have hx8_3 : w7004.cell? ⟨go5, (x5_1 : Int).toNat * 4 + 3, none⟩ = some (.int .i64 ((ah y218 x5_1).f3)) := hcc8 3 _ rfl; have hf8_0 : w7004.frozen? ⟨go5, (x5_1 : Int).toNat * 4, none⟩ = false := hfr8 0; have hf8_1 : w7004.frozen? ⟨go5, (x5_1 : Int).toNat * 4 + 1, none⟩ = false := hfr8 1; have hf8_2 : w7004.frozen? ⟨go5, (x5_1 : Int).toNat * 4 + 2, none⟩ = false := hfr8 2; have hf8_3 : w7004.frozen? ⟨go5, (x5_1 : Int).toNat * 4 + 3, none⟩ = false := hfr8 3; clear hcl8 hcc8 hfr8 hM8; replace p8 := eq_true p8; replace q8 := eq_true q8; have HX16 := aj.mk (show Kd.R bQ 110 w7004 w0.heap.size (fun k_ => (P0_ k_ ∨ w.heap.size ≤ k_)) (.slice (some ⟨go5, 0, none⟩) x0_1.length co7000) y218 from (RR HO_0)); obtain ⟨ce16, hcl16, hM16, hcc16, hfr16⟩ := Kd.gY HX16.out lH (x5_1 : Int) (OD) (by have h_ : (x5_1 : Int) < ((x0_1.length : Int) : Int) := OD; first | exact h_ | (have e_ := (Kd.bF HO_0.out).1; omega) | simpa using h_); obtain rfl := dW hM16; have HP16 := Kd.nK HX16.out (x5_1 : Int) (OD) (by have h_ : (x5_1 : Int) < ((x0_1.length : Int) : Int) := OD; first | exact h_ | (have e_ := (Kd.bF HO_0.out).1; omega) | simpa using h_) (seg := [.int .i64 (wrap64 ((wrap64 (x1_1 + 1)) + 1))]) (j := 2) hcl16 hcc16 (show 3 ≤ 4 from by decide) (x' := (⟨(ah y218 x5_1).f0, (ah y218 x5_1).f1, wrap64 ((wrap64 (x1_1 + 1)) + 1), (ah y218 x5_1).f3⟩ : aA)) (bX _ _ _ (⟨(ah y218 x5_1).f0, (ah y218 x5_1).f1, wrap64 ((wrap64 (x1_1 + 1)) + 1), (ah y218 x5_1).f3⟩ : aA) ) (fun _ hk => hk); have hx16_2 := hcc16 2 _ rfl; (try simp only [show (bQ).sz = 4 from rfl, Nat.mul_one, Nat.add_zero] at hx16_2); have hf16_2 := hfr16 2; (try simp only [show (bQ).sz = 4 from rfl, Nat.mul_one, Nat.add_zero] at hf16_2); clear hcl16 hcc16 hfr16 hM16) | ((with_reducible refine gP (t := 3) (p := 31) rfl ?_); refine fV (t := 3) (p := 31) (v := ?vo_w17) (w1 := (w7004.setCell ⟨go5, (x5_1 : Int).toNat * 4 + 2, none⟩ (.int .i64 (wrap64 ((wrap64 (x1_1 + 1)) + 1))))) ?hg ?ho ?hn ?hr ?_; (case ho => rfl); (case hg => rfl); (case hn => rfl); (case hr => first | (go_simp; done) | (go_simp; rfl)); intro w7005 hw; have hg : w7004.grownBy w7005 (some go5) := (by rw [hw]; exact HP16.2); have hp_ : Kd.R bQ 110 w7005 w0.heap.size (fun k_ => (P0_ k_ ∨ w.heap.size ≤ k_)) (.slice (some ⟨go5, 0, none⟩) x0_1.length co7000) y219 := (by rw [hw, Ny219.out]; exact HP16.1); clear HP16; have n0_ := aj.mk (hp_); have n1_ := aj.mk ((by rw [hw]; exact fD (HB.out) GB5.out : Below w0.heap.size w0 w7005)); have n2_ := aj.mk (Kept.bY (S := (fun k_ => P0_ k_)) hg (by repeat (first | (with_reducible first | exact HK.out | apply Kept.alloc | apply Kept.drewN | apply Kept.drew) | exact HK.out)) (fun k_ e_ => (HO_0.out.1 k_ e_))); clear HO_0 HB HK; have HO_0 := n0_; have HB := n1_; have HK := n2_; clear n0_ n1_ n2_; clear hg hw hp_; have p9 : 0 ≤ (x5_1 : Int) := OD; have q9 : (x5_1 : Int) < ((x0_1.length : Int) : Int) := OD; obtain ⟨ce9, hcl9, hM9, hcc9, hfr9⟩ := Kd.gY HO_0.out lH (x5_1 : Int) p9 q9; obtain rfl := dW hM9; have hx9_0 : w7005.cell? ⟨go5, (x5_1 : Int).toNat * 4, none⟩ = some (.int .i64 ((ah y219 x5_1).f0)) := hcc9 0 _ rfl; have hx9_1 : w7005.cell? ⟨go5, (x5_1 : Int).toNat * 4 + 1, none⟩ = some (.string ((ah y219 x5_1).f1)) := hcc9 1 _ rfl; have hx9_2 : w7005.cell? ⟨go5, (x5_1 : Int).toNat * 4 + 2, none⟩ = some (.int .i64 ((ah y219 x5_1).f2)) := hcc9 2 _ rfl; have hx9_3 : w7005.cell? ⟨go5, (x5_1 : Int).toNat * 4 + 3, none⟩ = some (.int .i64 ((ah y219 x5_1).f3)) := hcc9 3 _ rfl; have hf9_0 : w7005.frozen? ⟨go5, (x5_1 : Int).toNat * 4, none⟩ = false := hfr9 0; have hf9_1 : w7005.frozen? ⟨go5, (x5_1 : Int).toNat * 4 + 1, none⟩ = false := hfr9 1; have hf9_2 : w7005.frozen? ⟨go5, (x5_1 : Int).toNat * 4 + 2, none⟩ = false := hfr9 2; have hf9_3 : w7005.frozen? ⟨go5, (x5_1 : Int).toNat * 4 + 3, none⟩ = false := hfr9 3; clear hcl9 hcc9 hfr9 hM9; replace p9 := eq_true p9; replace q9 := eq_true q9; have HX18 := aj.mk (show Kd.R bQ 110 w7005 w0.heap.size (fun k_ => (P0_ k_ ∨ w.heap.size ≤ k_)) (.slice (some ⟨go5, 0, none⟩) x0_1.length co7000) y219 from (RR HO_0)); obtain ⟨ce18, hcl18, hM18, hcc18, hfr18⟩ := Kd.gY HX18.out lH (x5_1 : Int) (OD) (by have h_ : (x5_1 : Int) < ((x0_1.length : Int) : Int) := OD; first | exact h_ | (have e_ := (Kd.bF HO_0.out).1; omega) | simpa using h_); obtain rfl := dW hM18; have HP18 := Kd.nK HX18.out (x5_1 : Int) (OD) (by have h_ : (x5_1 : Int) < ((x0_1.length : Int) : Int) := OD; first | exact h_ | (have e_ := (Kd.bF HO_0.out).1; omega) | simpa using h_) (seg := [.int .i64 (wrap64 ((wrap64 ((wrap64 (x1_1 + 1)) + 1)) + 1))]) (j := 3) hcl18 hcc18 (show 4 ≤ 4 from by decide) (x' := (⟨(ah y219 x5_1).f0, (ah y219 x5_1).f1, (ah y219 x5_1).f2, wrap64 ((wrap64 ((wrap64 (x1_1 + 1)) + 1)) + 1)⟩ : aA)) (bX _ _ _ (⟨(ah y219 x5_1).f0, (ah y219 x5_1).f1, (ah y219 x5_1).f2, wrap64 ((wrap64 ((wrap64 (x1_1 + 1)) + 1)) + 1)⟩ : aA) ) (fun _ hk => hk); have hx18_3 := hcc18 3 _ rfl; (try simp only [show (bQ).sz = 4 from rfl, Nat.mul_one, Nat.add_zero] at hx18_3); have hf18_3 := hfr18 3; (try simp only [show (bQ).sz = 4 from rfl, Nat.mul_one, Nat.add_zero] at hf18_3); clear hcl18 hcc18 hfr18 hM18) | ((with_reducible refine gP (t := 3) (p := 38) rfl ?_); refine fV (t := 3) (p := 38) (v := ?vo_w19) (w1 := (w7005.setCell ⟨go5, (x5_1 : Int).toNat * 4 + 3, none⟩ (.int .i64 (wrap64 ((wrap64 ((wrap64 (x1_1 + 1)) + 1)) + 1))))) ?hg ?ho ?hn ?hr ?_; (case ho => rfl); (case hg => rfl); (case hn => rfl); (case hr => first | (go_simp; done) | (go_simp; rfl)); intro w7006 hw; have hg : w7005.grownBy w7006 (some go5) := (by rw [hw]; exact HP18.2); have hp_ : Kd.R bQ 110 w7006 w0.heap.size (fun k_ => (P0_ k_ ∨ w.heap.size ≤ k_)) (.slice (some ⟨go5, 0, none⟩) x0_1.length co7000) y220 := (by rw [hw, Ny220.out]; exact HP18.1); clear HP18; have n0_ := aj.mk (hp_); have n1_ := aj.mk ((by rw [hw]; exact fD (HB.out) GB5.out : Below w0.heap.size w0 w7006)); have n2_ := aj.mk (Kept.bY (S := (fun k_ => P0_ k_)) hg (by repeat (first | (with_reducible first | exact HK.out | apply Kept.alloc | apply Kept.drewN | apply Kept.drew) | exact HK.out)) (fun k_ e_ => (HO_0.out.1 k_ e_))); clear HO_0 HB HK; have HO_0 := n0_; have HB := n1_; have HK := n2_; clear n0_ n1_ n2_; clear hg hw hp_))
    go_roundg k1
    case measure => have := HK1.out; omega
    case rel => exact ⟨(y220), (wrap64 ((wrap64 ((wrap64 ((wrap64 (x1_1 + 1)) + 1)) + 1)) + 1)), (wrap64 (x5_1 + 1)), EQ, EQ, H', ⟨by have := HK1.out; omega⟩, ⟨(RR HO_0)⟩, ⟨by repeat (first | (with_reducible first | exact HK.out | apply Kept.alloc | apply Kept.drewN | apply Kept.drew) | exact HK.out)⟩, ⟨BL⟩⟩
   ·simp only [Option.some.injEq, Prod.mk.injEq] at H
    obtain ⟨rfl, rfl⟩ := H
    go_wp2
    go_ret
    exact ⟨EWW, (RR HO_0), BL, by repeat (first | (with_reducible first | exact HK.out | apply Kept.alloc | apply Kept.drewN | apply Kept.drew) | exact HK.out)⟩
end Go.Proofs.Ythjcicmmbmagbaa.PFnExactParsePlay
