/- Walks of functions: what each computes. -/
import Derived.Test.YtnfiedfaaaphoaaGreatZPuzzleCodeG0
import Derived.Test.YtnfiedfaaaphoaaGreatZPuzzleCodeG10
import Derived.Test.YtnfiedfaaaphoaaGreatZPuzzleCodeG12
import Derived.Test.YtnfiedfaaaphoaaGreatZPuzzleCodeW
import Derived.Test.YtnfiedfaaaphoaaGreatZPuzzleCodeShelf
import Derived.Test.YtnfiedfaaaphoaaGreatZPuzzleCodeHandSort
import Derived.Test.YtnfiedfaaaphoaaGreatZPuzzleCodeHandForm
import Derived.Test.YtnfiedfaaaphoaaGreatZPuzzleCodeHandAlone
import Derived.Test.YtnfiedfaaaphoaaGreatZPuzzleCodeHandReach
import Derived.Test.YtnfiedfaaaphoaaGreatZPuzzleCodeHandPut
namespace Go.Proofs.YtnfiedfaaaphoaaGreat.PFnExactPuzzleCode
open Go.RowKit Go.Proofs.YtnfiedfaaaphoaaGreatW.PrintWords Go.Proofs.YtnfiedfaaaphoaaGreatW.PrintLast Go.Proofs.YtnfiedfaaaphoaaGreatW.PrintMore Go.Proofs.YtnfiedfaaaphoaaGreat.Sq
attribute [local go_sem] iH iJ jD jC gV gU iK iG
set_option maxHeartbeats 8000000
set_option maxRecDepth 100000
set_option linter.unusedVariables false
set_option linter.unusedSimpArgs false
def bR.l0 : Nat → ByteArray → Int → Int → Option (Bool)
 | 0, _, _, _ => none
 | k + 1, a, b, c => if c < b then (if 0 ≤ c then (if c < (a.size : Int) then ((eP.f (bt a c)).bind fun d => (if d = true then (bR.l0 k a b (wrap64 (c + 1))) else (some false))) else (none)) else (none)) else (some true)
def bR.f (k : Nat) (a0 : ByteArray) : Option (Bool) := (fq.f (a0.size : Int) 1 8).bind fun t567 => (if t567 = true then (bR.l0 k a0 (a0.size : Int) 0) else (some false))
theorem bR.calls (k : Nat) (a0 : ByteArray) (r : Bool) (w : World) (h : bR.f k a0 = some r) :
  Calls Tryz.prog 145 #[.string a0] w fun e w' => e = .returned (.bool r) ∧ aC w w' := by
 unfold bR.f at h
 have H := h
 clear h
 replace H := be H; obtain ⟨t567, A2, H⟩ := H
 replace H := ah.mk H
 go_enter Tryz.func145, Tryz.ntmps145
 go_wp2_with (first | ((with_reducible refine ay (f := 89) rfl ?_); refine bq (some 6) Tryz.func89 #[.int .i64 (a0.size : Int), .int .i64 1, .int .i64 8] ?_; (with_reducible refine (fq.calls (a0.size : Int) 1 8 _ _ A2.out).mono ?_); rintro e w' ⟨rfl, ⟨nd, rfl⟩⟩; refine ⟨_, rfl, ?_⟩; refine bP ?_))
 refine Hide.mk ?_
 replace H := H.out
 replace H := ifB H; rcases H with ⟨rfl, H⟩ | ⟨rfl, H⟩
 ·have H' := ah.mk H
  clear H
  try go_wp2
  go_loopg [10] k (fun kq v10 w' => ∃ (x10_1 : Int), v10 = .int .i64 x10_1 ∧ ah (bR.l0 kq a0 (a0.size : Int) x10_1 = some r) ∧ ah (kq ≤ k) ∧ aC w w')
  case atStart => exact ⟨(0), EQ, H', ⟨Nat.le_refl _⟩, by repeat (first | exact aC.refl _ | apply aC.step)⟩
  case round =>
   clear H'
   try clear c3
   obtain ⟨x10_1, rfl, HA, HK1, ⟨m1, rfl⟩⟩ := hrel
   cases gk with
   | zero => exact absurd HA.out (by simp [bR.l0])
   | succ k1 =>
    have H := HA.out
    clear HA
    simp only [bR.l0] at H
    replace H := ifD H; rcases H with ⟨c4b0, H⟩ | ⟨c4b0, H⟩
    ·replace H := ifN H; obtain ⟨c5b0, H⟩ := H
     replace H := ifN H; obtain ⟨c6b0, H⟩ := H
     replace H := be H; obtain ⟨t568, A8, H⟩ := H
     have p7 : (0 ≤ (x10_1 : Int)) = True := OT
     have q7 : (x10_1 < (a0.size : Int)) = True := OT
     have hx7 := gI a0 x10_1
     replace H := ah.mk H
     go_wp2_with (first | ((with_reducible refine ay (f := 134) rfl ?_); refine bq (some 16) Tryz.func134 #[.int .u8 (bt a0 x10_1)] ?_; (with_reducible refine (eP.calls (bt a0 x10_1) _ _ A8.out).mono ?_); rintro e w' ⟨rfl, ⟨nd, rfl⟩⟩; refine ⟨_, rfl, ?_⟩; refine bP ?_))
     refine Hide.mk ?_
     replace H := H.out
     replace H := ifB H; rcases H with ⟨rfl, H⟩ | ⟨rfl, H⟩
     ·have H' := ah.mk H
      clear H
      try go_wp2
      go_roundg k1
      case measure => have := HK1.out; omega
      case rel => exact ⟨(wrap64 (x10_1 + 1)), EQ, H', ⟨by have := HK1.out; omega⟩, by repeat (first | exact aC.refl _ | apply aC.step)⟩
     ·obtain rfl := Option.some.inj H
      try go_wp2
      go_ret
      exact ⟨by first | rfl | (simp; done) | (simp [*]; done), by repeat (first | exact aC.refl _ | apply aC.step)⟩
    ·obtain rfl := Option.some.inj H
     go_wp2
     go_ret
     exact ⟨by first | rfl | (simp; done) | (simp [*]; done), by repeat (first | exact aC.refl _ | apply aC.step)⟩
 ·obtain rfl := Option.some.inj H
  try go_wp2
  go_ret
  exact ⟨by first | rfl | (simp; done) | (simp [*]; done), by repeat (first | exact aC.refl _ | apply aC.step)⟩
def jr.f (a0 : Int) : Option (Bool) := if a0 = 3 then (some true) else (some (decide (a0 ≥ 6)))
theorem jr.calls (a0 : Int) (r : Bool) (w : World) (h : jr.f a0 = some r) :
  Calls Tryz.prog 203 #[.int .i64 a0] w fun e w' => e = .returned (.bool r) ∧ aC w w' := by
 unfold jr.f at h
 have H := h
 clear h
 replace H := ah.mk H
 go_enter Tryz.func203, Tryz.ntmps203
 replace H := H.out
 replace H := ifE H; rcases H with ⟨c2b0, c2b1, H⟩ | ⟨c2, c2b0, c2b1, H⟩
 ·obtain rfl := Option.some.inj H
  try go_wp2
  go_ret
  exact ⟨by first | rfl | (simp; done) | (simp [*]; done), by repeat (first | exact aC.refl _ | apply aC.step)⟩
 ·obtain rfl := Option.some.inj H
  try go_wp2
  go_ret
  exact ⟨by first | rfl | (simp; done) | (simp [*]; done), by repeat (first | exact aC.refl _ | apply aC.step)⟩
def iW.f (a0 : Int) : Option (Bool) := if a0 = 4 then (some true) else (some (a0 == 5))
theorem iW.calls (a0 : Int) (r : Bool) (w : World) (h : iW.f a0 = some r) :
  Calls Tryz.prog 204 #[.int .i64 a0] w fun e w' => e = .returned (.bool r) ∧ aC w w' := by
 unfold iW.f at h
 have H := h
 clear h
 replace H := ah.mk H
 go_enter Tryz.func204, Tryz.ntmps204
 replace H := H.out
 replace H := ifE H; rcases H with ⟨c2b0, c2b1, H⟩ | ⟨c2, c2b0, c2b1, H⟩
 ·obtain rfl := Option.some.inj H
  try go_wp2
  go_ret
  exact ⟨by first | rfl | (simp; done) | (simp [*]; done), by repeat (first | exact aC.refl _ | apply aC.step)⟩
 ·obtain rfl := Option.some.inj H
  try go_wp2
  go_ret
  exact ⟨by first | rfl | (simp; done) | (simp [*]; done), by repeat (first | exact aC.refl _ | apply aC.step)⟩
mutual
def bQ.l0 : Nat → List (bZ) → List (bZ) → Int → Int → Option (Bool)
 | 0, _, _, _, _ => none
 | k + 1, a, b, c, d => if d < c then (if 0 ≤ d then (if d < (b.length : Int) then ((fq.f ((aj b d).f0) 1 9).bind fun e => (if e = true then (if ((aj b d).f0) = 1 then ((bR.f k ((aj b d).f1)).bind fun f => (if f = true then (if ((aj b d).f2) = 0 then (if ((aj b d).f3) = 0 then (bQ.l0 k a b c (wrap64 (d + 1))) else (some false)) else (some false)) else (some false))) else (if ((aj b d).f1).toList = ([] : List UInt8) then ((lT.f ((aj b d).f2) d).bind fun g => (if g = true then ((jr.f ((aj b d).f0)).bind fun h => (if h = true then (if 0 ≤ ((aj b d).f2) then (if ((aj b d).f2) < (a.length : Int) then (bQ.j1 k a d b c d (((aj a ((aj b d).f2)).f0) != 1) ((aj b d).f0) ((aj b d).f1) ((aj b d).f2) ((aj b d).f3)) else (none)) else (none)) else (bQ.j1 k a d b c d false ((aj b d).f0) ((aj b d).f1) ((aj b d).f2) ((aj b d).f3)))) else (bQ.j1 k a d b c d true ((aj b d).f0) ((aj b d).f1) ((aj b d).f2) ((aj b d).f3)))) else (bQ.j1 k a d b c d true ((aj b d).f0) ((aj b d).f1) ((aj b d).f2) ((aj b d).f3)))) else (some false))) else (none)) else (none)) else (some true)
def bQ.j1 : Nat → List (bZ) → Int → List (bZ) → Int → Int → Bool → Int → ByteArray → Int → Int → Option (Bool)
 | 0, _, _, _, _, _, _, _, _, _, _ => none
 | k + 1, a, b, c, d, e, f, g, h, i, j => if f = true then (some false) else ((iW.f g).bind fun l => (if l = true then ((lT.f j b).bind fun m => (if m = true then ((iW.f g).bind fun n => (if n = true then (bQ.l0 k a c d (wrap64 (e + 1))) else (if j = 0 then (bQ.l0 k a c d (wrap64 (e + 1))) else (some false)))) else (some false))) else ((iW.f g).bind fun o => (if o = true then (bQ.l0 k a c d (wrap64 (e + 1))) else (if j = 0 then (bQ.l0 k a c d (wrap64 (e + 1))) else (some false))))))
end
def bQ.f (k : Nat) (l0 : List (bZ)) : Option (Bool) := (fq.f (l0.length : Int) 1 9).bind fun t569 => (if t569 = true then (bQ.l0 k l0 l0 (l0.length : Int) 0) else (some false))
theorem bQ.calls (k : Nat) (A0 : Option Addr) (c0 : Nat) (l0 : List (bZ)) (r : Bool) (w : World) (hr0 : Kd.C je w A0 l0.length l0) (hc0 : l0.length ≤ c0) (h : bQ.f k l0 = some r) :
  Calls Tryz.prog 168 #[.slice A0 l0.length c0] w fun e w' => e = .returned (.bool r) ∧ Below w.heap.size w w' := by
 have hu141 := Tryz.underlying141
 have HR0 := ah.mk hr0
 have HC0 := ah.mk hc0
 clear hr0 hc0
 have HB := ah.mk (Below.refl w.heap.size w)
 unfold bQ.f at h
 have H := h
 clear h
 replace H := be H; obtain ⟨t569, A2, H⟩ := H
 replace H := ah.mk H
 go_enter Tryz.func168, Tryz.ntmps168
 go_wp2_with (first | ((with_reducible refine ay (f := 89) rfl ?_); refine bq (some 7) Tryz.func89 #[.int .i64 (l0.length : Int), .int .i64 1, .int .i64 9] ?_; (with_reducible refine (fq.calls (l0.length : Int) 1 9 _ _ A2.out).mono ?_); rintro e w' ⟨rfl, ⟨nd, rfl⟩⟩; refine ⟨_, rfl, ?_⟩; refine bP ?_))
 refine Hide.mk ?_
 replace H := H.out
 replace H := ifB H; rcases H with ⟨rfl, H⟩ | ⟨rfl, H⟩
 ·have H' := ah.mk H
  clear H
  try go_wp2
  go_loopg [11] k (fun kq v11 w' => ∃ (x11_1 : Int), v11 = .int .i64 x11_1 ∧ ah (bQ.l0 kq l0 l0 (l0.length : Int) x11_1 = some r) ∧ ah (kq ≤ k) ∧ ah (Below w.heap.size w w'))
  case atStart => exact ⟨(0), EQ, H', ⟨Nat.le_refl _⟩, ⟨BL⟩⟩
  case round =>
   clear H'
   try clear c3
   obtain ⟨x11_1, rfl, HA, HK1, HB⟩ := hrel
   cases gk with
   | zero => exact absurd HA.out (by simp [bQ.l0])
   | succ k1 =>
    have H := HA.out
    clear HA
    simp only [bQ.l0] at H
    replace H := ifD H; rcases H with ⟨c4b0, H⟩ | ⟨c4b0, H⟩
    ·replace H := ifN H; obtain ⟨c5b0, H⟩ := H
     replace H := ifN H; obtain ⟨c6b0, H⟩ := H
     replace H := be H; obtain ⟨t572, A7, H⟩ := H
     have p570 : 0 ≤ (x11_1 : Int) := OD
     have q570 : x11_1 < (l0.length : Int) := OD
     obtain ⟨ad570, e570, hx570_0, hx570_1, hx570_2, hx570_3⟩ := jh HR0.out x11_1 p570 q570
     cases e570
     try replace hx570_0 := (HB.out.cell (World.block_lt_of_cell? w _ hx570_0)).trans hx570_0
     try replace hx570_1 := (HB.out.cell (World.block_lt_of_cell? w _ hx570_1)).trans hx570_1
     try replace hx570_2 := (HB.out.cell (World.block_lt_of_cell? w _ hx570_2)).trans hx570_2
     try replace hx570_3 := (HB.out.cell (World.block_lt_of_cell? w _ hx570_3)).trans hx570_3
     replace p570 := eq_true p570
     replace q570 := eq_true q570
     replace H := ah.mk H
     go_wp2_with (first | ((with_reducible refine aN (N := 4) rfl ?_); refine bC (N := 4) (cs := #[.int .i64 0, .string (⟨#[]⟩ : ByteArray), .int .i64 0, .int .i64 0]) (t := 141) ?_; intro gb571 hg w9000 hbox hb; have BK571 := ah.mk hbox; have GW571 := SZ (w := w) hg; have GE571 := GW571; replace HB := BS (w := w) hb; clear hb hbox hg; obtain ⟨hcz9001_0, hcz9001_1, hcz9001_2, hcz9001_3, hfz9001_0, hfz9001_1, hfz9001_2, hfz9001_3⟩ := cz4 BK571.out) | ((with_reducible refine ay (f := 89) rfl ?_); refine bq (some 18) Tryz.func89 #[.int .i64 ((aj l0 x11_1).f0), .int .i64 1, .int .i64 9] ?_; (with_reducible refine (fq.calls ((aj l0 x11_1).f0) 1 9 _ _ A7.out).mono ?_); rintro e w' ⟨rfl, ⟨nd, rfl⟩⟩; refine ⟨_, rfl, ?_⟩; refine bP ?_))
     refine Hide.mk ?_
     replace H := H.out
     replace H := ifB H; rcases H with ⟨rfl, H⟩ | ⟨rfl, H⟩
     ·replace H := ifE H; rcases H with ⟨c9b0, c9b1, H⟩ | ⟨c9, c9b0, c9b1, H⟩
      ·replace H := be H; obtain ⟨t573, A10, H⟩ := H
       replace H := ah.mk H
       go_wp2_with (first | ((with_reducible refine ay (f := 145) rfl ?_); refine bq (some 25) Tryz.func145 #[.string ((aj l0 x11_1).f1)] ?_; (with_reducible refine (bR.calls k1 ((aj l0 x11_1).f1) _ _ A10.out).mono ?_); rintro e w' ⟨rfl, ⟨nd, rfl⟩⟩; refine ⟨_, rfl, ?_⟩; refine bP ?_))
       refine Hide.mk ?_
       replace H := H.out
       replace H := ifB H; rcases H with ⟨rfl, H⟩ | ⟨rfl, H⟩
       ·replace H := ifE H; rcases H with ⟨c12b0, c12b1, H⟩ | ⟨c12, c12b0, c12b1, H⟩
        ·replace H := ifE H; rcases H with ⟨c13b0, c13b1, H⟩ | ⟨c13, c13b0, c13b1, H⟩
         ·have H' := ah.mk H
          clear H
          try go_wp2
          go_roundg k1
          case measure => have := HK1.out; omega
          case rel => exact ⟨(wrap64 (x11_1 + 1)), EQ, H', ⟨by have := HK1.out; omega⟩, ⟨BL⟩⟩
         ·obtain rfl := Option.some.inj H
          try go_wp2
          go_ret
          exact ⟨EWW, BL⟩
        ·obtain rfl := Option.some.inj H
         try go_wp2
         go_ret
         exact ⟨EWW, BL⟩
       ·obtain rfl := Option.some.inj H
        try go_wp2
        go_ret
        exact ⟨EWW, BL⟩
      ·have HC22 := ah.mk H
       clear H
       go_upto_region 11 with (fail)
       (try simp only [Act.put, List.setIfInBounds_toArray, List.set_cons_zero, List.set_cons_succ])
       go_cut [60] (fun v60 wc => ∃ (kq : Nat) (x60_21 : Bool), v60 = .bool x60_21 ∧ ah (bQ.j1 kq l0 x11_1 l0 (l0.length : Int) x11_1 x60_21 ((aj l0 x11_1).f0) ((aj l0 x11_1).f1) ((aj l0 x11_1).f2) ((aj l0 x11_1).f3) = some r) ∧ ah (kq ≤ k1) ∧ ah (wc.heap[gb571]? = some (.cells #[.int .i64 ((aj l0 x11_1).f0), .string ((aj l0 x11_1).f1), .int .i64 ((aj l0 x11_1).f2), .int .i64 ((aj l0 x11_1).f3)] 141 (0, 0))) ∧ ah (Below w.heap.size w wc))
       case first =>
        have H := HC22.out
        clear HC22
        obtain ⟨hcz9002_0, hcz9002_1, hcz9002_2, hcz9002_3, hfz9002_0, hfz9002_1, hfz9002_2, hfz9002_3⟩ := cz4 BK571.out
        replace H := ifE H; rcases H with ⟨c25b0, c25b1, H⟩ | ⟨c25, c25b0, c25b1, H⟩
        ·(first | rw [c25b0] | (simp only [iV, jQ]; rw [c25b0]) | skip)
         replace H := be H; obtain ⟨t574, A26, H⟩ := H
         replace H := ah.mk H
         go_wp2_with (first | (go_at_call 165; (with_reducible refine (lT.calls ((aj l0 x11_1).f2) x11_1 _ _ A26.out).mono ?_); rintro e w' ⟨rfl, ⟨nd, rfl⟩⟩; refine bP ?_))
         refine Hide.mk ?_
         replace H := H.out
         replace H := ifB H; rcases H with ⟨rfl, H⟩ | ⟨rfl, H⟩
         ·replace H := be H; obtain ⟨t575, A28, H⟩ := H
          replace H := ah.mk H
          go_wp2_with (first | (go_at_call 203; (with_reducible refine (jr.calls ((aj l0 x11_1).f0) _ _ A28.out).mono ?_); rintro e w' ⟨rfl, ⟨nd, rfl⟩⟩; refine bP ?_))
          refine Hide.mk ?_
          replace H := H.out
          replace H := ifB H; rcases H with ⟨rfl, H⟩ | ⟨rfl, H⟩
          ·replace H := ifN H; obtain ⟨c30b0, H⟩ := H
           replace H := ifN H; obtain ⟨c31b0, H⟩ := H
           have H' := ah.mk H
           clear H
           have p576 : 0 ≤ (((aj l0 x11_1).f2) : Int) := OD
           have q576 : ((aj l0 x11_1).f2) < (l0.length : Int) := OD
           obtain ⟨ad576, e576, hx576_0, hx576_1, hx576_2, hx576_3⟩ := jh HR0.out ((aj l0 x11_1).f2) p576 q576
           obtain rfl : ad570 = ad576 := (by injection e576)
           have hn576_0 : ad570.block ≠ gb571 := Nat.ne_of_lt (Nat.lt_of_lt_of_le (by have := World.block_lt_of_cell? _ _ hx576_0; first | rwa [add_block] at this | exact this) GW571.out)
           have hn576_1 : ad570.block ≠ gb571 := Nat.ne_of_lt (Nat.lt_of_lt_of_le (by have := World.block_lt_of_cell? _ _ hx576_0; first | rwa [add_block] at this | exact this) GW571.out)
           have hn576_2 : ad570.block ≠ gb571 := Nat.ne_of_lt (Nat.lt_of_lt_of_le (by have := World.block_lt_of_cell? _ _ hx576_0; first | rwa [add_block] at this | exact this) GW571.out)
           have hn576_3 : ad570.block ≠ gb571 := Nat.ne_of_lt (Nat.lt_of_lt_of_le (by have := World.block_lt_of_cell? _ _ hx576_0; first | rwa [add_block] at this | exact this) GW571.out)
           replace hx576_0 := (HB.out.cell (World.block_lt_of_cell? w _ hx576_0)).trans hx576_0
           replace hx576_1 := (HB.out.cell (World.block_lt_of_cell? w _ hx576_1)).trans hx576_1
           replace hx576_2 := (HB.out.cell (World.block_lt_of_cell? w _ hx576_2)).trans hx576_2
           replace hx576_3 := (HB.out.cell (World.block_lt_of_cell? w _ hx576_3)).trans hx576_3
           replace hx576_0 := (cell_far (p := ⟨gb571, 0, none⟩) AB (.int .i64 ((aj l0 x11_1).f0))).trans hx576_0
           replace hx576_1 := (cell_far (p := ⟨gb571, 0, none⟩) AB (.int .i64 ((aj l0 x11_1).f0))).trans hx576_1
           replace hx576_2 := (cell_far (p := ⟨gb571, 0, none⟩) AB (.int .i64 ((aj l0 x11_1).f0))).trans hx576_2
           replace hx576_3 := (cell_far (p := ⟨gb571, 0, none⟩) AB (.int .i64 ((aj l0 x11_1).f0))).trans hx576_3
           replace hx576_0 := (cell_far (p := ⟨gb571, 1, none⟩) AB (.string ((aj l0 x11_1).f1))).trans hx576_0
           replace hx576_1 := (cell_far (p := ⟨gb571, 1, none⟩) AB (.string ((aj l0 x11_1).f1))).trans hx576_1
           replace hx576_2 := (cell_far (p := ⟨gb571, 1, none⟩) AB (.string ((aj l0 x11_1).f1))).trans hx576_2
           replace hx576_3 := (cell_far (p := ⟨gb571, 1, none⟩) AB (.string ((aj l0 x11_1).f1))).trans hx576_3
           replace hx576_0 := (cell_far (p := ⟨gb571, 2, none⟩) AB (.int .i64 ((aj l0 x11_1).f2))).trans hx576_0
           replace hx576_1 := (cell_far (p := ⟨gb571, 2, none⟩) AB (.int .i64 ((aj l0 x11_1).f2))).trans hx576_1
           replace hx576_2 := (cell_far (p := ⟨gb571, 2, none⟩) AB (.int .i64 ((aj l0 x11_1).f2))).trans hx576_2
           replace hx576_3 := (cell_far (p := ⟨gb571, 2, none⟩) AB (.int .i64 ((aj l0 x11_1).f2))).trans hx576_3
           replace hx576_0 := (cell_far (p := ⟨gb571, 3, none⟩) AB (.int .i64 ((aj l0 x11_1).f3))).trans hx576_0
           replace hx576_1 := (cell_far (p := ⟨gb571, 3, none⟩) AB (.int .i64 ((aj l0 x11_1).f3))).trans hx576_1
           replace hx576_2 := (cell_far (p := ⟨gb571, 3, none⟩) AB (.int .i64 ((aj l0 x11_1).f3))).trans hx576_2
           replace hx576_3 := (cell_far (p := ⟨gb571, 3, none⟩) AB (.int .i64 ((aj l0 x11_1).f3))).trans hx576_3
           clear hn576_0 hn576_1 hn576_2 hn576_3
           replace p576 := eq_true p576
           replace q576 := eq_true q576
           go_wp2
           go_meet
           case rel => exact ⟨_, ((((aj l0 ((aj l0 x11_1).f2)).f0) != 1)), EQ, H', ⟨by have := HK1.out; first | omega | exact Nat.le_refl _⟩, ⟨by (with_reducible repeat (first | refine aG ?_ _ | refine aI ?_ | refine aD ?_ _)); refine aX (cs := #[.int .i64 ((aj l0 x11_1).f0), .string ((aj l0 x11_1).f1), .int .i64 ((aj l0 x11_1).f2), .int .i64 0]) ?_ 3 _ rfl; (with_reducible repeat (first | refine aG ?_ _ | refine aI ?_ | refine aD ?_ _)); refine aX (cs := #[.int .i64 ((aj l0 x11_1).f0), .string ((aj l0 x11_1).f1), .int .i64 0, .int .i64 0]) ?_ 2 _ rfl; (with_reducible repeat (first | refine aG ?_ _ | refine aI ?_ | refine aD ?_ _)); refine aX (cs := #[.int .i64 ((aj l0 x11_1).f0), .string (⟨#[]⟩ : ByteArray), .int .i64 0, .int .i64 0]) ?_ 1 _ rfl; (with_reducible repeat (first | refine aG ?_ _ | refine aI ?_ | refine aD ?_ _)); refine aX (cs := #[.int .i64 0, .string (⟨#[]⟩ : ByteArray), .int .i64 0, .int .i64 0]) ?_ 0 _ rfl; (with_reducible repeat (first | refine aG ?_ _ | refine aI ?_ | refine aD ?_ _)); exact BK571.out⟩, ⟨BL⟩⟩
          ·have H' := ah.mk H
           clear H
           try go_wp2
           go_meet
           case rel => exact ⟨_, (false), EQ, H', ⟨by have := HK1.out; first | omega | exact Nat.le_refl _⟩, ⟨by (with_reducible repeat (first | refine aG ?_ _ | refine aI ?_ | refine aD ?_ _)); refine aX (cs := #[.int .i64 ((aj l0 x11_1).f0), .string ((aj l0 x11_1).f1), .int .i64 ((aj l0 x11_1).f2), .int .i64 0]) ?_ 3 _ rfl; (with_reducible repeat (first | refine aG ?_ _ | refine aI ?_ | refine aD ?_ _)); refine aX (cs := #[.int .i64 ((aj l0 x11_1).f0), .string ((aj l0 x11_1).f1), .int .i64 0, .int .i64 0]) ?_ 2 _ rfl; (with_reducible repeat (first | refine aG ?_ _ | refine aI ?_ | refine aD ?_ _)); refine aX (cs := #[.int .i64 ((aj l0 x11_1).f0), .string (⟨#[]⟩ : ByteArray), .int .i64 0, .int .i64 0]) ?_ 1 _ rfl; (with_reducible repeat (first | refine aG ?_ _ | refine aI ?_ | refine aD ?_ _)); refine aX (cs := #[.int .i64 0, .string (⟨#[]⟩ : ByteArray), .int .i64 0, .int .i64 0]) ?_ 0 _ rfl; (with_reducible repeat (first | refine aG ?_ _ | refine aI ?_ | refine aD ?_ _)); exact BK571.out⟩, ⟨BL⟩⟩
         ·have H' := ah.mk H
          clear H
          try go_wp2
          go_meet
          case rel => exact ⟨_, (true), EQ, H', ⟨by have := HK1.out; first | omega | exact Nat.le_refl _⟩, ⟨by (with_reducible repeat (first | refine aG ?_ _ | refine aI ?_ | refine aD ?_ _)); refine aX (cs := #[.int .i64 ((aj l0 x11_1).f0), .string ((aj l0 x11_1).f1), .int .i64 ((aj l0 x11_1).f2), .int .i64 0]) ?_ 3 _ rfl; (with_reducible repeat (first | refine aG ?_ _ | refine aI ?_ | refine aD ?_ _)); refine aX (cs := #[.int .i64 ((aj l0 x11_1).f0), .string ((aj l0 x11_1).f1), .int .i64 0, .int .i64 0]) ?_ 2 _ rfl; (with_reducible repeat (first | refine aG ?_ _ | refine aI ?_ | refine aD ?_ _)); refine aX (cs := #[.int .i64 ((aj l0 x11_1).f0), .string (⟨#[]⟩ : ByteArray), .int .i64 0, .int .i64 0]) ?_ 1 _ rfl; (with_reducible repeat (first | refine aG ?_ _ | refine aI ?_ | refine aD ?_ _)); refine aX (cs := #[.int .i64 0, .string (⟨#[]⟩ : ByteArray), .int .i64 0, .int .i64 0]) ?_ 0 _ rfl; (with_reducible repeat (first | refine aG ?_ _ | refine aI ?_ | refine aD ?_ _)); exact BK571.out⟩, ⟨BL⟩⟩
        ·(first | rw [c25b0] | (simp only [iV, jQ]; rw [c25b0]) | skip)
         have H' := ah.mk H
         clear H
         go_wp2
         go_meet
         case rel => exact ⟨_, (true), EQ, H', ⟨by have := HK1.out; first | omega | exact Nat.le_refl _⟩, ⟨by (with_reducible repeat (first | refine aG ?_ _ | refine aI ?_ | refine aD ?_ _)); refine aX (cs := #[.int .i64 ((aj l0 x11_1).f0), .string ((aj l0 x11_1).f1), .int .i64 ((aj l0 x11_1).f2), .int .i64 0]) ?_ 3 _ rfl; (with_reducible repeat (first | refine aG ?_ _ | refine aI ?_ | refine aD ?_ _)); refine aX (cs := #[.int .i64 ((aj l0 x11_1).f0), .string ((aj l0 x11_1).f1), .int .i64 0, .int .i64 0]) ?_ 2 _ rfl; (with_reducible repeat (first | refine aG ?_ _ | refine aI ?_ | refine aD ?_ _)); refine aX (cs := #[.int .i64 ((aj l0 x11_1).f0), .string (⟨#[]⟩ : ByteArray), .int .i64 0, .int .i64 0]) ?_ 1 _ rfl; (with_reducible repeat (first | refine aG ?_ _ | refine aI ?_ | refine aD ?_ _)); refine aX (cs := #[.int .i64 0, .string (⟨#[]⟩ : ByteArray), .int .i64 0, .int .i64 0]) ?_ 0 _ rfl; (with_reducible repeat (first | refine aG ?_ _ | refine aI ?_ | refine aD ?_ _)); exact BK571.out⟩, ⟨BL⟩⟩
       case rest =>
        clear HC22
        try clear c3
        try clear c4
        try clear c4b0
        try clear c5
        try clear c5b0
        try clear c6
        try clear c6b0
        try clear c8
        try clear c9
        try clear c9b0
        try clear c9b1
        try clear hcz9001_0
        try clear hcz9001_1
        try clear hcz9001_2
        try clear hcz9001_3
        try clear hfz9001_0
        try clear hfz9001_1
        try clear hfz9001_2
        try clear hfz9001_3
        try clear hx570_0
        try clear hx570_1
        try clear hx570_2
        try clear hx570_3
        try clear p570
        try clear q570
        obtain ⟨kq, x60_21, rfl, HA, HJ21, BK571, HB⟩ := hcut
        cases kq with
        | zero => exact absurd HA.out (by simp [bQ.j1])
        | succ kj21 =>
         have H := HA.out
         clear HA
         simp only [bQ.j1] at H
         replace H := ifB H; rcases H with ⟨rfl, H⟩ | ⟨rfl, H⟩
         ·obtain rfl := Option.some.inj H
          go_wp2
          go_ret
          exact ⟨EWW, BL⟩
         ·replace H := be H; obtain ⟨t577, A37, H⟩ := H
          obtain ⟨hcz9003_0, hcz9003_1, hcz9003_2, hcz9003_3, hfz9003_0, hfz9003_1, hfz9003_2, hfz9003_3⟩ := cz4 BK571.out
          replace H := ah.mk H
          go_wp2_with (first | ((with_reducible refine ay (f := 204) rfl ?_); refine bq (some 63) Tryz.func204 #[.int .i64 ((aj l0 x11_1).f0)] ?_; (with_reducible refine (iW.calls ((aj l0 x11_1).f0) _ _ A37.out).mono ?_); rintro e w' ⟨rfl, ⟨nd, rfl⟩⟩; refine ⟨_, rfl, ?_⟩; refine bP ?_))
          refine Hide.mk ?_
          replace H := H.out
          replace H := ifB H; rcases H with ⟨rfl, H⟩ | ⟨rfl, H⟩
          ·replace H := be H; obtain ⟨t578, A39, H⟩ := H
           replace H := ah.mk H
           go_wp2_with (first | (go_at_call 165; (with_reducible refine (lT.calls ((aj l0 x11_1).f3) x11_1 _ _ A39.out).mono ?_); rintro e w' ⟨rfl, ⟨nd, rfl⟩⟩; refine bP ?_))
           refine Hide.mk ?_
           replace H := H.out
           replace H := ifB H; rcases H with ⟨rfl, H⟩ | ⟨rfl, H⟩
           ·replace H := be H; obtain ⟨t579, A41, H⟩ := H
            replace H := ah.mk H
            go_wp2_with (first | (go_at_call 204; (with_reducible refine (iW.calls ((aj l0 x11_1).f0) _ _ A41.out).mono ?_); rintro e w' ⟨rfl, ⟨nd, rfl⟩⟩; refine bP ?_))
            refine Hide.mk ?_
            replace H := H.out
            replace H := ifB H; rcases H with ⟨rfl, H⟩ | ⟨rfl, H⟩
            ·have H' := ah.mk H
             clear H
             try go_wp2
             go_roundg kj21
             case measure => have := HK1.out; have := HJ21.out; omega
             case rel => exact ⟨(wrap64 (x11_1 + 1)), EQ, H', ⟨by have := HK1.out; have := HJ21.out; omega⟩, ⟨BL⟩⟩
            ·replace H := ifE H; rcases H with ⟨c44b0, c44b1, H⟩ | ⟨c44, c44b0, c44b1, H⟩
             ·have H' := ah.mk H
              clear H
              try go_wp2
              go_roundg kj21
              case measure => have := HK1.out; have := HJ21.out; omega
              case rel => exact ⟨(wrap64 (x11_1 + 1)), EQ, H', ⟨by have := HK1.out; have := HJ21.out; omega⟩, ⟨BL⟩⟩
             ·obtain rfl := Option.some.inj H
              try go_wp2
              go_ret
              exact ⟨EWW, BL⟩
           ·obtain rfl := Option.some.inj H
            try go_wp2
            go_ret
            exact ⟨EWW, BL⟩
          ·replace H := be H; obtain ⟨t580, A48, H⟩ := H
           replace H := ah.mk H
           go_wp2_with (first | (go_at_call 204; (with_reducible refine (iW.calls ((aj l0 x11_1).f0) _ _ A48.out).mono ?_); rintro e w' ⟨rfl, ⟨nd, rfl⟩⟩; refine bP ?_))
           refine Hide.mk ?_
           replace H := H.out
           replace H := ifB H; rcases H with ⟨rfl, H⟩ | ⟨rfl, H⟩
           ·have H' := ah.mk H
            clear H
            try go_wp2
            go_roundg kj21
            case measure => have := HK1.out; have := HJ21.out; omega
            case rel => exact ⟨(wrap64 (x11_1 + 1)), EQ, H', ⟨by have := HK1.out; have := HJ21.out; omega⟩, ⟨BL⟩⟩
           ·replace H := ifE H; rcases H with ⟨c51b0, c51b1, H⟩ | ⟨c51, c51b0, c51b1, H⟩
            ·have H' := ah.mk H
             clear H
             try go_wp2
             go_roundg kj21
             case measure => have := HK1.out; have := HJ21.out; omega
             case rel => exact ⟨(wrap64 (x11_1 + 1)), EQ, H', ⟨by have := HK1.out; have := HJ21.out; omega⟩, ⟨BL⟩⟩
            ·obtain rfl := Option.some.inj H
             try go_wp2
             go_ret
             exact ⟨EWW, BL⟩
     ·obtain rfl := Option.some.inj H
      try go_wp2
      go_ret
      exact ⟨EWW, BL⟩
    ·obtain rfl := Option.some.inj H
     go_wp2
     go_ret
     exact ⟨EWW, BL⟩
 ·obtain rfl := Option.some.inj H
  try go_wp2
  go_ret
  exact ⟨EWW, BL⟩
def jI.f (k : Nat) (EU : Int) (E8 : List (bZ)) : Option (Bool) := (fq.f EU 1 99).bind fun t582 => (if t582 = true then ((bQ.f k E8).bind fun t583 => (some t583)) else (some false))
theorem jI.calls (k : Nat) (EU : Int) (A0_1 : Option Addr) (c0_1 : Nat) (E8 : List (bZ)) (r : Bool) (w : World) (hr0_1 : Kd.C je w A0_1 E8.length E8) (hc0_1 : E8.length ≤ c0_1) (h : jI.f k EU E8 = some r) :
  Calls Tryz.prog 118 #[.agg #[.int .i64 EU, .slice A0_1 E8.length c0_1]] w fun e w' => e = .returned (.bool r) ∧ Below w.heap.size w w' := by
 have hu82 := Tryz.underlying82
 have HR0_1 := ah.mk hr0_1
 have HC0_1 := ah.mk hc0_1
 clear hr0_1 hc0_1
 have HB := ah.mk (Below.refl w.heap.size w)
 unfold jI.f at h
 have H := h
 clear h
 replace H := be H; obtain ⟨t582, A2, H⟩ := H
 replace H := ah.mk H
 go_enter Tryz.func118, Tryz.ntmps118
 go_wp2_with (first | ((with_reducible refine aN (N := 1) rfl ?_); refine bC (N := 1) (cs := #[.int .i64 EU, .slice A0_1 E8.length c0_1]) (t := 82) ?_; intro gb581 hg w9000 hbox hb; have BK581 := ah.mk hbox; have GW581 := SZ (w := w) hg; have GE581 := GW581; replace HB := BS (w := w) hb; clear hb hbox hg; obtain ⟨hcz9001_0, hcz9001_1, hfz9001_0, hfz9001_1⟩ := cz2 BK581.out) | ((with_reducible refine ay (f := 89) rfl ?_); refine bq (some 5) Tryz.func89 #[.int .i64 EU, .int .i64 1, .int .i64 99] ?_; (with_reducible refine (fq.calls EU 1 99 _ _ A2.out).mono ?_); rintro e w' ⟨rfl, ⟨nd, rfl⟩⟩; refine ⟨_, rfl, ?_⟩; refine bP ?_))
 refine Hide.mk ?_
 replace H := H.out
 replace H := ifB H; rcases H with ⟨rfl, H⟩ | ⟨rfl, H⟩
 ·replace H := be H; obtain ⟨t583, A4, H⟩ := H
  obtain rfl := Option.some.inj H
  try go_wp2_with (first | (go_at_call 168; (with_reducible refine (bQ.calls k _ _ E8 t583 _ ?side1 ?side2 A4.out).mono ?_); (case side1 => repeat (first | exact (Kd.gP HR0_1.out BL) | (with_reducible refine Kd.eG ?_ _) | (with_reducible refine Kd.eH ?_ _) | (with_reducible refine Kd.fP ?_))); (case side2 => exact HC0_1.out); rintro e w9002 ⟨rfl, hb⟩; replace BK581 := KB BK581 hb; replace HB := BS (w := w) hb; (try clear hb)))
  go_ret
  exact ⟨EWW, BL⟩
 ·obtain rfl := Option.some.inj H
  try go_wp2
  go_ret
  exact ⟨EWW, BL⟩
theorem Ew (d : Nat) (w : World) (x0 y0 : ByteArray) (x1 y1 : Int) :
  (Op.equalIn (d + 2) 84 (.agg #[.string x0, .int .i64 x1]) (.agg #[.string y0, .int .i64 y1])).run Tryz.prog w = .ok (x0.toList == y0.toList && (x1 == y1)) w := by
 refine zm Tryz.underlying84 (by kernel_rfl) ?_
 refine oh (by rfl) (by go_simp; rfl) (by go_simp; rfl) (by go_simp) ?_
 exact wJ (by rfl) (by go_simp; rfl) (by go_simp; rfl) (by go_simp)
attribute [local go_sem high] Ew
def dO.l0 : Nat → List (S84) → Int → Int → ByteArray → Int → Option (Int)
 | 0, _, _, _, _, _ => none
 | k + 1, a, b, c, d, e => if c < b then (if 0 ≤ c then (if c < (a.length : Int) then (if (d.toList == (((fK a c).f0).toList) && (e == ((fK a c).f1))) = true then (some c) else (dO.l0 k a b (wrap64 (c + 1)) d e)) else (none)) else (none)) else (some (-1))
def dO.f (k : Nat) (l0 : List (S84)) (EY : ByteArray) (EZ : Int) : Option (Int) := dO.l0 k l0 (l0.length : Int) 0 EY EZ
theorem dO.calls (k : Nat) (A0 : Option Addr) (c0 : Nat) (l0 : List (S84)) (EY : ByteArray) (EZ r : Int) (w : World) (hr0 : Kd.C k84 w A0 l0.length l0) (hc0 : l0.length ≤ c0) (h : dO.f k l0 EY EZ = some r) :
  Calls Tryz.prog 205 #[.slice A0 l0.length c0, .agg #[.string EY, .int .i64 EZ]] w fun e w' => e = .returned (.int .i64 r) ∧ Below w.heap.size w w' := by
 have hu84 := Tryz.underlying84
 have HR0 := ah.mk hr0
 have HC0 := ah.mk hc0
 clear hr0 hc0
 have HB := ah.mk (Below.refl w.heap.size w)
 unfold dO.f at h
 have H := h
 clear h
 have H' := ah.mk H
 clear H
 go_enter Tryz.func205, Tryz.ntmps205
 go_wp2_with (first | ((with_reducible refine aN (N := 3) rfl ?_); refine bC (N := 3) (cs := #[.string EY, .int .i64 EZ]) (t := 84) ?_; intro gb584 hg w3 hbox hb; have BK584 := ah.mk hbox; have GW584 := SZ (w := w) hg; have GE584 := GW584; replace HB := BS (w := w) hb; clear hb hbox hg))
 repeat (go_quiet (first | ((with_reducible refine aN (N := 3) rfl ?_); refine bC (N := 3) (cs := #[.string EY, .int .i64 EZ]) (t := 84) ?_; intro gb584 hg w3 hbox hb; have BK584 := ah.mk hbox; have GW584 := SZ (w := w) hg; have GE584 := GW584; replace HB := BS (w := w) hb; clear hb hbox hg)); try go_wp2_with (first | ((with_reducible refine aN (N := 3) rfl ?_); refine bC (N := 3) (cs := #[.string EY, .int .i64 EZ]) (t := 84) ?_; intro gb584 hg w3 hbox hb; have BK584 := ah.mk hbox; have GW584 := SZ (w := w) hg; have GE584 := GW584; replace HB := BS (w := w) hb; clear hb hbox hg)))
 go_loopg [8] k (fun kq v8 w' => ∃ (x8_1 : Int), v8 = .int .i64 x8_1 ∧ ah (dO.l0 kq l0 (l0.length : Int) x8_1 EY EZ = some r) ∧ ah (kq ≤ k) ∧ ah (w'.heap[gb584]? = some (.cells #[.string EY, .int .i64 EZ] 84 (0, 0))) ∧ ah (Below w.heap.size w w'))
 case atStart => exact ⟨(0), EQ, H', ⟨Nat.le_refl _⟩, ⟨BK⟩, ⟨BL⟩⟩
 case round =>
  clear H'
  obtain ⟨x8_1, rfl, HA, HK1, BK584, HB⟩ := hrel
  cases gk with
  | zero => exact absurd HA.out (by simp [dO.l0])
  | succ k1 =>
   have H := HA.out
   clear HA
   simp only [dO.l0] at H
   replace H := ifD H; rcases H with ⟨c4b0, H⟩ | ⟨c4b0, H⟩
   ·replace H := ifN H; obtain ⟨c5b0, H⟩ := H
    replace H := ifN H; obtain ⟨c6b0, H⟩ := H
    obtain ⟨hcz7000_0, hcz7000_1, hfz7000_0, hfz7000_1⟩ := cz2 BK584.out
    have p585 : 0 ≤ (x8_1 : Int) := OD
    have q585 : x8_1 < (l0.length : Int) := OD
    obtain ⟨ad585, e585, hx585_0, hx585_1⟩ := vR HR0.out x8_1 p585 q585
    cases e585
    try replace hx585_0 := (HB.out.cell (World.block_lt_of_cell? w _ hx585_0)).trans hx585_0
    try replace hx585_1 := (HB.out.cell (World.block_lt_of_cell? w _ hx585_1)).trans hx585_1
    replace p585 := eq_true p585
    replace q585 := eq_true q585
    by_cases c7 : (EY.toList == (((fK l0 x8_1).f0).toList) && (EZ == ((fK l0 x8_1).f1))) = true
    ·rw [if_pos c7] at H
     have c7b0 : (EY.toList == (((fK l0 x8_1).f0).toList) && (EZ == ((fK l0 x8_1).f1))) = true := c7
     (try (have c7b1 : decide (EY.toList = (((fK l0 x8_1).f0).toList) && (EZ == ((fK l0 x8_1).f1))) = true := by simpa using c7))
     (try (have c7b2 : (EY.toList == (((fK l0 x8_1).f0).toList) && (EZ == ((fK l0 x8_1).f1))) = true := by simpa using c7))
     clear c7
     obtain rfl := Option.some.inj H
     go_wp2
     repeat (go_quiet (fail); try go_wp2)
     go_ret
     exact ⟨EWW, BL⟩
    ·rw [if_neg c7] at H
     have c7b0 : (EY.toList == (((fK l0 x8_1).f0).toList) && (EZ == ((fK l0 x8_1).f1))) = false := by simpa using c7
     (try (have c7b1 : decide (EY.toList = (((fK l0 x8_1).f0).toList) && (EZ == ((fK l0 x8_1).f1))) = false := by simpa using c7))
     (try (have c7b2 : (EY.toList == (((fK l0 x8_1).f0).toList) && (EZ == ((fK l0 x8_1).f1))) = false := by simpa using c7))
     (try (have c7b3 : ¬ (EY.toList = (((fK l0 x8_1).f0).toList) && (EZ == ((fK l0 x8_1).f1))) := by simpa using c7))
     clear c7
     have H' := ah.mk H
     clear H
     go_wp2
     repeat (go_quiet (fail); try go_wp2)
     go_roundg k1
     case measure => have := HK1.out; omega
     case rel => exact ⟨(wrap64 (x8_1 + 1)), EQ, H', ⟨by have := HK1.out; omega⟩, ⟨BK⟩, ⟨BL⟩⟩
   ·obtain rfl := Option.some.inj H
    go_wp2
    repeat (go_quiet (fail); try go_wp2)
    go_ret
    exact ⟨EWW, BL⟩
def iL.f (k : Nat) (l0 : List (S84)) (EY : ByteArray) (EZ : Int) : Option (Bool) := (dO.f k l0 EY EZ).bind fun t587 => (some (decide (t587 ≥ 0)))
theorem iL.calls (k : Nat) (A0 : Option Addr) (c0 : Nat) (l0 : List (S84)) (EY : ByteArray) (EZ : Int) (r : Bool) (w : World) (hr0 : Kd.C k84 w A0 l0.length l0) (hc0 : l0.length ≤ c0) (h : iL.f k l0 EY EZ = some r) :
  Calls Tryz.prog 169 #[.slice A0 l0.length c0, .agg #[.string EY, .int .i64 EZ]] w fun e w' => e = .returned (.bool r) ∧ Below w.heap.size w w' := by
 have hu84 := Tryz.underlying84
 have HR0 := ah.mk hr0
 have HC0 := ah.mk hc0
 clear hr0 hc0
 have HB := ah.mk (Below.refl w.heap.size w)
 unfold iL.f at h
 have H := h
 clear h
 replace H := be H; obtain ⟨t587, A3, H⟩ := H
 obtain rfl := Option.some.inj H
 go_enter Tryz.func169, Tryz.ntmps169
 go_wp2_with (first | ((with_reducible refine aN (N := 3) rfl ?_); refine bC (N := 3) (cs := #[.string EY, .int .i64 EZ]) (t := 84) ?_; intro gb586 hg w4 hbox hb; have BK586 := ah.mk hbox; have GW586 := SZ (w := w) hg; have GE586 := GW586; replace HB := BS (w := w) hb; clear hb hbox hg; obtain ⟨hcz5_0, hcz5_1, hfz5_0, hfz5_1⟩ := cz2 BK586.out) | ((with_reducible refine ay (f := 205) rfl ?_); refine bq (some 7) Tryz.func205 #[.slice A0 l0.length c0, .agg #[.string EY, .int .i64 EZ]] ?_; (with_reducible refine (dO.calls k _ _ l0 EY EZ t587 _ ?side1 ?side2 A3.out).mono ?_); (case side1 => exact CB HR0); (case side2 => exact HC0.out); rintro e w6 ⟨rfl, hb⟩; refine ⟨_, rfl, ?_⟩; replace BK586 := KB BK586 hb; replace HB := BS (w := w) hb; (try clear hb)))
 go_ret
 exact ⟨EWW, BL⟩
def iP.f (k : Nat) (l0 : List (S84)) (a1 : ByteArray) (a2 : Int) : Option (Bool) := (iL.f k l0 a1 a2).bind fun t588 => (some t588)
theorem iP.calls (k : Nat) (A0 : Option Addr) (c0 : Nat) (l0 : List (S84)) (a1 : ByteArray) (a2 : Int) (r : Bool) (w : World) (hr0 : Kd.C k84 w A0 l0.length l0) (hc0 : l0.length ≤ c0) (h : iP.f k l0 a1 a2 = some r) :
  Calls Tryz.prog 119 #[.slice A0 l0.length c0, .string a1, .int .i64 a2] w fun e w' => e = .returned (.bool r) ∧ Below w.heap.size w w' := by
 have hu84 := Tryz.underlying84
 have HR0 := ah.mk hr0
 have HC0 := ah.mk hc0
 clear hr0 hc0
 have HB := ah.mk (Below.refl w.heap.size w)
 unfold iP.f at h
 have H := h
 clear h
 replace H := be H; obtain ⟨t588, A4, H⟩ := H
 obtain rfl := Option.some.inj H
 go_enter Tryz.func119, Tryz.ntmps119
 go_wp2_with (first | ((with_reducible refine ay (f := 169) rfl ?_); refine bq (some 11) Tryz.func169 #[.slice A0 l0.length c0, .agg #[.string a1, .int .i64 a2]] ?_; (with_reducible refine (iL.calls k _ _ l0 a1 a2 t588 _ ?side1 ?side2 A4.out).mono ?_); (case side1 => repeat (first | exact HR0.out | (with_reducible refine Kd.eG ?_ _) | (with_reducible refine Kd.eH ?_ _) | (with_reducible refine Kd.fP ?_))); (case side2 => exact HC0.out); rintro e w5 ⟨rfl, hb⟩; refine ⟨_, rfl, ?_⟩; replace HB := BS (w := w) hb; (try clear hb)))
 go_ret
 exact ⟨EWW, BL⟩
def ig.f (k : Nat) (a0 : ByteArray) : Option (ByteArray) := (bR.f k a0).bind fun t => (if t = true then (if a0.size ≤ 12 then (some (strOfNums (Go.Proofs.YtnfiedfaaaphoaaGreat.HandSort.sorted a0))) else (none)) else (none))
theorem ig.calls (k : Nat) (a0 r : ByteArray) (w : World) (h : ig.f k a0 = some r) :
  Calls Tryz.prog 217 #[.string a0] w fun e w' => e = .returned (.string r) ∧ Below w.heap.size w w' := by
 obtain ⟨t, h1, h2⟩ := Option.bind_eq_some_iff.mp h
 cases t with
 | false => simp at h2
 | true =>
  rw [if_pos rfl] at h2
  by_cases h3 : a0.size ≤ 12
  ·rw [if_pos h3] at h2
   obtain rfl := Option.some.inj h2
   exact Go.Proofs.YtnfiedfaaaphoaaGreat.HandSort.wC a0 w h3 ((bR.calls k a0 true w h1).mono fun e w' hq => ⟨hq.1, hq.2.out⟩)
  ·rw [if_neg h3] at h2
   cases h2
def gL.f (k : Nat) (a0 a1 : ByteArray) : Option (Bool) := (bR.f k a0).bind fun t589 => (if t589 = true then ((bR.f k a1).bind fun t590 => (if t590 = true then (if a0.toList = a1.toList then (some false) else ((ig.f k a0).bind fun t591 => ((ig.f k a1).bind fun t592 => (some (t591.toList == t592.toList))))) else (some false))) else (some false))
theorem gL.calls (k : Nat) (a0 a1 : ByteArray) (r : Bool) (w : World) (h : gL.f k a0 a1 = some r) :
  Calls Tryz.prog 206 #[.string a0, .string a1] w fun e w' => e = .returned (.bool r) ∧ Below w.heap.size w w' := by
 have HB := ah.mk (Below.refl w.heap.size w)
 unfold gL.f at h
 have H := h
 clear h
 replace H := be H; obtain ⟨t589, A3, H⟩ := H
 replace H := ah.mk H
 go_enter Tryz.func206, Tryz.ntmps206
 go_wp2_with (first | ((with_reducible refine ay (f := 145) rfl ?_); refine bq (some 6) Tryz.func145 #[.string a0] ?_; (with_reducible refine (bR.calls k a0 _ _ A3.out).mono ?_); rintro e w' ⟨rfl, ⟨nd, rfl⟩⟩; refine ⟨_, rfl, ?_⟩; refine bP ?_))
 refine Hide.mk ?_
 replace H := H.out
 replace H := ifB H; rcases H with ⟨rfl, H⟩ | ⟨rfl, H⟩
 ·replace H := be H; obtain ⟨t590, A5, H⟩ := H
  replace H := ah.mk H
  go_wp2_with (first | (go_at_call 145; (with_reducible refine (bR.calls k a1 _ _ A5.out).mono ?_); rintro e w' ⟨rfl, ⟨nd, rfl⟩⟩; refine bP ?_))
  refine Hide.mk ?_
  replace H := H.out
  replace H := ifB H; rcases H with ⟨rfl, H⟩ | ⟨rfl, H⟩
  ·replace H := ifE H; rcases H with ⟨c7b0, c7b1, H⟩ | ⟨c7, c7b0, c7b1, H⟩
   ·obtain rfl := Option.some.inj H
    try go_wp2
    go_ret
    exact ⟨EWW, BL⟩
   ·replace H := be H; obtain ⟨t591, A8, H⟩ := H
    replace H := be H; obtain ⟨t592, A9, H⟩ := H
    obtain rfl := Option.some.inj H
    try go_wp2_with (first | (go_at_call 217; (with_reducible refine (ig.calls k a0 t591 _ A8.out).mono ?_); rintro e w9000 ⟨rfl, hb⟩; replace HB := BS (w := w) hb; (try clear hb)) | (go_at_call 217; (with_reducible refine (ig.calls k a1 t592 _ A9.out).mono ?_); rintro e w9001 ⟨rfl, hb⟩; replace HB := BS (w := w) hb; (try clear hb)))
    go_ret
    exact ⟨EWW, BL⟩
  ·obtain rfl := Option.some.inj H
   try go_wp2
   go_ret
   exact ⟨EWW, BL⟩
 ·obtain rfl := Option.some.inj H
  try go_wp2
  go_ret
  exact ⟨EWW, BL⟩
def jV.f (k : Nat) (a0 : ByteArray) : Option (ByteArray) := (bR.f k a0).bind fun t593 => (if t593 = true then (if 0 ≤ 1 then (if 1 ≤ (a0.size : Int) then (some (a0.extract 0 1)) else (none)) else (none)) else (some (⟨#[]⟩ : ByteArray)))
theorem jV.calls (k : Nat) (a0 r : ByteArray) (w : World) (h : jV.f k a0 = some r) :
  Calls Tryz.prog 207 #[.string a0] w fun e w' => e = .returned (.string r) ∧ aC w w' := by
 unfold jV.f at h
 have H := h
 clear h
 replace H := be H; obtain ⟨t593, A2, H⟩ := H
 replace H := ah.mk H
 go_enter Tryz.func207, Tryz.ntmps207
 go_wp2_with (first | ((with_reducible refine ay (f := 145) rfl ?_); refine bq (some 4) Tryz.func145 #[.string a0] ?_; (with_reducible refine (bR.calls k a0 _ _ A2.out).mono ?_); rintro e w' ⟨rfl, ⟨nd, rfl⟩⟩; refine ⟨_, rfl, ?_⟩; refine bP ?_))
 refine Hide.mk ?_
 replace H := H.out
 replace H := ifB H; rcases H with ⟨rfl, H⟩ | ⟨rfl, H⟩
 ·replace H := ifP H; obtain ⟨c4, H⟩ := H
  have c4b0 := eq_true c4
  have c4b1 : decide (0 ≤ 1) = true := decide_eq_true c4
  clear c4
  replace H := ifP H; obtain ⟨c5, H⟩ := H
  have c5b0 := eq_true c5
  have c5b1 : decide (1 ≤ (a0.size : Int)) = true := decide_eq_true c5
  clear c5
  obtain rfl := Option.some.inj H
  try go_wp2
  go_ret
  exact ⟨by first | rfl | (simp; done) | (simp [*]; done), by repeat (first | exact aC.refl _ | apply aC.step)⟩
 ·obtain rfl := Option.some.inj H
  try go_wp2
  go_ret
  exact ⟨by first | rfl | (simp; done) | (simp [*]; done), by repeat (first | exact aC.refl _ | apply aC.step)⟩
def iq.f (k : Nat) (a0 : ByteArray) : Option (ByteArray) := (bR.f k a0).bind fun t594 => (if t594 = true then (if 1 ≤ (a0.size : Int) then (some (a0.extract 1 a0.size)) else (none)) else (some (⟨#[]⟩ : ByteArray)))
theorem iq.calls (k : Nat) (a0 r : ByteArray) (w : World) (h : iq.f k a0 = some r) :
  Calls Tryz.prog 208 #[.string a0] w fun e w' => e = .returned (.string r) ∧ aC w w' := by
 unfold iq.f at h
 have H := h
 clear h
 replace H := be H; obtain ⟨t594, A2, H⟩ := H
 replace H := ah.mk H
 go_enter Tryz.func208, Tryz.ntmps208
 go_wp2_with (first | ((with_reducible refine ay (f := 145) rfl ?_); refine bq (some 4) Tryz.func145 #[.string a0] ?_; (with_reducible refine (bR.calls k a0 _ _ A2.out).mono ?_); rintro e w' ⟨rfl, ⟨nd, rfl⟩⟩; refine ⟨_, rfl, ?_⟩; refine bP ?_))
 refine Hide.mk ?_
 replace H := H.out
 replace H := ifB H; rcases H with ⟨rfl, H⟩ | ⟨rfl, H⟩
 ·replace H := ifP H; obtain ⟨c4, H⟩ := H
  have c4b0 := eq_true c4
  have c4b1 : decide (1 ≤ (a0.size : Int)) = true := decide_eq_true c4
  clear c4
  obtain rfl := Option.some.inj H
  try go_wp2
  go_ret
  exact ⟨by first | rfl | (simp; done) | (simp [*]; done), by repeat (first | exact aC.refl _ | apply aC.step)⟩
 ·obtain rfl := Option.some.inj H
  try go_wp2
  go_ret
  exact ⟨by first | rfl | (simp; done) | (simp [*]; done), by repeat (first | exact aC.refl _ | apply aC.step)⟩
def iA.f (k : Nat) (a0 : ByteArray) : Option (ByteArray) := (bR.f k a0).bind fun t595 => (if t595 = true then (if 0 ≤ (wrap64 ((a0.size : Int) - 1)) then (if (wrap64 ((a0.size : Int) - 1)) ≤ (a0.size : Int) then (some (a0.extract 0 ((wrap64 ((a0.size : Int) - 1)) : Int).toNat)) else (none)) else (none)) else (some (⟨#[]⟩ : ByteArray)))
theorem iA.calls (k : Nat) (a0 r : ByteArray) (w : World) (h : iA.f k a0 = some r) :
  Calls Tryz.prog 209 #[.string a0] w fun e w' => e = .returned (.string r) ∧ aC w w' := by
 unfold iA.f at h
 have H := h
 clear h
 replace H := be H; obtain ⟨t595, A2, H⟩ := H
 replace H := ah.mk H
 go_enter Tryz.func209, Tryz.ntmps209
 go_wp2_with (first | ((with_reducible refine ay (f := 145) rfl ?_); refine bq (some 4) Tryz.func145 #[.string a0] ?_; (with_reducible refine (bR.calls k a0 _ _ A2.out).mono ?_); rintro e w' ⟨rfl, ⟨nd, rfl⟩⟩; refine ⟨_, rfl, ?_⟩; refine bP ?_))
 refine Hide.mk ?_
 replace H := H.out
 replace H := ifB H; rcases H with ⟨rfl, H⟩ | ⟨rfl, H⟩
 ·obtain ⟨ji4, hji4⟩ : ∃ j_ : Int, (wrap64 ((a0.size : Int) - 1)) = j_ := ⟨_, rfl⟩
  replace H : (if 0 ≤ (ji4) then (if (ji4) ≤ (a0.size : Int) then (some (a0.extract 0 ((ji4) : Int).toNat)) else (none)) else (none)) = some r := by first | (rw [hji4] at H; exact H) | (simp only [hji4] at H ⊢; exact H)
  (try rw [hji4] at A2)
  have hji4w : (IntKind.i64.wrap ((a0.size : Int) - 1)) = ji4 := (iV _).trans hji4
  replace H := ifP H; obtain ⟨c5, H⟩ := H
  have c5b0 := eq_true c5
  have c5b1 : decide (0 ≤ (ji4)) = true := decide_eq_true c5
  clear c5
  replace H := ifP H; obtain ⟨c6, H⟩ := H
  have c6b0 := eq_true c6
  have c6b1 : decide ((ji4) ≤ (a0.size : Int)) = true := decide_eq_true c6
  clear c6
  obtain rfl := Option.some.inj H
  try go_wp2
  go_ret
  exact ⟨by first | rfl | (simp; done) | (simp only [← hji4] <;> (first | rfl | simp)) | (simp [*]; done), by repeat (first | exact aC.refl _ | apply aC.step)⟩
 ·obtain rfl := Option.some.inj H
  try go_wp2
  go_ret
  exact ⟨by first | rfl | (simp; done) | (simp [*]; done), by repeat (first | exact aC.refl _ | apply aC.step)⟩
mutual
def cB.j0 : Nat → ByteArray → ByteArray → Bool → Option (Bool)
 | 0, _, _, _ => none
 | k + 1, a, b, c => if c = true then (some false) else (cB.l0 k a b 1)
def cB.l0 : Nat → ByteArray → ByteArray → Int → Option (Bool)
 | 0, _, _, _ => none
 | k + 1, a, b, c => if (wrap64 (c + (a.size : Int))) < (b.size : Int) then (if 0 ≤ c then (if c ≤ (wrap64 (c + (a.size : Int))) then (if (wrap64 (c + (a.size : Int))) ≤ (b.size : Int) then (if (b.extract (c : Int).toNat ((wrap64 (c + (a.size : Int))) : Int).toNat).toList = a.toList then (some true) else (cB.l0 k a b (wrap64 (c + 1)))) else (none)) else (none)) else (none)) else (some false)
end
def cB.f (k : Nat) (a0 a1 : ByteArray) : Option (Bool) := (bR.f k a0).bind fun t596 => (if t596 = true then ((bR.f k a1).bind fun t597 => (cB.j0 k a0 a1 (!t597))) else (cB.j0 k a0 a1 true))
theorem cB.calls (k : Nat) (a0 a1 : ByteArray) (r : Bool) (w : World) (h : cB.f k a0 a1 = some r) :
  Calls Tryz.prog 210 #[.string a0, .string a1] w fun e w' => e = .returned (.bool r) ∧ aC w w' := by
 unfold cB.f at h
 have H := h
 clear h
 have HC3 := ah.mk H
 clear H
 go_enter Tryz.func210, Tryz.ntmps210
 go_upto_region 1 with (fail)
 go_cut [13] (fun v13 wc => ∃ (kq : Nat) (x13_2 : Bool), v13 = .bool x13_2 ∧ ah (cB.j0 kq a0 a1 x13_2 = some r) ∧ ah (kq ≤ k) ∧ aC w wc)
 case first =>
  have H := HC3.out
  clear HC3
  replace H := be H; obtain ⟨t596, A4, H⟩ := H
  replace H := ah.mk H
  go_wp2_with (first | ((with_reducible refine ay (f := 145) rfl ?_); refine bq (some 7) Tryz.func145 #[.string a0] ?_; (with_reducible refine (bR.calls k a0 _ _ A4.out).mono ?_); rintro e w' ⟨rfl, ⟨nd, rfl⟩⟩; refine ⟨_, rfl, ?_⟩; refine bP ?_))
  refine Hide.mk ?_
  replace H := H.out
  replace H := ifB H; rcases H with ⟨rfl, H⟩ | ⟨rfl, H⟩
  ·replace H := be H; obtain ⟨t597, A6, H⟩ := H
   have H' := ah.mk H
   clear H
   try go_wp2_with (first | (go_at_call 145; (with_reducible refine (bR.calls k a1 t597 _ A6.out).mono ?_); rintro e w' ⟨rfl, ⟨nd, rfl⟩⟩))
   go_meet
   case rel => exact ⟨_, (!t597), EQ, H', ⟨by first | omega | exact Nat.le_refl _⟩, by repeat (first | exact aC.refl _ | apply aC.step)⟩
  ·have H' := ah.mk H
   clear H
   try go_wp2
   go_meet
   case rel => exact ⟨_, (true), EQ, H', ⟨by first | omega | exact Nat.le_refl _⟩, by repeat (first | exact aC.refl _ | apply aC.step)⟩
 case rest =>
  clear HC3
  obtain ⟨kq, x13_2, rfl, HA, HJ2, ⟨mc2, rfl⟩⟩ := hcut
  cases kq with
  | zero => exact absurd HA.out (by simp [cB.j0])
  | succ kj2 =>
   have H := HA.out
   clear HA
   simp only [cB.j0] at H
   replace H := ifB H; rcases H with ⟨rfl, H⟩ | ⟨rfl, H⟩
   ·obtain rfl := Option.some.inj H
    go_wp2
    go_ret
    exact ⟨by first | rfl | (simp; done) | (simp [*]; done), by repeat (first | exact aC.refl _ | apply aC.step)⟩
   ·have H' := ah.mk H
    clear H
    go_wp2
    go_loopg [5] kj2 (fun kq v5 w' => ∃ (x5_2 : Int), v5 = .int .i64 x5_2 ∧ ah (cB.l0 kq a0 a1 x5_2 = some r) ∧ ah (kq ≤ kj2) ∧ aC w w')
    case atStart => exact ⟨(1), EQ, H', ⟨Nat.le_refl _⟩, by repeat (first | exact aC.refl _ | apply aC.step)⟩
    case round =>
     clear H'
     try clear c7
     obtain ⟨x5_2, rfl, HA, HK2, ⟨m2, rfl⟩⟩ := hrel
     cases gk with
     | zero => exact absurd HA.out (by simp [cB.l0])
     | succ k2 =>
      have H := HA.out
      clear HA
      simp only [cB.l0] at H
      replace H := ifD H; rcases H with ⟨c8b0, H⟩ | ⟨c8b0, H⟩
      ·replace H := ifP H; obtain ⟨c9, H⟩ := H
       have c9b0 := eq_true c9
       have c9b1 : decide (0 ≤ x5_2) = true := decide_eq_true c9
       clear c9
       replace H := ifP H; obtain ⟨c10, H⟩ := H
       have c10b0 := eq_true c10
       have c10b1 : decide (x5_2 ≤ (wrap64 (x5_2 + (a0.size : Int)))) = true := decide_eq_true c10
       replace H := ifP H; obtain ⟨c11, H⟩ := H
       have c11b0 := eq_true c11
       have c11b1 : decide ((wrap64 (x5_2 + (a0.size : Int))) ≤ (a1.size : Int)) = true := decide_eq_true c11
       replace H := ifE H; rcases H with ⟨c12b0, c12b1, H⟩ | ⟨c12, c12b0, c12b1, H⟩
       ·obtain rfl := Option.some.inj H
        go_wp2
        go_ret
        exact ⟨by first | rfl | (simp; done) | (simp [*]; done), by repeat (first | exact aC.refl _ | apply aC.step)⟩
       ·have H' := ah.mk H
        clear H
        go_wp2
        go_roundg k2
        case measure => have := HJ2.out; have := HK2.out; omega
        case rel => exact ⟨(wrap64 (x5_2 + 1)), EQ, H', ⟨by have := HJ2.out; have := HK2.out; omega⟩, by repeat (first | exact aC.refl _ | apply aC.step)⟩
      ·obtain rfl := Option.some.inj H
       go_wp2
       go_ret
       exact ⟨by first | rfl | (simp; done) | (simp [*]; done), by repeat (first | exact aC.refl _ | apply aC.step)⟩
end Go.Proofs.YtnfiedfaaaphoaaGreat.PFnExactPuzzleCode
