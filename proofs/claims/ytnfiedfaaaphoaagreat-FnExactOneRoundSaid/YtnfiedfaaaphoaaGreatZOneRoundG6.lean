/- Walks of functions: what each computes. -/
import Derived.Test.YtnfiedfaaaphoaaGreatZOneRoundG0
import Derived.Test.YtnfiedfaaaphoaaGreatZOneRoundG4
import Derived.Test.YtnfiedfaaaphoaaGreatZOneRoundG5
import Derived.Test.YtnfiedfaaaphoaaGreatZOneRoundW
import Derived.Test.YtnfiedfaaaphoaaGreatZOneRoundShelf
import Derived.Test.YtnfiedfaaaphoaaGreatZOneRoundHandSort
import Derived.Test.YtnfiedfaaaphoaaGreatZOneRoundHandForm
import Derived.Test.YtnfiedfaaaphoaaGreatZOneRoundHandAlone
import Derived.Test.YtnfiedfaaaphoaaGreatZOneRoundHandReach
import Derived.Test.YtnfiedfaaaphoaaGreatZOneRoundHandPut
namespace Go.Proofs.YtnfiedfaaaphoaaGreat.PFnExactOneRound
open Go.RowKit Go.Proofs.YtnfiedfaaaphoaaGreatW.PrintWords Go.Proofs.YtnfiedfaaaphoaaGreatW.PrintLast Go.Proofs.YtnfiedfaaaphoaaGreatW.PrintMore Go.Proofs.YtnfiedfaaaphoaaGreat.Sq
attribute [local go_sem] lK lG ng mY kD kE lJ lF
set_option maxHeartbeats 8000000
set_option maxRecDepth 100000
set_option linter.unusedVariables false
set_option linter.unusedSimpArgs false
mutual
def bV.l0 : Nat → List (dB) → List (dB) → Int → Int → Option (Bool)
 | 0, _, _, _, _ => none
 | k + 1, a, b, c, d => if d < c then (if 0 ≤ d then (if d < (b.length : Int) then ((dh.f ((aj b d).f0) 1 9).bind fun e => (if e = true then (if ((aj b d).f0) = 1 then ((bM.f k ((aj b d).f1)).bind fun f => (if f = true then (if ((aj b d).f2) = 0 then (if ((aj b d).f3) = 0 then (bV.l0 k a b c (wrap64 (d + 1))) else (some false)) else (some false)) else (some false))) else (if ((aj b d).f1).toList = ([] : List UInt8) then ((lq.f ((aj b d).f2) d).bind fun g => (if g = true then ((jB.f ((aj b d).f0)).bind fun h => (if h = true then (if 0 ≤ ((aj b d).f2) then (if ((aj b d).f2) < (a.length : Int) then (bV.j1 k a d b c d (((aj a ((aj b d).f2)).f0) != 1) ((aj b d).f0) ((aj b d).f1) ((aj b d).f2) ((aj b d).f3)) else (none)) else (none)) else (bV.j1 k a d b c d false ((aj b d).f0) ((aj b d).f1) ((aj b d).f2) ((aj b d).f3)))) else (bV.j1 k a d b c d true ((aj b d).f0) ((aj b d).f1) ((aj b d).f2) ((aj b d).f3)))) else (bV.j1 k a d b c d true ((aj b d).f0) ((aj b d).f1) ((aj b d).f2) ((aj b d).f3)))) else (some false))) else (none)) else (none)) else (some true)
def bV.j1 : Nat → List (dB) → Int → List (dB) → Int → Int → Bool → Int → ByteArray → Int → Int → Option (Bool)
 | 0, _, _, _, _, _, _, _, _, _, _ => none
 | k + 1, a, b, c, d, e, f, g, h, i, j => if f = true then (some false) else ((iY.f g).bind fun l => (if l = true then ((lq.f j b).bind fun m => (if m = true then ((iY.f g).bind fun n => (if n = true then (bV.l0 k a c d (wrap64 (e + 1))) else (if j = 0 then (bV.l0 k a c d (wrap64 (e + 1))) else (some false)))) else (some false))) else ((iY.f g).bind fun o => (if o = true then (bV.l0 k a c d (wrap64 (e + 1))) else (if j = 0 then (bV.l0 k a c d (wrap64 (e + 1))) else (some false))))))
end
def bV.f (k : Nat) (l0 : List (dB)) : Option (Bool) := (dh.f (l0.length : Int) 1 9).bind fun t538 => (if t538 = true then (bV.l0 k l0 l0 (l0.length : Int) 0) else (some false))
theorem bV.calls (k : Nat) (A0 : Option Addr) (c0 : Nat) (l0 : List (dB)) (r : Bool) (w : World) (hr0 : Kd.C jw w A0 l0.length l0) (hc0 : l0.length ≤ c0) (h : bV.f k l0 = some r) :
  Calls Tryz.prog 168 #[.slice A0 l0.length c0] w fun e w' => e = .returned (.bool r) ∧ Below w.heap.size w w' := by
 have hu141 := Tryz.underlying141
 have HR0 := ah.mk hr0
 have HC0 := ah.mk hc0
 clear hr0 hc0
 have HB := ah.mk (Below.refl w.heap.size w)
 unfold bV.f at h
 have H := h
 clear h
 replace H := be H; obtain ⟨t538, A2, H⟩ := H
 replace H := ah.mk H
 go_enter Tryz.func168, Tryz.ntmps168
 go_wp2_with (first | ((with_reducible refine ay (f := 89) rfl ?_); refine bE (some 7) Tryz.func89 #[.int .i64 (l0.length : Int), .int .i64 1, .int .i64 9] ?_; (with_reducible refine (dh.calls (l0.length : Int) 1 9 _ _ A2.out).mono ?_); rintro e w' ⟨rfl, ⟨nd, rfl⟩⟩; refine ⟨_, rfl, ?_⟩; refine bU ?_))
 refine Hide.mk ?_
 replace H := H.out
 replace H := ifB H; rcases H with ⟨rfl, H⟩ | ⟨rfl, H⟩
 ·have H' := ah.mk H
  clear H
  try go_wp2
  go_loopg [11] k (fun kq v11 w' => ∃ (x11_1 : Int), v11 = .int .i64 x11_1 ∧ ah (bV.l0 kq l0 l0 (l0.length : Int) x11_1 = some r) ∧ ah (kq ≤ k) ∧ ah (Below w.heap.size w w'))
  case atStart => exact ⟨(0), EQ, H', ⟨Nat.le_refl _⟩, ⟨BL⟩⟩
  case round =>
   clear H'
   try clear c3
   obtain ⟨x11_1, rfl, HA, HK1, HB⟩ := hrel
   cases gk with
   | zero => exact absurd HA.out (by simp [bV.l0])
   | succ k1 =>
    have H := HA.out
    clear HA
    simp only [bV.l0] at H
    replace H := ifD H; rcases H with ⟨c4b0, H⟩ | ⟨c4b0, H⟩
    ·replace H := ifN H; obtain ⟨c5b0, H⟩ := H
     replace H := ifN H; obtain ⟨c6b0, H⟩ := H
     replace H := be H; obtain ⟨t541, A7, H⟩ := H
     have p539 : 0 ≤ (x11_1 : Int) := OD
     have q539 : x11_1 < (l0.length : Int) := OD
     obtain ⟨ad539, e539, hx539_0, hx539_1, hx539_2, hx539_3⟩ := jN HR0.out x11_1 p539 q539
     cases e539
     try replace hx539_0 := (HB.out.cell (World.block_lt_of_cell? w _ hx539_0)).trans hx539_0
     try replace hx539_1 := (HB.out.cell (World.block_lt_of_cell? w _ hx539_1)).trans hx539_1
     try replace hx539_2 := (HB.out.cell (World.block_lt_of_cell? w _ hx539_2)).trans hx539_2
     try replace hx539_3 := (HB.out.cell (World.block_lt_of_cell? w _ hx539_3)).trans hx539_3
     replace p539 := eq_true p539
     replace q539 := eq_true q539
     replace H := ah.mk H
     go_wp2_with (first | ((with_reducible refine aJ (N := 4) rfl ?_); refine bg (N := 4) (cs := #[.int .i64 0, .string (⟨#[]⟩ : ByteArray), .int .i64 0, .int .i64 0]) (t := 141) ?_; intro gb540 hg w9000 hbox hb; have BK540 := ah.mk hbox; have GW540 := SZ (w := w) hg; have GE540 := GW540; replace HB := BS (w := w) hb; clear hb hbox hg; obtain ⟨hcz9001_0, hcz9001_1, hcz9001_2, hcz9001_3, hfz9001_0, hfz9001_1, hfz9001_2, hfz9001_3⟩ := cz4 BK540.out) | ((with_reducible refine ay (f := 89) rfl ?_); refine bE (some 18) Tryz.func89 #[.int .i64 ((aj l0 x11_1).f0), .int .i64 1, .int .i64 9] ?_; (with_reducible refine (dh.calls ((aj l0 x11_1).f0) 1 9 _ _ A7.out).mono ?_); rintro e w' ⟨rfl, ⟨nd, rfl⟩⟩; refine ⟨_, rfl, ?_⟩; refine bU ?_))
     refine Hide.mk ?_
     replace H := H.out
     replace H := ifB H; rcases H with ⟨rfl, H⟩ | ⟨rfl, H⟩
     ·replace H := ifE H; rcases H with ⟨c9b0, c9b1, H⟩ | ⟨c9, c9b0, c9b1, H⟩
      ·replace H := be H; obtain ⟨t542, A10, H⟩ := H
       replace H := ah.mk H
       go_wp2_with (first | ((with_reducible refine ay (f := 145) rfl ?_); refine bE (some 25) Tryz.func145 #[.string ((aj l0 x11_1).f1)] ?_; (with_reducible refine (bM.calls k1 ((aj l0 x11_1).f1) _ _ A10.out).mono ?_); rintro e w' ⟨rfl, ⟨nd, rfl⟩⟩; refine ⟨_, rfl, ?_⟩; refine bU ?_))
       refine Hide.mk ?_
       replace H := H.out
       replace H := ifB H; rcases H with ⟨rfl, H⟩ | ⟨rfl, H⟩
       ·replace H := ifE H; rcases H with ⟨c12b0, c12b1, H⟩ | ⟨c12, c12b0, c12b1, H⟩
        ·replace H := ifE H; rcases H with ⟨c13b0, c13b1, H⟩ | ⟨c13, c13b0, c13b1, H⟩
         ·have H' := ah.mk H
          clear H
          try go_wp2
          go_roundg k1
          case measure => have := HK1.out; omega
          case rel => exact ⟨(wrap64 (x11_1 + 1)), EQ, H', ⟨by have := HK1.out; omega⟩, ⟨BL⟩⟩
         ·obtain rfl := Option.some.inj H
          try go_wp2
          go_ret
          exact ⟨EWW, BL⟩
        ·obtain rfl := Option.some.inj H
         try go_wp2
         go_ret
         exact ⟨EWW, BL⟩
       ·obtain rfl := Option.some.inj H
        try go_wp2
        go_ret
        exact ⟨EWW, BL⟩
      ·have HC22 := ah.mk H
       clear H
       go_upto_region 11 with (fail)
       (try simp only [Act.put, List.setIfInBounds_toArray, List.set_cons_zero, List.set_cons_succ])
       go_cut [60] (fun v60 wc => ∃ (kq : Nat) (x60_21 : Bool), v60 = .bool x60_21 ∧ ah (bV.j1 kq l0 x11_1 l0 (l0.length : Int) x11_1 x60_21 ((aj l0 x11_1).f0) ((aj l0 x11_1).f1) ((aj l0 x11_1).f2) ((aj l0 x11_1).f3) = some r) ∧ ah (kq ≤ k1) ∧ ah (wc.heap[gb540]? = some (.cells #[.int .i64 ((aj l0 x11_1).f0), .string ((aj l0 x11_1).f1), .int .i64 ((aj l0 x11_1).f2), .int .i64 ((aj l0 x11_1).f3)] 141 (0, 0))) ∧ ah (Below w.heap.size w wc))
       case first =>
        have H := HC22.out
        clear HC22
        obtain ⟨hcz9002_0, hcz9002_1, hcz9002_2, hcz9002_3, hfz9002_0, hfz9002_1, hfz9002_2, hfz9002_3⟩ := cz4 BK540.out
        replace H := ifE H; rcases H with ⟨c25b0, c25b1, H⟩ | ⟨c25, c25b0, c25b1, H⟩
        ·(first | rw [c25b0] | (simp only [iC, jg]; rw [c25b0]) | skip)
         replace H := be H; obtain ⟨t543, A26, H⟩ := H
         replace H := ah.mk H
         go_wp2_with (first | (go_at_call 165; (with_reducible refine (lq.calls ((aj l0 x11_1).f2) x11_1 _ _ A26.out).mono ?_); rintro e w' ⟨rfl, ⟨nd, rfl⟩⟩; refine bU ?_))
         refine Hide.mk ?_
         replace H := H.out
         replace H := ifB H; rcases H with ⟨rfl, H⟩ | ⟨rfl, H⟩
         ·replace H := be H; obtain ⟨t544, A28, H⟩ := H
          replace H := ah.mk H
          go_wp2_with (first | (go_at_call 203; (with_reducible refine (jB.calls ((aj l0 x11_1).f0) _ _ A28.out).mono ?_); rintro e w' ⟨rfl, ⟨nd, rfl⟩⟩; refine bU ?_))
          refine Hide.mk ?_
          replace H := H.out
          replace H := ifB H; rcases H with ⟨rfl, H⟩ | ⟨rfl, H⟩
          ·replace H := ifN H; obtain ⟨c30b0, H⟩ := H
           replace H := ifN H; obtain ⟨c31b0, H⟩ := H
           have H' := ah.mk H
           clear H
           have p545 : 0 ≤ (((aj l0 x11_1).f2) : Int) := OD
           have q545 : ((aj l0 x11_1).f2) < (l0.length : Int) := OD
           obtain ⟨ad545, e545, hx545_0, hx545_1, hx545_2, hx545_3⟩ := jN HR0.out ((aj l0 x11_1).f2) p545 q545
           obtain rfl : ad539 = ad545 := (by injection e545)
           have hn545_0 : ad539.block ≠ gb540 := Nat.ne_of_lt (Nat.lt_of_lt_of_le (by have := World.block_lt_of_cell? _ _ hx545_0; first | rwa [add_block] at this | exact this) GW540.out)
           have hn545_1 : ad539.block ≠ gb540 := Nat.ne_of_lt (Nat.lt_of_lt_of_le (by have := World.block_lt_of_cell? _ _ hx545_0; first | rwa [add_block] at this | exact this) GW540.out)
           have hn545_2 : ad539.block ≠ gb540 := Nat.ne_of_lt (Nat.lt_of_lt_of_le (by have := World.block_lt_of_cell? _ _ hx545_0; first | rwa [add_block] at this | exact this) GW540.out)
           have hn545_3 : ad539.block ≠ gb540 := Nat.ne_of_lt (Nat.lt_of_lt_of_le (by have := World.block_lt_of_cell? _ _ hx545_0; first | rwa [add_block] at this | exact this) GW540.out)
           replace hx545_0 := (HB.out.cell (World.block_lt_of_cell? w _ hx545_0)).trans hx545_0
           replace hx545_1 := (HB.out.cell (World.block_lt_of_cell? w _ hx545_1)).trans hx545_1
           replace hx545_2 := (HB.out.cell (World.block_lt_of_cell? w _ hx545_2)).trans hx545_2
           replace hx545_3 := (HB.out.cell (World.block_lt_of_cell? w _ hx545_3)).trans hx545_3
           replace hx545_0 := (cell_far (p := ⟨gb540, 0, none⟩) AB (.int .i64 ((aj l0 x11_1).f0))).trans hx545_0
           replace hx545_1 := (cell_far (p := ⟨gb540, 0, none⟩) AB (.int .i64 ((aj l0 x11_1).f0))).trans hx545_1
           replace hx545_2 := (cell_far (p := ⟨gb540, 0, none⟩) AB (.int .i64 ((aj l0 x11_1).f0))).trans hx545_2
           replace hx545_3 := (cell_far (p := ⟨gb540, 0, none⟩) AB (.int .i64 ((aj l0 x11_1).f0))).trans hx545_3
           replace hx545_0 := (cell_far (p := ⟨gb540, 1, none⟩) AB (.string ((aj l0 x11_1).f1))).trans hx545_0
           replace hx545_1 := (cell_far (p := ⟨gb540, 1, none⟩) AB (.string ((aj l0 x11_1).f1))).trans hx545_1
           replace hx545_2 := (cell_far (p := ⟨gb540, 1, none⟩) AB (.string ((aj l0 x11_1).f1))).trans hx545_2
           replace hx545_3 := (cell_far (p := ⟨gb540, 1, none⟩) AB (.string ((aj l0 x11_1).f1))).trans hx545_3
           replace hx545_0 := (cell_far (p := ⟨gb540, 2, none⟩) AB (.int .i64 ((aj l0 x11_1).f2))).trans hx545_0
           replace hx545_1 := (cell_far (p := ⟨gb540, 2, none⟩) AB (.int .i64 ((aj l0 x11_1).f2))).trans hx545_1
           replace hx545_2 := (cell_far (p := ⟨gb540, 2, none⟩) AB (.int .i64 ((aj l0 x11_1).f2))).trans hx545_2
           replace hx545_3 := (cell_far (p := ⟨gb540, 2, none⟩) AB (.int .i64 ((aj l0 x11_1).f2))).trans hx545_3
           replace hx545_0 := (cell_far (p := ⟨gb540, 3, none⟩) AB (.int .i64 ((aj l0 x11_1).f3))).trans hx545_0
           replace hx545_1 := (cell_far (p := ⟨gb540, 3, none⟩) AB (.int .i64 ((aj l0 x11_1).f3))).trans hx545_1
           replace hx545_2 := (cell_far (p := ⟨gb540, 3, none⟩) AB (.int .i64 ((aj l0 x11_1).f3))).trans hx545_2
           replace hx545_3 := (cell_far (p := ⟨gb540, 3, none⟩) AB (.int .i64 ((aj l0 x11_1).f3))).trans hx545_3
           clear hn545_0 hn545_1 hn545_2 hn545_3
           replace p545 := eq_true p545
           replace q545 := eq_true q545
           go_wp2
           go_meet
           case rel => exact ⟨_, ((((aj l0 ((aj l0 x11_1).f2)).f0) != 1)), EQ, H', ⟨by have := HK1.out; first | omega | exact Nat.le_refl _⟩, ⟨by (with_reducible repeat (first | refine aG ?_ _ | refine aH ?_ | refine aD ?_ _)); refine aY (cs := #[.int .i64 ((aj l0 x11_1).f0), .string ((aj l0 x11_1).f1), .int .i64 ((aj l0 x11_1).f2), .int .i64 0]) ?_ 3 _ rfl; (with_reducible repeat (first | refine aG ?_ _ | refine aH ?_ | refine aD ?_ _)); refine aY (cs := #[.int .i64 ((aj l0 x11_1).f0), .string ((aj l0 x11_1).f1), .int .i64 0, .int .i64 0]) ?_ 2 _ rfl; (with_reducible repeat (first | refine aG ?_ _ | refine aH ?_ | refine aD ?_ _)); refine aY (cs := #[.int .i64 ((aj l0 x11_1).f0), .string (⟨#[]⟩ : ByteArray), .int .i64 0, .int .i64 0]) ?_ 1 _ rfl; (with_reducible repeat (first | refine aG ?_ _ | refine aH ?_ | refine aD ?_ _)); refine aY (cs := #[.int .i64 0, .string (⟨#[]⟩ : ByteArray), .int .i64 0, .int .i64 0]) ?_ 0 _ rfl; (with_reducible repeat (first | refine aG ?_ _ | refine aH ?_ | refine aD ?_ _)); exact BK540.out⟩, ⟨BL⟩⟩
          ·have H' := ah.mk H
           clear H
           try go_wp2
           go_meet
           case rel => exact ⟨_, (false), EQ, H', ⟨by have := HK1.out; first | omega | exact Nat.le_refl _⟩, ⟨by (with_reducible repeat (first | refine aG ?_ _ | refine aH ?_ | refine aD ?_ _)); refine aY (cs := #[.int .i64 ((aj l0 x11_1).f0), .string ((aj l0 x11_1).f1), .int .i64 ((aj l0 x11_1).f2), .int .i64 0]) ?_ 3 _ rfl; (with_reducible repeat (first | refine aG ?_ _ | refine aH ?_ | refine aD ?_ _)); refine aY (cs := #[.int .i64 ((aj l0 x11_1).f0), .string ((aj l0 x11_1).f1), .int .i64 0, .int .i64 0]) ?_ 2 _ rfl; (with_reducible repeat (first | refine aG ?_ _ | refine aH ?_ | refine aD ?_ _)); refine aY (cs := #[.int .i64 ((aj l0 x11_1).f0), .string (⟨#[]⟩ : ByteArray), .int .i64 0, .int .i64 0]) ?_ 1 _ rfl; (with_reducible repeat (first | refine aG ?_ _ | refine aH ?_ | refine aD ?_ _)); refine aY (cs := #[.int .i64 0, .string (⟨#[]⟩ : ByteArray), .int .i64 0, .int .i64 0]) ?_ 0 _ rfl; (with_reducible repeat (first | refine aG ?_ _ | refine aH ?_ | refine aD ?_ _)); exact BK540.out⟩, ⟨BL⟩⟩
         ·have H' := ah.mk H
          clear H
          try go_wp2
          go_meet
          case rel => exact ⟨_, (true), EQ, H', ⟨by have := HK1.out; first | omega | exact Nat.le_refl _⟩, ⟨by (with_reducible repeat (first | refine aG ?_ _ | refine aH ?_ | refine aD ?_ _)); refine aY (cs := #[.int .i64 ((aj l0 x11_1).f0), .string ((aj l0 x11_1).f1), .int .i64 ((aj l0 x11_1).f2), .int .i64 0]) ?_ 3 _ rfl; (with_reducible repeat (first | refine aG ?_ _ | refine aH ?_ | refine aD ?_ _)); refine aY (cs := #[.int .i64 ((aj l0 x11_1).f0), .string ((aj l0 x11_1).f1), .int .i64 0, .int .i64 0]) ?_ 2 _ rfl; (with_reducible repeat (first | refine aG ?_ _ | refine aH ?_ | refine aD ?_ _)); refine aY (cs := #[.int .i64 ((aj l0 x11_1).f0), .string (⟨#[]⟩ : ByteArray), .int .i64 0, .int .i64 0]) ?_ 1 _ rfl; (with_reducible repeat (first | refine aG ?_ _ | refine aH ?_ | refine aD ?_ _)); refine aY (cs := #[.int .i64 0, .string (⟨#[]⟩ : ByteArray), .int .i64 0, .int .i64 0]) ?_ 0 _ rfl; (with_reducible repeat (first | refine aG ?_ _ | refine aH ?_ | refine aD ?_ _)); exact BK540.out⟩, ⟨BL⟩⟩
        ·(first | rw [c25b0] | (simp only [iC, jg]; rw [c25b0]) | skip)
         have H' := ah.mk H
         clear H
         go_wp2
         go_meet
         case rel => exact ⟨_, (true), EQ, H', ⟨by have := HK1.out; first | omega | exact Nat.le_refl _⟩, ⟨by (with_reducible repeat (first | refine aG ?_ _ | refine aH ?_ | refine aD ?_ _)); refine aY (cs := #[.int .i64 ((aj l0 x11_1).f0), .string ((aj l0 x11_1).f1), .int .i64 ((aj l0 x11_1).f2), .int .i64 0]) ?_ 3 _ rfl; (with_reducible repeat (first | refine aG ?_ _ | refine aH ?_ | refine aD ?_ _)); refine aY (cs := #[.int .i64 ((aj l0 x11_1).f0), .string ((aj l0 x11_1).f1), .int .i64 0, .int .i64 0]) ?_ 2 _ rfl; (with_reducible repeat (first | refine aG ?_ _ | refine aH ?_ | refine aD ?_ _)); refine aY (cs := #[.int .i64 ((aj l0 x11_1).f0), .string (⟨#[]⟩ : ByteArray), .int .i64 0, .int .i64 0]) ?_ 1 _ rfl; (with_reducible repeat (first | refine aG ?_ _ | refine aH ?_ | refine aD ?_ _)); refine aY (cs := #[.int .i64 0, .string (⟨#[]⟩ : ByteArray), .int .i64 0, .int .i64 0]) ?_ 0 _ rfl; (with_reducible repeat (first | refine aG ?_ _ | refine aH ?_ | refine aD ?_ _)); exact BK540.out⟩, ⟨BL⟩⟩
       case rest =>
        clear HC22
        try clear c3
        try clear c4
        try clear c4b0
        try clear c5
        try clear c5b0
        try clear c6
        try clear c6b0
        try clear c8
        try clear c9
        try clear c9b0
        try clear c9b1
        try clear hcz9001_0
        try clear hcz9001_1
        try clear hcz9001_2
        try clear hcz9001_3
        try clear hfz9001_0
        try clear hfz9001_1
        try clear hfz9001_2
        try clear hfz9001_3
        try clear hx539_0
        try clear hx539_1
        try clear hx539_2
        try clear hx539_3
        try clear p539
        try clear q539
        obtain ⟨kq, x60_21, rfl, HA, HJ21, BK540, HB⟩ := hcut
        cases kq with
        | zero => exact absurd HA.out (by simp [bV.j1])
        | succ kj21 =>
         have H := HA.out
         clear HA
         simp only [bV.j1] at H
         replace H := ifB H; rcases H with ⟨rfl, H⟩ | ⟨rfl, H⟩
         ·obtain rfl := Option.some.inj H
          go_wp2
          go_ret
          exact ⟨EWW, BL⟩
         ·replace H := be H; obtain ⟨t546, A37, H⟩ := H
          obtain ⟨hcz9003_0, hcz9003_1, hcz9003_2, hcz9003_3, hfz9003_0, hfz9003_1, hfz9003_2, hfz9003_3⟩ := cz4 BK540.out
          replace H := ah.mk H
          go_wp2_with (first | ((with_reducible refine ay (f := 204) rfl ?_); refine bE (some 63) Tryz.func204 #[.int .i64 ((aj l0 x11_1).f0)] ?_; (with_reducible refine (iY.calls ((aj l0 x11_1).f0) _ _ A37.out).mono ?_); rintro e w' ⟨rfl, ⟨nd, rfl⟩⟩; refine ⟨_, rfl, ?_⟩; refine bU ?_))
          refine Hide.mk ?_
          replace H := H.out
          replace H := ifB H; rcases H with ⟨rfl, H⟩ | ⟨rfl, H⟩
          ·replace H := be H; obtain ⟨t547, A39, H⟩ := H
           replace H := ah.mk H
           go_wp2_with (first | (go_at_call 165; (with_reducible refine (lq.calls ((aj l0 x11_1).f3) x11_1 _ _ A39.out).mono ?_); rintro e w' ⟨rfl, ⟨nd, rfl⟩⟩; refine bU ?_))
           refine Hide.mk ?_
           replace H := H.out
           replace H := ifB H; rcases H with ⟨rfl, H⟩ | ⟨rfl, H⟩
           ·replace H := be H; obtain ⟨t548, A41, H⟩ := H
            replace H := ah.mk H
            go_wp2_with (first | (go_at_call 204; (with_reducible refine (iY.calls ((aj l0 x11_1).f0) _ _ A41.out).mono ?_); rintro e w' ⟨rfl, ⟨nd, rfl⟩⟩; refine bU ?_))
            refine Hide.mk ?_
            replace H := H.out
            replace H := ifB H; rcases H with ⟨rfl, H⟩ | ⟨rfl, H⟩
            ·have H' := ah.mk H
             clear H
             try go_wp2
             go_roundg kj21
             case measure => have := HK1.out; have := HJ21.out; omega
             case rel => exact ⟨(wrap64 (x11_1 + 1)), EQ, H', ⟨by have := HK1.out; have := HJ21.out; omega⟩, ⟨BL⟩⟩
            ·replace H := ifE H; rcases H with ⟨c44b0, c44b1, H⟩ | ⟨c44, c44b0, c44b1, H⟩
             ·have H' := ah.mk H
              clear H
              try go_wp2
              go_roundg kj21
              case measure => have := HK1.out; have := HJ21.out; omega
              case rel => exact ⟨(wrap64 (x11_1 + 1)), EQ, H', ⟨by have := HK1.out; have := HJ21.out; omega⟩, ⟨BL⟩⟩
             ·obtain rfl := Option.some.inj H
              try go_wp2
              go_ret
              exact ⟨EWW, BL⟩
           ·obtain rfl := Option.some.inj H
            try go_wp2
            go_ret
            exact ⟨EWW, BL⟩
          ·replace H := be H; obtain ⟨t549, A48, H⟩ := H
           replace H := ah.mk H
           go_wp2_with (first | (go_at_call 204; (with_reducible refine (iY.calls ((aj l0 x11_1).f0) _ _ A48.out).mono ?_); rintro e w' ⟨rfl, ⟨nd, rfl⟩⟩; refine bU ?_))
           refine Hide.mk ?_
           replace H := H.out
           replace H := ifB H; rcases H with ⟨rfl, H⟩ | ⟨rfl, H⟩
           ·have H' := ah.mk H
            clear H
            try go_wp2
            go_roundg kj21
            case measure => have := HK1.out; have := HJ21.out; omega
            case rel => exact ⟨(wrap64 (x11_1 + 1)), EQ, H', ⟨by have := HK1.out; have := HJ21.out; omega⟩, ⟨BL⟩⟩
           ·replace H := ifE H; rcases H with ⟨c51b0, c51b1, H⟩ | ⟨c51, c51b0, c51b1, H⟩
            ·have H' := ah.mk H
             clear H
             try go_wp2
             go_roundg kj21
             case measure => have := HK1.out; have := HJ21.out; omega
             case rel => exact ⟨(wrap64 (x11_1 + 1)), EQ, H', ⟨by have := HK1.out; have := HJ21.out; omega⟩, ⟨BL⟩⟩
            ·obtain rfl := Option.some.inj H
             try go_wp2
             go_ret
             exact ⟨EWW, BL⟩
     ·obtain rfl := Option.some.inj H
      try go_wp2
      go_ret
      exact ⟨EWW, BL⟩
    ·obtain rfl := Option.some.inj H
     go_wp2
     go_ret
     exact ⟨EWW, BL⟩
 ·obtain rfl := Option.some.inj H
  try go_wp2
  go_ret
  exact ⟨EWW, BL⟩
def kQ.f (k : Nat) (FV : Int) (F7 : List (dB)) : Option (Bool) := (dh.f FV 1 99).bind fun t551 => (if t551 = true then ((bV.f k F7).bind fun t552 => (some t552)) else (some false))
theorem kQ.calls (k : Nat) (FV : Int) (A0_1 : Option Addr) (c0_1 : Nat) (F7 : List (dB)) (r : Bool) (w : World) (hr0_1 : Kd.C jw w A0_1 F7.length F7) (hc0_1 : F7.length ≤ c0_1) (h : kQ.f k FV F7 = some r) :
  Calls Tryz.prog 118 #[.agg #[.int .i64 FV, .slice A0_1 F7.length c0_1]] w fun e w' => e = .returned (.bool r) ∧ Below w.heap.size w w' := by
 have hu82 := Tryz.underlying82
 have HR0_1 := ah.mk hr0_1
 have HC0_1 := ah.mk hc0_1
 clear hr0_1 hc0_1
 have HB := ah.mk (Below.refl w.heap.size w)
 unfold kQ.f at h
 have H := h
 clear h
 replace H := be H; obtain ⟨t551, A2, H⟩ := H
 replace H := ah.mk H
 go_enter Tryz.func118, Tryz.ntmps118
 go_wp2_with (first | ((with_reducible refine aJ (N := 1) rfl ?_); refine bg (N := 1) (cs := #[.int .i64 FV, .slice A0_1 F7.length c0_1]) (t := 82) ?_; intro gb550 hg w9000 hbox hb; have BK550 := ah.mk hbox; have GW550 := SZ (w := w) hg; have GE550 := GW550; replace HB := BS (w := w) hb; clear hb hbox hg; obtain ⟨hcz9001_0, hcz9001_1, hfz9001_0, hfz9001_1⟩ := cz2 BK550.out) | ((with_reducible refine ay (f := 89) rfl ?_); refine bE (some 5) Tryz.func89 #[.int .i64 FV, .int .i64 1, .int .i64 99] ?_; (with_reducible refine (dh.calls FV 1 99 _ _ A2.out).mono ?_); rintro e w' ⟨rfl, ⟨nd, rfl⟩⟩; refine ⟨_, rfl, ?_⟩; refine bU ?_))
 refine Hide.mk ?_
 replace H := H.out
 replace H := ifB H; rcases H with ⟨rfl, H⟩ | ⟨rfl, H⟩
 ·replace H := be H; obtain ⟨t552, A4, H⟩ := H
  obtain rfl := Option.some.inj H
  try go_wp2_with (first | (go_at_call 168; (with_reducible refine (bV.calls k _ _ F7 t552 _ ?side1 ?side2 A4.out).mono ?_); (case side1 => repeat (first | exact (Kd.eO HR0_1.out BL) | (with_reducible refine Kd.gy ?_ _) | (with_reducible refine Kd.gD ?_ _) | (with_reducible refine Kd.ig ?_))); (case side2 => exact HC0_1.out); rintro e w9002 ⟨rfl, hb⟩; replace BK550 := KB BK550 hb; replace HB := BS (w := w) hb; (try clear hb)))
  go_ret
  exact ⟨EWW, BL⟩
 ·obtain rfl := Option.some.inj H
  try go_wp2
  go_ret
  exact ⟨EWW, BL⟩
def jc.f (k : Nat) (FV : Int) (F7 : List (dB)) : Option (Bool) := (kQ.f k FV F7).bind fun t554 => (some (!t554))
theorem jc.calls (k : Nat) (FV : Int) (A0_1 : Option Addr) (c0_1 : Nat) (F7 : List (dB)) (r : Bool) (w : World) (hr0_1 : Kd.C jw w A0_1 F7.length F7) (hc0_1 : F7.length ≤ c0_1) (h : jc.f k FV F7 = some r) :
  Calls Tryz.prog 128 #[.agg #[.int .i64 FV, .slice A0_1 F7.length c0_1]] w fun e w' => e = .returned (.bool r) ∧ Below w.heap.size w w' := by
 have hu82 := Tryz.underlying82
 have HR0_1 := ah.mk hr0_1
 have HC0_1 := ah.mk hc0_1
 clear hr0_1 hc0_1
 have HB := ah.mk (Below.refl w.heap.size w)
 unfold jc.f at h
 have H := h
 clear h
 replace H := be H; obtain ⟨t554, A2, H⟩ := H
 obtain rfl := Option.some.inj H
 go_enter Tryz.func128, Tryz.ntmps128
 go_wp2_with (first | ((with_reducible refine aJ (N := 1) rfl ?_); refine bg (N := 1) (cs := #[.int .i64 FV, .slice A0_1 F7.length c0_1]) (t := 82) ?_; intro gb553 hg w3 hbox hb; have BK553 := ah.mk hbox; have GW553 := SZ (w := w) hg; have GE553 := GW553; replace HB := BS (w := w) hb; clear hb hbox hg; obtain ⟨hcz4_0, hcz4_1, hfz4_0, hfz4_1⟩ := cz2 BK553.out) | ((with_reducible refine ay (f := 118) rfl ?_); refine bE (some 4) Tryz.func118 #[.agg #[.int .i64 FV, .slice A0_1 F7.length c0_1]] ?_; (with_reducible refine (kQ.calls k FV _ _ F7 t554 _ ?side1 ?side2 A2.out).mono ?_); (case side1 => exact CB HR0_1); (case side2 => exact HC0_1.out); rintro e w5 ⟨rfl, hb⟩; refine ⟨_, rfl, ?_⟩; replace BK553 := KB BK553 hb; replace HB := BS (w := w) hb; (try clear hb)))
 go_ret
 exact ⟨EWW, BL⟩
def fH.l0 : Nat → List (S82) → Int → Int → Option (Int)
 | 0, _, _, _ => none
 | k + 1, a, b, c => if c < b then (if 0 ≤ c then (if c < (a.length : Int) then ((jc.f k ((fG a c).f0) ((fG a c).f1)).bind fun d => (if d = true then (some c) else (fH.l0 k a b (wrap64 (c + 1))))) else (none)) else (none)) else (some (-1))
def fH.f (k : Nat) (l0 : List (S82)) (a1 : ByteArray) : Option (Int) := fH.l0 k l0 (l0.length : Int) 0
theorem fH.calls (k : Nat) (A0 : Option Addr) (c0 : Nat) (l0 : List (S82)) (a1 : ByteArray) (r : Int) (w : World) (hr0 : Kd.C k82 w A0 l0.length l0) (hc0 : l0.length ≤ c0) (h : fH.f k l0 a1 = some r) :
  Calls Tryz.prog 175 #[.slice A0 l0.length c0, .func (.func 128) #[] #[]] w fun e w' => e = .returned (.int .i64 r) ∧ Below w.heap.size w w' := by
 have hu82 := Tryz.underlying82
 have HR0 := ah.mk hr0
 have HC0 := ah.mk hc0
 clear hr0 hc0
 have HB := ah.mk (Below.refl w.heap.size w)
 unfold fH.f at h
 have H := h
 clear h
 have H' := ah.mk H
 clear H
 go_enter Tryz.func175, Tryz.ntmps175
 go_wp2
 go_loopg [8] k (fun kq v8 w' => ∃ (x8_1 : Int), v8 = .int .i64 x8_1 ∧ ah (fH.l0 kq l0 (l0.length : Int) x8_1 = some r) ∧ ah (kq ≤ k) ∧ ah (Below w.heap.size w w'))
 case atStart => exact ⟨(0), EQ, H', ⟨Nat.le_refl _⟩, ⟨BL⟩⟩
 case round =>
  clear H'
  obtain ⟨x8_1, rfl, HA, HK1, HB⟩ := hrel
  cases gk with
  | zero => exact absurd HA.out (by simp [fH.l0])
  | succ k1 =>
   have H := HA.out
   clear HA
   simp only [fH.l0] at H
   replace H := ifD H; rcases H with ⟨c3b0, H⟩ | ⟨c3b0, H⟩
   ·replace H := ifN H; obtain ⟨c4b0, H⟩ := H
    replace H := ifN H; obtain ⟨c5b0, H⟩ := H
    replace H := be H; obtain ⟨t556, A6, H⟩ := H
    have p555 : 0 ≤ (x8_1 : Int) := OD
    have q555 : x8_1 < (l0.length : Int) := OD
    obtain ⟨ad555, A555_1, c555_1, e555, hx555_0, hx555_1, hl555_1, hi555_1⟩ := ug HR0.out x8_1 p555 q555
    cases e555
    try replace hx555_0 := (HB.out.cell (World.block_lt_of_cell? w _ hx555_0)).trans hx555_0
    try replace hx555_1 := (HB.out.cell (World.block_lt_of_cell? w _ hx555_1)).trans hx555_1
    have HR555_1 := ah.mk hi555_1
    have HC555_1 := ah.mk hl555_1
    clear hi555_1 hl555_1
    replace p555 := eq_true p555
    replace q555 := eq_true q555
    replace H := ah.mk H
    go_wp2_with (first | ((with_reducible refine (jc.calls k1 ((fG l0 x8_1).f0) _ _ ((fG l0 x8_1).f1) _ _ ?side1 ?side2 A6.out).mono ?_); (case side1 => exact CB HR555_1); (case side2 => exact HC555_1.out); rintro e w7000 ⟨rfl, hb⟩; replace HB := BS (w := w) hb; (try clear hb); (try clear hb2); (try clear hk); (try clear hi); refine bU ?_))
    refine Hide.mk ?_
    replace H := H.out
    replace H := ifB H; rcases H with ⟨rfl, H⟩ | ⟨rfl, H⟩
    ·obtain rfl := Option.some.inj H
     try go_wp2
     go_ret
     exact ⟨EWW, BL⟩
    ·have H' := ah.mk H
     clear H
     try go_wp2
     go_roundg k1
     case measure => have := HK1.out; omega
     case rel => exact ⟨(wrap64 (x8_1 + 1)), EQ, H', ⟨by have := HK1.out; omega⟩, ⟨BL⟩⟩
   ·obtain rfl := Option.some.inj H
    go_wp2
    go_ret
    exact ⟨EWW, BL⟩
def jM.f (k : Nat) (l0 : List (S82)) (a1 : ByteArray) : Option (Bool) := (fH.f k l0 a1).bind fun t557 => (some (decide (t557 ≥ 0)))
theorem jM.calls (k : Nat) (A0 : Option Addr) (c0 : Nat) (l0 : List (S82)) (a1 : ByteArray) (r : Bool) (w : World) (hr0 : Kd.C k82 w A0 l0.length l0) (hc0 : l0.length ≤ c0) (h : jM.f k l0 a1 = some r) :
  Calls Tryz.prog 127 #[.slice A0 l0.length c0, .func (.func 128) #[] #[]] w fun e w' => e = .returned (.bool r) ∧ Below w.heap.size w w' := by
 have HR0 := ah.mk hr0
 have HC0 := ah.mk hc0
 clear hr0 hc0
 have HB := ah.mk (Below.refl w.heap.size w)
 unfold jM.f at h
 have H := h
 clear h
 replace H := be H; obtain ⟨t557, A3, H⟩ := H
 obtain rfl := Option.some.inj H
 go_enter Tryz.func127, Tryz.ntmps127
 go_wp2_with (first | ((with_reducible refine ay (f := 175) rfl ?_); refine bE (some 7) Tryz.func175 #[.slice A0 l0.length c0, .func (.func 128) #[] #[]] ?_; (with_reducible refine (fH.calls k _ _ l0 a1 t557 _ ?side1 ?side2 A3.out).mono ?_); (case side1 => repeat (first | exact HR0.out | (with_reducible refine Kd.gy ?_ _) | (with_reducible refine Kd.gD ?_ _) | (with_reducible refine Kd.ig ?_))); (case side2 => exact HC0.out); rintro e w4 ⟨rfl, hb⟩; refine ⟨_, rfl, ?_⟩; replace HB := BS (w := w) hb; (try clear hb)))
 go_ret
 exact ⟨EWW, BL⟩
def jI.f (k : Nat) (FV FW : Int) (FX : ByteArray) (F4 : List (S82)) (F5 : List Int) (F6 : Int) : Option (Bool) := (dD.f k FV FW FX).bind fun t559 => (if t559 = 0 then ((aZ.f k FV FW FX).bind fun t560 => (if (F4.length : Int) = (t560.length : Int) then (if (F5.length : Int) = (t560.length : Int) then ((dh.f F6 1 9999).bind fun t563 => (if t563 = true then ((jM.f k F4 (⟨#[70, 73, 88]⟩ : ByteArray)).bind fun t564 => (some (!t564))) else (some false))) else (some false)) else (some false))) else (some false))
theorem jI.calls (k : Nat) (FV FW : Int) (FX : ByteArray) (A0_3 : Option Addr) (c0_3 : Nat) (F4 : List (S82)) (A0_4 : Option Addr) (c0_4 : Nat) (F5 : List Int) (F6 : Int) (r : Bool) (w : World) (hr0_3 : Kd.C k82 w A0_3 F4.length F4) (hc0_3 : F4.length ≤ c0_3) (hr0_4 : Kd.C (Kd.int .i64) w A0_4 F5.length F5) (hc0_4 : F5.length ≤ c0_4) (h : jI.f k FV FW FX F4 F5 F6 = some r) :
  Calls Tryz.prog 71 #[.agg #[.int .i64 FV, .int .i64 FW, .string FX, .slice A0_3 F4.length c0_3, .slice A0_4 F5.length c0_4, .int .i64 F6]] w fun e w' => e = .returned (.bool r) ∧ Below w.heap.size w w' := by
 have hu49 := Tryz.underlying49
 have hu32 := Tryz.underlying32
 have HR0_3 := ah.mk hr0_3
 have HC0_3 := ah.mk hc0_3
 clear hr0_3 hc0_3
 have HR0_4 := ah.mk hr0_4
 have HC0_4 := ah.mk hc0_4
 clear hr0_4 hc0_4
 have HB := ah.mk (Below.refl w.heap.size w)
 unfold jI.f at h
 have H := h
 clear h
 replace H := be H; obtain ⟨t559, A2, H⟩ := H
 replace H := ah.mk H
 go_enter Tryz.func71, Tryz.ntmps71
 go_wp2_with (first | ((with_reducible refine aJ (N := 1) rfl ?_); (try (refine jd (by rfl) ?_; dsimp only)); refine bg (N := 1) (cs := #[.int .i64 FV, .int .i64 FW, .string FX, .slice A0_3 F4.length c0_3, .slice A0_4 F5.length c0_4, .int .i64 F6]) (t := 49) ?_; intro gb558 hg w9000 hbox hb; have BK558 := ah.mk hbox; have GW558 := SZ (w := w) hg; have GE558 := GW558; replace HB := BS (w := w) hb; clear hb hbox hg; obtain ⟨hcz9001_0, hcz9001_1, hcz9001_2, hcz9001_3, hcz9001_4, hcz9001_5, hfz9001_0, hfz9001_1, hfz9001_2, hfz9001_3, hfz9001_4, hfz9001_5⟩ := cz6 BK558.out) | ((with_reducible refine ay (f := 56) rfl ?_); refine bE (some 6) Tryz.func56 #[.agg #[.int .i64 FV, .int .i64 FW, .string FX]] ?_; (with_reducible refine (dD.calls k FV FW FX t559 _ A2.out).mono ?_); rintro e w9002 ⟨rfl, hb⟩; refine ⟨_, rfl, ?_⟩; replace BK558 := KB BK558 hb; replace HB := BS (w := w) hb; (try clear hb); obtain ⟨hcz9003_0, hcz9003_1, hcz9003_2, hcz9003_3, hcz9003_4, hcz9003_5, hfz9003_0, hfz9003_1, hfz9003_2, hfz9003_3, hfz9003_4, hfz9003_5⟩ := cz6 BK558.out; refine bU ?_))
 refine Hide.mk ?_
 replace H := H.out
 replace H := ifE H; rcases H with ⟨c3b0, c3b1, H⟩ | ⟨c3, c3b0, c3b1, H⟩
 ·replace H := be H; obtain ⟨t560, A4, H⟩ := H
  replace H := ah.mk H
  go_wp2_with (first | ((with_reducible refine ay (f := 113) rfl ?_); refine bE (some 10) Tryz.func113 #[.agg #[.int .i64 FV, .int .i64 FW, .string FX]] ?_; (with_reducible refine (aZ.calls k FV FW FX t560 _ A4.out).mono ?_); rintro e w9004 ⟨v561, rfl, ho0, hb⟩; refine ⟨_, rfl, ?_⟩; have n0_ := ah.mk (Kd.cO ho0 (aQ BL)); replace BK558 := KB BK558 hb; replace HB := BS (w := w) hb; have HO562 := n0_; clear n0_; (try clear hb); (try clear ho0); obtain ⟨Ao9005, co9005, eo9005⟩ := Kd.dL HO562.out; subst eo9005; obtain ⟨hcz9006_0, hcz9006_1, hcz9006_2, hcz9006_3, hcz9006_4, hcz9006_5, hfz9006_0, hfz9006_1, hfz9006_2, hfz9006_3, hfz9006_4, hfz9006_5⟩ := cz6 BK558.out; refine bU ?_))
  refine Hide.mk ?_
  replace H := H.out
  by_cases c5 : (F4.length : Int) = (t560.length : Int)
  ·rw [if_pos c5] at H
   have c5b0 : ((F4.length : Int) == (t560.length : Int)) = true := beq_iff_eq.mpr c5
   have c5b1 : ((F4.length : Int) != (t560.length : Int)) = false := bne_eq_false_iff_eq.mpr c5
   have c5b2 : (F4.length == t560.length) = true := by first | simpa using c5 | (simp at c5 ⊢; omega)
   clear c5
   by_cases c6 : (F5.length : Int) = (t560.length : Int)
   ·rw [if_pos c6] at H
    have c6b0 : ((F5.length : Int) == (t560.length : Int)) = true := beq_iff_eq.mpr c6
    have c6b1 : ((F5.length : Int) != (t560.length : Int)) = false := bne_eq_false_iff_eq.mpr c6
    have c6b2 : (F5.length == t560.length) = true := by first | simpa using c6 | (simp at c6 ⊢; omega)
    clear c6
    replace H := be H; obtain ⟨t563, A7, H⟩ := H
    replace H := ah.mk H
    go_wp2_with (first | (go_at_call 89; (with_reducible refine (dh.calls F6 1 9999 _ _ A7.out).mono ?_); rintro e w' ⟨rfl, ⟨nd, rfl⟩⟩; refine bU ?_))
    refine Hide.mk ?_
    replace H := H.out
    replace H := ifB H; rcases H with ⟨rfl, H⟩ | ⟨rfl, H⟩
    ·replace H := be H; obtain ⟨t564, A9, H⟩ := H
     obtain rfl := Option.some.inj H
     try go_wp2_with (first | (go_at_call 127; (with_reducible refine (jM.calls k _ _ F4 (⟨#[70, 73, 88]⟩ : ByteArray) t564 _ ?side1 ?side2 A9.out).mono ?_); (case side1 => repeat (first | exact (Kd.eO HR0_3.out BL) | (with_reducible refine Kd.gy ?_ _) | (with_reducible refine Kd.gD ?_ _) | (with_reducible refine Kd.ig ?_))); (case side2 => exact HC0_3.out); rintro e w9007 ⟨rfl, hb⟩; replace HO562 := RB HO562 hb; replace BK558 := KB BK558 hb; replace HB := BS (w := w) hb; (try clear hb)))
     go_ret
     exact ⟨EWW, BL⟩
    ·obtain rfl := Option.some.inj H
     try go_wp2
     go_ret
     exact ⟨EWW, BL⟩
   ·rw [if_neg c6] at H
    have c6b0 : ((F5.length : Int) == (t560.length : Int)) = false := beq_eq_false_iff_ne.mpr c6
    have c6b1 : ((F5.length : Int) != (t560.length : Int)) = true := bne_iff_ne.mpr c6
    have c6b2 : (F5.length == t560.length) = false := by first | simpa using c6 | (simp at c6 ⊢; omega)
    obtain rfl := Option.some.inj H
    try go_wp2
    go_ret
    exact ⟨EWW, BL⟩
  ·rw [if_neg c5] at H
   have c5b0 : ((F4.length : Int) == (t560.length : Int)) = false := beq_eq_false_iff_ne.mpr c5
   have c5b1 : ((F4.length : Int) != (t560.length : Int)) = true := bne_iff_ne.mpr c5
   have c5b2 : (F4.length == t560.length) = false := by first | simpa using c5 | (simp at c5 ⊢; omega)
   obtain rfl := Option.some.inj H
   try go_wp2
   go_ret
   exact ⟨EWW, BL⟩
 ·obtain rfl := Option.some.inj H
  try go_wp2
  go_ret
  exact ⟨EWW, BL⟩
mutual
def dx.j0 : Nat → ByteArray → Bool → Int → Int → ByteArray → Option (Bool)
 | 0, _, _, _, _, _ => none
 | k + 1, a, b, c, d, e => if b = true then (some false) else (dx.l0 k a (a.size : Int) 0 c d e)
def dx.l0 : Nat → ByteArray → Int → Int → Int → Int → ByteArray → Option (Bool)
 | 0, _, _, _, _, _, _ => none
 | k + 1, a, b, c, d, e, f => if c < b then (if 0 ≤ c then (if c < (f.size : Int) then (if c < (a.size : Int) then (if (((bt f c) == 35) != ((bt a c) == 35)) = true then (some false) else (if (bt a c) = 35 then (dx.l0 k a b (wrap64 (c + 1)) d e f) else (if (bt a c) = 63 then (dx.l0 k a b (wrap64 (c + 1)) d e f) else ((dZ.f (bt a c)).bind fun g => (if g = true then (dx.l0 k a b (wrap64 (c + 1)) d e f) else (some false)))))) else (none)) else (none)) else (none)) else (some true)
end
def dx.f (k : Nat) (FV FW : Int) (FX a1 : ByteArray) : Option (Bool) := (bD.f k FV FW FX).bind fun t566 => (if t566 = true then (dx.j0 k a1 ((a1.size : Int) != (FX.size : Int)) FV FW FX) else (dx.j0 k a1 true FV FW FX))
theorem dx.calls (k : Nat) (FV FW : Int) (FX a1 : ByteArray) (r : Bool) (w : World) (h : dx.f k FV FW FX a1 = some r) :
  Calls Tryz.prog 81 #[.agg #[.int .i64 FV, .int .i64 FW, .string FX], .string a1] w fun e w' => e = .returned (.bool r) ∧ Below w.heap.size w w' := by
 have hu32 := Tryz.underlying32
 have HB := ah.mk (Below.refl w.heap.size w)
 unfold dx.f at h
 have H := h
 clear h
 have HC3 := ah.mk H
 clear H
 go_enter Tryz.func81, Tryz.ntmps81
 go_upto_region 1 with (first | ((with_reducible refine aJ (N := 2) rfl ?_); (try (refine jd (by rfl) ?_; dsimp only)); refine bg (N := 2) (cs := #[.int .i64 FV, .int .i64 FW, .string FX]) (t := 32) ?_; intro gb565 hg w4 hbox hb; have BK565 := ah.mk hbox; have GW565 := SZ (w := w) hg; have GE565 := GW565; replace HB := BS (w := w) hb; clear hb hbox hg))
 repeat (go_quiet (first | ((with_reducible refine aJ (N := 2) rfl ?_); (try (refine jd (by rfl) ?_; dsimp only)); refine bg (N := 2) (cs := #[.int .i64 FV, .int .i64 FW, .string FX]) (t := 32) ?_; intro gb565 hg w4 hbox hb; have BK565 := ah.mk hbox; have GW565 := SZ (w := w) hg; have GE565 := GW565; replace HB := BS (w := w) hb; clear hb hbox hg)); go_upto_region 1 with (first | ((with_reducible refine aJ (N := 2) rfl ?_); (try (refine jd (by rfl) ?_; dsimp only)); refine bg (N := 2) (cs := #[.int .i64 FV, .int .i64 FW, .string FX]) (t := 32) ?_; intro gb565 hg w4 hbox hb; have BK565 := ah.mk hbox; have GW565 := SZ (w := w) hg; have GE565 := GW565; replace HB := BS (w := w) hb; clear hb hbox hg)))
 (try simp only [Act.put, List.setIfInBounds_toArray, List.set_cons_zero, List.set_cons_succ])
 go_cut [16] (fun v16 wc => ∃ (kq : Nat) (x16_2 : Bool), v16 = .bool x16_2 ∧ ah (dx.j0 kq a1 x16_2 FV FW FX = some r) ∧ ah (kq ≤ k) ∧ ah (wc.heap[gb565]? = some (.cells #[.int .i64 FV, .int .i64 FW, .string FX] 32 (0, 0))) ∧ ah (Below w.heap.size w wc))
 case first =>
  have H := HC3.out
  clear HC3
  replace H := be H; obtain ⟨t566, A5, H⟩ := H
  obtain ⟨hcz8000_0, hcz8000_1, hcz8000_2, hfz8000_0, hfz8000_1, hfz8000_2⟩ := cz3 BK565.out
  replace H := ifB H; rcases H with ⟨rfl, H⟩ | ⟨rfl, H⟩
  ·have H' := ah.mk H
   clear H
   repeat (go_wp2_with (first | (go_at_call 110; (with_reducible refine (bD.calls k FV FW FX _ _ A5.out).mono ?_); rintro e w8001 ⟨rfl, hb⟩; replace BK565 := KB BK565 hb; replace HB := BS (w := w) hb; (try clear hb); (try clear hb2); (try clear hk); (try clear hi); obtain ⟨hcz8002_0, hcz8002_1, hcz8002_2, hfz8002_0, hfz8002_1, hfz8002_2⟩ := cz3 BK565.out)); go_quiet (first | (go_at_call 110; (with_reducible refine (bD.calls k FV FW FX _ _ A5.out).mono ?_); rintro e w8001 ⟨rfl, hb⟩; replace BK565 := KB BK565 hb; replace HB := BS (w := w) hb; (try clear hb); (try clear hb2); (try clear hk); (try clear hi); obtain ⟨hcz8002_0, hcz8002_1, hcz8002_2, hfz8002_0, hfz8002_1, hfz8002_2⟩ := cz3 BK565.out)))
   go_wp2_with (first | (go_at_call 110; (with_reducible refine (bD.calls k FV FW FX _ _ A5.out).mono ?_); rintro e w8001 ⟨rfl, hb⟩; replace BK565 := KB BK565 hb; replace HB := BS (w := w) hb; (try clear hb); (try clear hb2); (try clear hk); (try clear hi); obtain ⟨hcz8002_0, hcz8002_1, hcz8002_2, hfz8002_0, hfz8002_1, hfz8002_2⟩ := cz3 BK565.out))
   go_meet
   case rel => exact ⟨_, (((a1.size : Int) != (FX.size : Int))), EQ, H', ⟨by first | omega | exact Nat.le_refl _⟩, ⟨BK⟩, ⟨BL⟩⟩
  ·have H' := ah.mk H
   clear H
   repeat (go_wp2_with (first | (go_at_call 110; (with_reducible refine (bD.calls k FV FW FX _ _ A5.out).mono ?_); rintro e w8001 ⟨rfl, hb⟩; replace BK565 := KB BK565 hb; replace HB := BS (w := w) hb; (try clear hb); (try clear hb2); (try clear hk); (try clear hi))); go_quiet (first | (go_at_call 110; (with_reducible refine (bD.calls k FV FW FX _ _ A5.out).mono ?_); rintro e w8001 ⟨rfl, hb⟩; replace BK565 := KB BK565 hb; replace HB := BS (w := w) hb; (try clear hb); (try clear hb2); (try clear hk); (try clear hi))))
   go_wp2_with (first | (go_at_call 110; (with_reducible refine (bD.calls k FV FW FX _ _ A5.out).mono ?_); rintro e w8001 ⟨rfl, hb⟩; replace BK565 := KB BK565 hb; replace HB := BS (w := w) hb; (try clear hb); (try clear hb2); (try clear hk); (try clear hi)))
   go_meet
   case rel => exact ⟨_, (true), EQ, H', ⟨by first | omega | exact Nat.le_refl _⟩, ⟨BK⟩, ⟨BL⟩⟩
 case rest =>
  clear HC3
  obtain ⟨kq, x16_2, rfl, HA, HJ2, BK565, HB⟩ := hcut
  cases kq with
  | zero => exact absurd HA.out (by simp [dx.j0])
  | succ kj2 =>
   have H := HA.out
   clear HA
   simp only [dx.j0] at H
   replace H := ifB H; rcases H with ⟨rfl, H⟩ | ⟨rfl, H⟩
   ·obtain rfl := Option.some.inj H
    go_wp2
    repeat (go_quiet (fail); try go_wp2)
    go_ret
    exact ⟨EWW, BL⟩
   ·have H' := ah.mk H
    clear H
    go_wp2
    repeat (go_quiet (fail); try go_wp2)
    go_loopg [19] kj2 (fun kq v19 w' => ∃ (x19_2 : Int), v19 = .int .i64 x19_2 ∧ ah (dx.l0 kq a1 (a1.size : Int) x19_2 FV FW FX = some r) ∧ ah (kq ≤ kj2) ∧ ah (w'.heap[gb565]? = some (.cells #[.int .i64 FV, .int .i64 FW, .string FX] 32 (0, 0))) ∧ ah (Below w.heap.size w w'))
    case atStart => exact ⟨(0), EQ, H', ⟨Nat.le_refl _⟩, ⟨BK⟩, ⟨BL⟩⟩
    case round =>
     clear H'
     try clear c12
     obtain ⟨x19_2, rfl, HA, HK2, BK565, HB⟩ := hrel
     cases gk with
     | zero => exact absurd HA.out (by simp [dx.l0])
     | succ k2 =>
      have H := HA.out
      clear HA
      simp only [dx.l0] at H
      replace H := ifD H; rcases H with ⟨c13b0, H⟩ | ⟨c13b0, H⟩
      ·replace H := ifN H; obtain ⟨c14b0, H⟩ := H
       replace H := ifN H; obtain ⟨c15b0, H⟩ := H
       replace H := ifN H; obtain ⟨c17b0, H⟩ := H
       obtain ⟨hcz7000_0, hcz7000_1, hcz7000_2, hfz7000_0, hfz7000_1, hfz7000_2⟩ := cz3 BK565.out
       have p16 : (0 ≤ (x19_2 : Int)) = True := OT
       have q16 : (x19_2 < (FX.size : Int)) = True := OT
       have hx16 := fO FX x19_2
       have p18 : (0 ≤ (x19_2 : Int)) = True := OT
       have q18 : (x19_2 < (a1.size : Int)) = True := OT
       have hx18 := fO a1 x19_2
       by_cases c19 : (((bt FX x19_2) == 35) != ((bt a1 x19_2) == 35)) = true
       ·rw [if_pos c19] at H
        have c19b0 : (((bt FX x19_2) == 35) != ((bt a1 x19_2) == 35)) = true := c19
        (try (have c19b1 : decide (((bt FX x19_2) == 35) = ((bt a1 x19_2) == 35)) = false := by simpa using c19))
        (try (have c19b2 : (((bt FX x19_2) == 35) == ((bt a1 x19_2) == 35)) = false := by simpa using c19))
        (try (have c19b3 : ¬ (((bt FX x19_2) == 35) = ((bt a1 x19_2) == 35)) := by simpa using c19))
        clear c19
        obtain rfl := Option.some.inj H
        go_wp2
        repeat (go_quiet (fail); try go_wp2)
        go_ret
        exact ⟨EWW, BL⟩
       ·rw [if_neg c19] at H
        have c19b0 : (((bt FX x19_2) == 35) != ((bt a1 x19_2) == 35)) = false := by simpa using c19
        (try (have c19b1 : decide (((bt FX x19_2) == 35) = ((bt a1 x19_2) == 35)) = true := by simpa using c19))
        (try (have c19b2 : (((bt FX x19_2) == 35) == ((bt a1 x19_2) == 35)) = true := by simpa using c19))
        clear c19
        have p21 : (0 ≤ (x19_2 : Int)) = True := OT
        have q21 : (x19_2 < (a1.size : Int)) = True := OT
        have hx21 := fO a1 x19_2
        by_cases c22 : (bt a1 x19_2) = 35
        ·rw [if_pos c22] at H
         have c22b0 : ((bt a1 x19_2) == 35) = true := beq_iff_eq.mpr c22
         have cwc19_ : ((bt FX x19_2) == 35) = true := (bne_eq_false_iff_eq.mp c19b0).trans c22b0
         have c22b1 : ((bt a1 x19_2) != 35) = false := bne_eq_false_iff_eq.mpr c22
         clear c22
         have H' := ah.mk H
         clear H
         go_wp2
         repeat (go_quiet (fail); try go_wp2)
         go_roundg k2
         case measure => have := HJ2.out; have := HK2.out; omega
         case rel => exact ⟨(wrap64 (x19_2 + 1)), EQ, H', ⟨by have := HJ2.out; have := HK2.out; omega⟩, ⟨BK⟩, ⟨BL⟩⟩
        ·rw [if_neg c22] at H
         have c22b0 : ((bt a1 x19_2) == 35) = false := beq_eq_false_iff_ne.mpr c22
         have cwc19_ : ((bt FX x19_2) == 35) = false := (bne_eq_false_iff_eq.mp c19b0).trans c22b0
         have c22b1 : ((bt a1 x19_2) != 35) = true := bne_iff_ne.mpr c22
         have p24 : (0 ≤ (x19_2 : Int)) = True := OT
         have q24 : (x19_2 < (a1.size : Int)) = True := OT
         have hx24 := fO a1 x19_2
         replace H := ifE H; rcases H with ⟨c25b0, c25b1, H⟩ | ⟨c25, c25b0, c25b1, H⟩
         ·have H' := ah.mk H
          clear H
          go_wp2
          repeat (go_quiet (fail); try go_wp2)
          go_roundg k2
          case measure => have := HJ2.out; have := HK2.out; omega
          case rel => exact ⟨(wrap64 (x19_2 + 1)), EQ, H', ⟨by have := HJ2.out; have := HK2.out; omega⟩, ⟨BK⟩, ⟨BL⟩⟩
         ·replace H := be H; obtain ⟨t567, A28, H⟩ := H
          have p27 : (0 ≤ (x19_2 : Int)) = True := OT
          have q27 : (x19_2 < (a1.size : Int)) = True := OT
          have hx27 := fO a1 x19_2
          replace H := ifB H; rcases H with ⟨rfl, H⟩ | ⟨rfl, H⟩
          ·have H' := ah.mk H
           clear H
           repeat (go_wp2_with (first | (go_at_call 134; (with_reducible refine (dZ.calls (bt a1 x19_2) _ _ A28.out).mono ?_); rintro e w' ⟨rfl, ⟨nd, rfl⟩⟩; (try first | exact da | exact DD))); go_quiet (first | (go_at_call 134; (with_reducible refine (dZ.calls (bt a1 x19_2) _ _ A28.out).mono ?_); rintro e w' ⟨rfl, ⟨nd, rfl⟩⟩; (try first | exact da | exact DD))))
           go_wp2_with (first | (go_at_call 134; (with_reducible refine (dZ.calls (bt a1 x19_2) _ _ A28.out).mono ?_); rintro e w' ⟨rfl, ⟨nd, rfl⟩⟩; (try first | exact da | exact DD)))
           go_roundg k2
           case measure => have := HJ2.out; have := HK2.out; omega
           case rel => exact ⟨(wrap64 (x19_2 + 1)), EQ, H', ⟨by have := HJ2.out; have := HK2.out; omega⟩, ⟨BK⟩, ⟨BL⟩⟩
          ·obtain rfl := Option.some.inj H
           repeat (go_wp2_with (first | (go_at_call 134; (with_reducible refine (dZ.calls (bt a1 x19_2) _ _ A28.out).mono ?_); rintro e w' ⟨rfl, ⟨nd, rfl⟩⟩; (try first | exact da | exact DD))); go_quiet (first | (go_at_call 134; (with_reducible refine (dZ.calls (bt a1 x19_2) _ _ A28.out).mono ?_); rintro e w' ⟨rfl, ⟨nd, rfl⟩⟩; (try first | exact da | exact DD))))
           go_wp2_with (first | (go_at_call 134; (with_reducible refine (dZ.calls (bt a1 x19_2) _ _ A28.out).mono ?_); rintro e w' ⟨rfl, ⟨nd, rfl⟩⟩; (try first | exact da | exact DD)))
           go_ret
           exact ⟨EWW, BL⟩
      ·obtain rfl := Option.some.inj H
       go_wp2
       repeat (go_quiet (fail); try go_wp2)
       go_ret
       exact ⟨EWW, BL⟩
def eT.l0 : Nat → ByteArray → List Int → List Int → Int → Int → Option (ByteArray)
 | 0, _, _, _, _, _ => none
 | k + 1, a, b, c, d, e => if e < d then (if 0 ≤ e then (if e < (c.length : Int) then (if 0 ≤ (rd c e) then (if (rd c e) < (a.size : Int) then (if b.length < 140737488355328 then (eT.l0 k a (b ++ [bt a (rd c e)]) c d (wrap64 (e + 1))) else (none)) else (none)) else (none)) else (none)) else (none)) else (some (strOfNums b))
def eT.f (k : Nat) (a0 : ByteArray) (l1 : List Int) : Option (ByteArray) := eT.l0 k a0 ([] : List Int) l1 (l1.length : Int) 0
theorem eT.calls (k : Nat) (a0 : ByteArray) (A1 : Option Addr) (c1 : Nat) (l1 : List Int) (r : ByteArray) (w : World) (hr1 : Kd.C (Kd.int .i64) w A1 l1.length l1) (hc1 : l1.length ≤ c1) (h : eT.f k a0 l1 = some r) :
  Calls Tryz.prog 129 #[.string a0, .slice A1 l1.length c1] w fun e w' => e = .returned (.string r) ∧ Below w.heap.size w w' := by
 have HR1 := ah.mk hr1
 have HC1 := ah.mk hc1
 clear hr1 hc1
 have HB := ah.mk (Below.refl w.heap.size w)
 unfold eT.f at h
 have H := h
 clear h
 have H' := ah.mk H
 clear H
 go_enter Tryz.func129, Tryz.ntmps129
 go_wp2
 go_loopg [5, 10] k (fun kq v5 v10 w' => ∃ (x5_1 : List Int) (x10_1 : Int), v10 = .int .i64 x10_1 ∧ ah (eT.l0 kq a0 x5_1 l1 (l1.length : Int) x10_1 = some r) ∧ ah (kq ≤ k) ∧ ah (Kd.R (Kd.int .u8) 5 w' w.heap.size (fun _ => True) v5 x5_1) ∧ ah (Below w.heap.size w w'))
 case atStart => exact ⟨(([] : List Int)), (0), EQ, H', ⟨Nat.le_refl _⟩, ⟨by first | exact Kd.nX _ _ _ _ _ | exact Kd.rz _ _ _ _ _ | exact Kd.qZ _ _ _ _ _ | exact Kd.qU _ _ _ _ _ | exact Kd.qV _ _ _ _ _⟩, ⟨BL⟩⟩
 case round =>
  clear H'
  try clear c1
  obtain ⟨x5_1, x10_1, rfl, HA, HK1, HO_5, HB⟩ := hrel
  cases gk with
  | zero => exact absurd HA.out (by simp [eT.l0])
  | succ k1 =>
   have H := HA.out
   clear HA
   simp only [eT.l0] at H
   replace H := ifD H; rcases H with ⟨c3b0, H⟩ | ⟨c3b0, H⟩
   ·replace H := ifN H; obtain ⟨c4b0, H⟩ := H
    replace H := ifN H; obtain ⟨c5b0, H⟩ := H
    replace H := ifN H; obtain ⟨c6b0, H⟩ := H
    replace H := ifN H; obtain ⟨c7b0, H⟩ := H
    replace H := ifP H; obtain ⟨c9, H⟩ := H
    have LMc9 := ah.mk c9
    clear c9
    obtain ⟨y569, hy569⟩ : ∃ y_ : List Int, y_ = (x5_1 ++ [bt a0 (rd l1 x10_1)]) := ⟨_, rfl⟩
    replace H : (eT.l0 k1 a0 y569 l1 (l1.length : Int) (wrap64 (x10_1 + 1))) = some r := by first | (rw [hy569]; with_reducible exact H) | (have H2_ := (Option.bind_some _ _).symm.trans H; rw [hy569]; with_reducible exact H2_) | (have H2_ := (Option.bind_some _ _).symm.trans H; with_reducible exact H2_) | with_reducible exact H | (rw [hy569]; exact H) | exact H
    have Ny569 := ah.mk hy569
    clear hy569
    have H' := ah.mk H
    clear H
    have p568 : 0 ≤ (x10_1 : Int) := OD
    have q568 : x10_1 < (l1.length : Int) := OD
    obtain ⟨ad568, e568, hx568_0⟩ := Kd.mG HR1.out x10_1 p568 q568
    cases e568
    try replace hx568_0 := (HB.out.cell (World.block_lt_of_cell? w _ hx568_0)).trans hx568_0
    replace p568 := eq_true p568
    replace q568 := eq_true q568
    have p8 : (0 ≤ ((rd l1 x10_1) : Int)) = True := OT
    have q8 : ((rd l1 x10_1) < (a0.size : Int)) = True := OT
    have hx8 := fO a0 (rd l1 x10_1)
    go_wp2_with (first | ((with_reducible refine dQ (b := .append) (xs := #[.tmp 14, .tmp 18]) rfl ?_); at_builtin; refine Kd.gU (Kd.int .u8) (w0 := w) w.heap.size rfl (.tmp 14) (.tmp 18) 130 5 (.int .u8 0) 1 rfl Tryz.underlying130 info5 rfl (by decide) (by omega) u5 x5_1 (bt a0 (rd l1 x10_1)) [.int .u8 (bt a0 (rd l1 x10_1))] (fun _ => True) (fun _ => False) rfl rfl ?aP (fun _ hk => hk.elim) ?aF ?aO ?aB ?aS ?aL ?_; (case aP => exact rfl); (case aB => exact BL); (case aF => exact (fun _ _ => trivial)); (case aO => exact (RR HO_5)); (case aS => exact (aQ BL)); (case aL => have := LMc9.out; omega); intro v570 w7000 ho hb hg hat; rw [← Ny569.out] at ho; have n0_ := ah.mk (hb); have n1_ := ah.mk (ho); clear HB HO_5; have HB := n0_; have HO571 := n1_; clear n0_ n1_; clear ho hb hg hat))
    go_roundg k1
    case measure => have := HK1.out; omega
    case rel => exact ⟨(y569), (wrap64 (x10_1 + 1)), EQ, H', ⟨by have := HK1.out; omega⟩, ⟨(RR HO571)⟩, ⟨BL⟩⟩
   ·obtain rfl := Option.some.inj H
    have hcv11 := Ag (P := Tryz.prog) Tryz.underlying130 Tryz.underlying5 Tryz.underlying9 (Kd.sU HO_5.out)
    go_wp2
    go_ret
    exact ⟨EWW, BL⟩
def eG.l0 : Nat → ByteArray → List ByteArray → List (List Int) → Int → Int → Option (List ByteArray)
 | 0, _, _, _, _, _ => none
 | k + 1, a, b, c, d, e => if e < d then (if 0 ≤ e then (if e < (c.length : Int) then ((eT.f k a (iO c e)).bind fun f => (if b.length < 8796093022208 then (eG.l0 k a (b ++ [f]) c d (wrap64 (e + 1))) else (none))) else (none)) else (none)) else (some b)
def eG.f (k : Nat) (FV FW : Int) (FX a1 : ByteArray) : Option (List ByteArray) := (dx.f k FV FW FX a1).bind fun t573 => (if t573 = true then ((dX.f k FV FW FX).bind fun t574 => (eG.l0 k a1 ([] : List ByteArray) t574 (t574.length : Int) 0)) else (some ([] : List ByteArray)))
theorem eG.calls (k : Nat) (FV FW : Int) (FX a1 : ByteArray) (r : List ByteArray) (w : World) (h : eG.f k FV FW FX a1 = some r) :
  Calls Tryz.prog 72 #[.agg #[.int .i64 FV, .int .i64 FW, .string FX], .string a1] w fun e w' => ∃ v0_ : Value, e = .returned (v0_) ∧ Kd.R Kd.string 9 w' w.heap.size (fun _ => True) v0_ r ∧ Below w.heap.size w w' := by
 have hu32 := Tryz.underlying32
 have HB := ah.mk (Below.refl w.heap.size w)
 unfold eG.f at h
 have H := h
 clear h
 replace H := be H; obtain ⟨t573, A3, H⟩ := H
 replace H := ah.mk H
 go_enter Tryz.func72, Tryz.ntmps72
 go_wp2_with (first | ((with_reducible refine aJ (N := 2) rfl ?_); refine bg (N := 2) (cs := #[.int .i64 FV, .int .i64 FW, .string FX]) (t := 32) ?_; intro gb572 hg w9000 hbox hb; have BK572 := ah.mk hbox; have GW572 := SZ (w := w) hg; have GE572 := GW572; replace HB := BS (w := w) hb; clear hb hbox hg; obtain ⟨hcz9001_0, hcz9001_1, hcz9001_2, hfz9001_0, hfz9001_1, hfz9001_2⟩ := cz3 BK572.out) | ((with_reducible refine ay (f := 81) rfl ?_); refine bE (some 10) Tryz.func81 #[.agg #[.int .i64 FV, .int .i64 FW, .string FX], .string a1] ?_; (with_reducible refine (dx.calls k FV FW FX a1 _ _ A3.out).mono ?_); rintro e w9002 ⟨rfl, hb⟩; refine ⟨_, rfl, ?_⟩; replace BK572 := KB BK572 hb; replace HB := BS (w := w) hb; (try clear hb); obtain ⟨hcz9003_0, hcz9003_1, hcz9003_2, hfz9003_0, hfz9003_1, hfz9003_2⟩ := cz3 BK572.out; refine bU ?_))
 refine Hide.mk ?_
 replace H := H.out
 replace H := ifB H; rcases H with ⟨rfl, H⟩ | ⟨rfl, H⟩
 ·replace H := be H; obtain ⟨t574, A5, H⟩ := H
  have H' := ah.mk H
  clear H
  try go_wp2_with (first | ((with_reducible refine ay (f := 82) rfl ?_); refine bE (some 13) Tryz.func82 #[.agg #[.int .i64 FV, .int .i64 FW, .string FX]] ?_; (with_reducible refine (dX.calls k FV FW FX t574 _ A5.out).mono ?_); rintro e w9004 ⟨v575, rfl, ho0, hb⟩; refine ⟨_, rfl, ?_⟩; have n0_ := ah.mk (Kd.nT ho0 (aQ BL)); replace BK572 := KB BK572 hb; replace HB := BS (w := w) hb; have HO576 := n0_; clear n0_; (try clear hb); (try clear ho0); obtain ⟨Ao9005, co9005, eo9005⟩ := Kd.oI HO576.out; subst eo9005))
  go_loopg [5, 15] k (fun kq v5 v15 w' => ∃ (x5_1 : List ByteArray) (x15_1 : Int), v15 = .int .i64 x15_1 ∧ ah (eG.l0 kq a1 x5_1 t574 (t574.length : Int) x15_1 = some r) ∧ ah (kq ≤ k) ∧ ah (Kd.R Kd.string 9 w' w.heap.size (fun _ => True) v5 x5_1) ∧ ah (Kd.S (Kd.slice 3 (Kd.int .i64)) 43 w' w.heap.size (fun _ => True) (.slice Ao9005 t574.length co9005) t574) ∧ ah (w'.heap[gb572]? = some (.cells #[.int .i64 FV, .int .i64 FW, .string FX] 32 (0, 0))) ∧ ah (Below w.heap.size w w'))
  case atStart => exact ⟨(([] : List ByteArray)), (0), EQ, H', ⟨Nat.le_refl _⟩, ⟨by first | exact Kd.nX _ _ _ _ _ | exact Kd.rz _ _ _ _ _ | exact Kd.qZ _ _ _ _ _ | exact Kd.qU _ _ _ _ _ | exact Kd.qV _ _ _ _ _⟩, ⟨(SR HO576)⟩, ⟨BK⟩, ⟨BL⟩⟩
  case round =>
   clear H'
   try clear c4
   try clear hcz9001_0
   try clear hcz9001_1
   try clear hcz9001_2
   try clear hcz9003_0
   try clear hcz9003_1
   try clear hcz9003_2
   try clear hfz9001_0
   try clear hfz9001_1
   try clear hfz9001_2
   try clear hfz9003_0
   try clear hfz9003_1
   try clear hfz9003_2
   obtain ⟨x5_1, x15_1, rfl, HA, HK1, HO_5, HO_13, BK572, HB⟩ := hrel
   cases gk with
   | zero => exact absurd HA.out (by simp [eG.l0])
   | succ k1 =>
    have H := HA.out
    clear HA
    simp only [eG.l0] at H
    replace H := ifD H; rcases H with ⟨c12b0, H⟩ | ⟨c12b0, H⟩
    ·replace H := ifN H; obtain ⟨c13b0, H⟩ := H
     replace H := ifN H; obtain ⟨c14b0, H⟩ := H
     replace H := be H; obtain ⟨t578, A15, H⟩ := H
     replace H := ifP H; obtain ⟨c16, H⟩ := H
     have LMc16 := ah.mk c16
     clear c16
     obtain ⟨y579, hy579⟩ : ∃ y_ : List ByteArray, y_ = (x5_1 ++ [t578]) := ⟨_, rfl⟩
     replace H : (eG.l0 k1 a1 y579 t574 (t574.length : Int) (wrap64 (x15_1 + 1))) = some r := by first | (rw [hy579]; with_reducible exact H) | (have H2_ := (Option.bind_some _ _).symm.trans H; rw [hy579]; with_reducible exact H2_) | (have H2_ := (Option.bind_some _ _).symm.trans H; with_reducible exact H2_) | with_reducible exact H | (rw [hy579]; exact H) | exact H
     have Ny579 := ah.mk hy579
     clear hy579
     have H' := ah.mk H
     clear H
     have p577 : 0 ≤ (x15_1 : Int) := OD
     have q577 : x15_1 < (t574.length : Int) := OD
     obtain ⟨ad577, A577_0, c577_0, e577, hx577_0, hl577_0, hi577_0⟩ := yc (Kd.iL HO_13.out).2.2 x15_1 p577 q577
     cases e577
     obtain ⟨ce577, hce577, hMe577, hcc577⟩ := Kd.y5 HO_13.out [] x15_1 p577 (by first | exact q577 | exact OD | (have e_ := (Kd.iL HO_13.out).1; omega))
     obtain ⟨ve577_0, rfl, ge577_0⟩ := hMe577
     have hv577_0 := hcc577 0 _ rfl
     rw [Nat.add_zero, show ((Kd.slice 3 (Kd.int .i64))).sz = 1 from rfl, Nat.mul_one] at hv577_0
     replace hv577_0 := Option.some.inj (hv577_0.symm.trans hx577_0)
     rw [hv577_0] at ge577_0
     have HL577_0 := ah.mk (show Kd.R (Kd.int .i64) 3 _ _ _ _ (iO t574 x15_1) from ge577_0)
     clear hv577_0 ge577_0
     clear hcc577 hce577
     have HR577_0 := ah.mk hi577_0
     have HC577_0 := ah.mk hl577_0
     clear hi577_0 hl577_0
     replace p577 := eq_true p577
     replace q577 := eq_true q577
     go_wp2_with (first | ((with_reducible refine ay (f := 129) rfl ?_); refine bE (some 22) Tryz.func129 #[.string a1, .slice A577_0 (iO t574 x15_1).length c577_0] ?_; (with_reducible refine (eT.calls k1 a1 _ _ (iO t574 x15_1) t578 _ ?side1 ?side2 A15.out).mono ?_); (case side1 => repeat (first | exact (by repeat (first | (with_reducible exact HR577_0.out) | (with_reducible refine Kd.gy ?_ _) | (with_reducible refine Kd.gD ?_ _) | (with_reducible refine Kd.ig ?_) | exact HR577_0.out)) | (with_reducible refine Kd.gy ?_ _) | (with_reducible refine Kd.gD ?_ _) | (with_reducible refine Kd.ig ?_))); (case side2 => exact HC577_0.out); rintro e w9006 ⟨rfl, hb⟩; refine ⟨_, rfl, ?_⟩; have n0_ := RB HO_5 hb; have n1_ := ah.mk (Kd.gI (SR HO_13) hb); have n2_ := ah.mk (Kd.jW (by (with_reducible repeat (first | apply Kd.fI | apply Kd.fJ | apply Kd.eu)); exact HL577_0.out) hb); have n3_ := KB BK572 hb; have n4_ := ah.mk (Kd.eO (by repeat (first | (with_reducible exact HR577_0.out) | (with_reducible refine Kd.gy ?_ _) | (with_reducible refine Kd.gD ?_ _) | (with_reducible refine Kd.ig ?_) | exact HR577_0.out)) hb); have n5_ := BS (w := w) hb; clear HO_5 HO_13 HL577_0 BK572 HR577_0 HB; have HO_5 := n0_; have HO_13 := n1_; have HL577_0 := n2_; have BK572 := n3_; have HR577_0 := n4_; have HB := n5_; clear n0_ n1_ n2_ n3_ n4_ n5_; (try clear hb)) | ((with_reducible refine dQ (b := .append) (xs := #[.tmp 19, .tmp 23]) rfl ?_); at_builtin; refine Kd.gU Kd.string (w0 := w) w.heap.size rfl (.tmp 19) (.tmp 23) 26 9 (.string ⟨#[]⟩) 16 rfl Tryz.underlying26 zA rfl (by decide) (by omega) u5 x5_1 t578 [.string t578] (fun _ => True) (fun _ => False) rfl rfl ?aP (fun _ hk => hk.elim) ?aF ?aO ?aB ?aS ?aL ?_; (case aP => exact rfl); (case aB => exact BL); (case aF => exact (fun _ _ => trivial)); (case aO => exact (RR HO_5)); (case aS => exact (aQ BL)); (case aL => have := LMc16.out; omega); intro v580 w9007 ho hb hg hat; rw [← Ny579.out] at ho; have n0_ := ah.mk (Kd.D7 (SR HO_13) (Kd.mZ (RR HO_5)) (by decide) hg); have n1_ := ah.mk (d9 (g := gb572) (o := .cells #[.int .i64 FV, .int .i64 FW, .string FX] 32 (0, 0)) BK hg (Kd.mg HO_5.out BK572.out (by decide))); have n2_ := ah.mk (Kd.mX (by (with_reducible repeat (first | apply Kd.fI | apply Kd.fJ | apply Kd.eu)); exact HL577_0.out) (Kd.mZ (RR HO_5)) (by decide) hg); have n3_ := ah.mk (hb); have n4_ := ah.mk (ho); clear HO_13 BK572 HL577_0 HB HO_5; have HO_13 := n0_; have BK572 := n1_; have HL577_0 := n2_; have HB := n3_; have HO581 := n4_; clear n0_ n1_ n2_ n3_ n4_; clear ho hb hg hat))
     go_roundg k1
     case measure => have := HK1.out; omega
     case rel => exact ⟨(y579), (wrap64 (x15_1 + 1)), EQ, H', ⟨by have := HK1.out; omega⟩, ⟨(RR HO581)⟩, ⟨(SR HO_13)⟩, ⟨BK⟩, ⟨BL⟩⟩
    ·obtain rfl := Option.some.inj H
     go_wp2
     go_ret
     exact ⟨_, EWW, (RR HO_5), BL⟩
 ·obtain rfl := Option.some.inj H
  try go_wp2
  go_ret
  exact ⟨_, EWW, by first | exact Kd.nX _ _ _ _ _ | exact Kd.rz _ _ _ _ _ | exact Kd.qZ _ _ _ _ _ | exact Kd.qU _ _ _ _ _ | exact Kd.qV _ _ _ _ _, BL⟩
def fV.l0 : Nat → ByteArray → Int → Int → Int → Option (Int)
 | 0, _, _, _, _ => none
 | k + 1, a, b, c, d => if d < c then (if 0 ≤ d then (if d < (a.size : Int) then (if (bt a d) = 63 then (fV.l0 k a (wrap64 (b + 1)) c (wrap64 (d + 1))) else (fV.l0 k a b c (wrap64 (d + 1)))) else (none)) else (none)) else (some b)
def fV.f (k : Nat) (a0 : ByteArray) : Option (Int) := fV.l0 k a0 0 (a0.size : Int) 0
theorem fV.calls (k : Nat) (a0 : ByteArray) (r : Int) (w : World) (h : fV.f k a0 = some r) :
  Calls Tryz.prog 73 #[.string a0] w fun e w' => e = .returned (.int .i64 r) ∧ cK w w' := by
 unfold fV.f at h
 have H := h
 clear h
 have H' := ah.mk H
 clear H
 go_enter Tryz.func73, Tryz.ntmps73
 go_wp2
 go_loopg [3, 7] k (fun kq v3 v7 w' => ∃ (x3_1 : Int) (x7_1 : Int), v3 = .int .i64 x3_1 ∧ v7 = .int .i64 x7_1 ∧ ah (fV.l0 kq a0 x3_1 (a0.size : Int) x7_1 = some r) ∧ ah (kq ≤ k) ∧ cK w w')
 case atStart => exact ⟨(0), (0), EQ, EQ, H', ⟨Nat.le_refl _⟩, DR⟩
 case round =>
  clear H'
  obtain ⟨x3_1, x7_1, rfl, rfl, HA, HK1, ⟨m1, rfl⟩⟩ := hrel
  cases gk with
  | zero => exact absurd HA.out (by simp [fV.l0])
  | succ k1 =>
   have H := HA.out
   clear HA
   simp only [fV.l0] at H
   replace H := ifD H; rcases H with ⟨c2b0, H⟩ | ⟨c2b0, H⟩
   ·replace H := ifN H; obtain ⟨c3b0, H⟩ := H
    replace H := ifN H; obtain ⟨c4b0, H⟩ := H
    have p5 : (0 ≤ (x7_1 : Int)) = True := OT
    have q5 : (x7_1 < (a0.size : Int)) = True := OT
    have hx5 := fO a0 x7_1
    replace H := ifE H; rcases H with ⟨c6b0, c6b1, H⟩ | ⟨c6, c6b0, c6b1, H⟩
    ·have H' := ah.mk H
     clear H
     go_wp2
     go_roundg k1
     case measure => have := HK1.out; omega
     case rel => exact ⟨(wrap64 (x3_1 + 1)), (wrap64 (x7_1 + 1)), EQ, EQ, H', ⟨by have := HK1.out; omega⟩, DR⟩
    ·have H' := ah.mk H
     clear H
     go_wp2
     go_roundg k1
     case measure => have := HK1.out; omega
     case rel => exact ⟨(x3_1), (wrap64 (x7_1 + 1)), EQ, EQ, H', ⟨by have := HK1.out; omega⟩, DR⟩
   ·obtain rfl := Option.some.inj H
    go_wp2
    go_ret
    exact ⟨EQ, DR⟩
theorem FE (d : Nat) (w : World) (x0 y0 : ByteArray) (x1 y1 : Int) :
  (Op.equalIn (d + 2) 84 (.agg #[.string x0, .int .i64 x1]) (.agg #[.string y0, .int .i64 y1])).run Tryz.prog w = .ok (x0.toList == y0.toList && (x1 == y1)) w := by
 refine zN Tryz.underlying84 (by kernel_rfl) ?_
 refine o9 (by rfl) (by go_simp; rfl) (by go_simp; rfl) (by go_simp) ?_
 exact wF (by rfl) (by go_simp; rfl) (by go_simp; rfl) (by go_simp)
attribute [local go_sem high] FE
def fu.l0 : Nat → (Nat → ByteArray → Option Bool) → List ByteArray → List ByteArray → Int → Int → Option (List ByteArray)
 | 0, _, _, _, _, _ => none
 | k + 1, a, b, c, d, e => if e < d then (if 0 ≤ e then (if e < (c.length : Int) then ((a k (fA ByteArray.empty c e)).bind fun f => (if f = true then (if b.length < 8796093022208 then (fu.l0 k a (b ++ [fA ByteArray.empty c e]) c d (wrap64 (e + 1))) else (none)) else (fu.l0 k a b c d (wrap64 (e + 1))))) else (none)) else (none)) else (some b)
def fu.f (k : Nat) (l0 : List ByteArray) (a1 : (Nat → ByteArray → Option Bool)) : Option (List ByteArray) := fu.l0 k a1 ([] : List ByteArray) l0 (l0.length : Int) 0
theorem fu.calls (k : Nat) (A0 : Option Addr) (c0 : Nat) (l0 : List ByteArray) (a1 : (Nat → ByteArray → Option Bool)) (r : List ByteArray) (w : World) (hr0 : Kd.C Kd.string w A0 l0.length l0) (hc0 : l0.length ≤ c0) (h : fu.f k l0 a1 = some r) (g : FuncId) (lb : Array Value) (eg : ∀ args w, (callFunc g args).run Tryz.prog w = .ok (.enter g args) w) (hp : ∀ (j : Nat) (s : ByteArray) (b : Bool) (W : World), Below w.heap.size w W → a1 j s = some b → Calls Tryz.prog g (#[.string s] ++ lb) W fun e w' => e = .returned (.bool b) ∧ Below W.heap.size W w') :
  Calls Tryz.prog 108 #[.slice A0 l0.length c0, .func (.func g) #[] lb] w fun e w' => ∃ v0_ : Value, e = .returned (v0_) ∧ Kd.R Kd.string 9 w' w.heap.size (fun _ => True) v0_ r ∧ Below w.heap.size w w' := by
 have HR0 := ah.mk hr0
 have HC0 := ah.mk hc0
 clear hr0 hc0
 have HB := ah.mk (Below.refl w.heap.size w)
 have HPP := ah.mk hp
 clear hp
 unfold fu.f at h
 have H := h
 clear h
 have H' := ah.mk H
 clear H
 go_enter Tryz.func108, Tryz.ntmps108
 go_wp2
 go_loopg [5, 10] k (fun kq v5 v10 w' => ∃ (x5_1 : List ByteArray) (x10_1 : Int), v10 = .int .i64 x10_1 ∧ ah (fu.l0 kq a1 x5_1 l0 (l0.length : Int) x10_1 = some r) ∧ ah (kq ≤ k) ∧ ah (Kd.R Kd.string 9 w' w.heap.size (fun _ => True) v5 x5_1) ∧ ah (Below w.heap.size w w'))
 case atStart => exact ⟨(([] : List ByteArray)), (0), EQ, H', ⟨Nat.le_refl _⟩, ⟨by first | exact Kd.nX _ _ _ _ _ | exact Kd.rz _ _ _ _ _ | exact Kd.qZ _ _ _ _ _ | exact Kd.qU _ _ _ _ _ | exact Kd.qV _ _ _ _ _⟩, ⟨BL⟩⟩
 case round =>
  clear H'
  obtain ⟨x5_1, x10_1, rfl, HA, HK1, HO_5, HB⟩ := hrel
  cases gk with
  | zero => exact absurd HA.out (by simp [fu.l0])
  | succ k1 =>
   have H := HA.out
   clear HA
   simp only [fu.l0] at H
   replace H := ifD H; rcases H with ⟨c3b0, H⟩ | ⟨c3b0, H⟩
   ·replace H := ifN H; obtain ⟨c4b0, H⟩ := H
    replace H := ifN H; obtain ⟨c5b0, H⟩ := H
    replace H := be H; obtain ⟨t583, A6, H⟩ := H
    have p582 : 0 ≤ (x10_1 : Int) := OD
    have q582 : x10_1 < (l0.length : Int) := OD
    obtain ⟨ad582, e582, hx582_0⟩ := Kd.jo HR0.out x10_1 p582 q582
    cases e582
    try replace hx582_0 := (HB.out.cell (World.block_lt_of_cell? w _ hx582_0)).trans hx582_0
    replace p582 := eq_true p582
    replace q582 := eq_true q582
    replace H := ifB H; rcases H with ⟨rfl, H⟩ | ⟨rfl, H⟩
    ·replace H := ifP H; obtain ⟨c8, H⟩ := H
     have LMc8 := ah.mk c8
     clear c8
     obtain ⟨y584, hy584⟩ : ∃ y_ : List ByteArray, y_ = (x5_1 ++ [fA ByteArray.empty l0 x10_1]) := ⟨_, rfl⟩
     replace H : (fu.l0 k1 a1 y584 l0 (l0.length : Int) (wrap64 (x10_1 + 1))) = some r := by first | (rw [hy584]; with_reducible exact H) | (have H2_ := (Option.bind_some _ _).symm.trans H; rw [hy584]; with_reducible exact H2_) | (have H2_ := (Option.bind_some _ _).symm.trans H; with_reducible exact H2_) | with_reducible exact H | (rw [hy584]; exact H) | exact H
     have Ny584 := ah.mk hy584
     clear hy584
     have H' := ah.mk H
     clear H
     go_wp2_with (first | (refine (HPP.out k1 (fA ByteArray.empty l0 x10_1) true _ BL A6.out).mono ?_; rintro e w7000 ⟨rfl, hb⟩; replace HO_5 := RB HO_5 hb; replace HB := BS (w := w) hb; (try clear hb)) | ((with_reducible refine dQ (b := .append) (xs := #[.tmp 17, .tmp 19]) rfl ?_); at_builtin; refine Kd.gU Kd.string (w0 := w) w.heap.size rfl (.tmp 17) (.tmp 19) 26 9 (.string ⟨#[]⟩) 16 rfl Tryz.underlying26 zA rfl (by decide) (by omega) u5 x5_1 (fA ByteArray.empty l0 x10_1) [.string (fA ByteArray.empty l0 x10_1)] (fun _ => True) (fun _ => False) rfl rfl ?aP (fun _ hk => hk.elim) ?aF ?aO ?aB ?aS ?aL ?_; (case aP => exact rfl); (case aB => exact BL); (case aF => exact (fun _ _ => trivial)); (case aO => exact (RR HO_5)); (case aS => exact (aQ BL)); (case aL => have := LMc8.out; omega); intro v585 w7001 ho hb hg hat; rw [← Ny584.out] at ho; have n0_ := ah.mk (hb); have n1_ := ah.mk (ho); clear HB HO_5; have HB := n0_; have HO586 := n1_; clear n0_ n1_; clear ho hb hg hat))
     go_roundg k1
     case measure => have := HK1.out; omega
     case rel => exact ⟨(y584), (wrap64 (x10_1 + 1)), EQ, H', ⟨by have := HK1.out; omega⟩, ⟨(RR HO586)⟩, ⟨BL⟩⟩
    ·have H' := ah.mk H
     clear H
     go_wp2_with (first | (refine (HPP.out k1 (fA ByteArray.empty l0 x10_1) false _ BL A6.out).mono ?_; rintro e w7000 ⟨rfl, hb⟩; replace HO_5 := RB HO_5 hb; replace HB := BS (w := w) hb; (try clear hb); (try clear hb2); (try clear hk); (try clear hi)))
     go_roundg k1
     case measure => have := HK1.out; omega
     case rel => exact ⟨(x5_1), (wrap64 (x10_1 + 1)), EQ, H', ⟨by have := HK1.out; omega⟩, ⟨(RR HO_5)⟩, ⟨BL⟩⟩
   ·obtain rfl := Option.some.inj H
    go_wp2
    go_ret
    exact ⟨_, EWW, (RR HO_5), BL⟩
def bJ.l0 : Nat → List ByteArray → ByteArray → Int → Int → Option (Int)
 | 0, _, _, _, _ => none
 | k + 1, a, b, c, d => if d < c then (if 0 ≤ d then (if d < (a.length : Int) then (if b.toList = (fA ByteArray.empty a d).toList then (some d) else (bJ.l0 k a b c (wrap64 (d + 1)))) else (none)) else (none)) else (some (-1))
def bJ.f (k : Nat) (l0 : List ByteArray) (a1 : ByteArray) : Option (Int) := bJ.l0 k l0 a1 (l0.length : Int) 0
theorem bJ.calls (k : Nat) (A0 : Option Addr) (c0 : Nat) (l0 : List ByteArray) (a1 : ByteArray) (r : Int) (w : World) (hr0 : Kd.C Kd.string w A0 l0.length l0) (hc0 : l0.length ≤ c0) (h : bJ.f k l0 a1 = some r) :
  Calls Tryz.prog 167 #[.slice A0 l0.length c0, .string a1] w fun e w' => e = .returned (.int .i64 r) ∧ cK w w' := by
 have HR0 := ah.mk hr0
 have HC0 := ah.mk hc0
 clear hr0 hc0
 unfold bJ.f at h
 have H := h
 clear h
 have H' := ah.mk H
 clear H
 go_enter Tryz.func167, Tryz.ntmps167
 go_wp2
 go_loopg [8] k (fun kq v8 w' => ∃ (x8_1 : Int), v8 = .int .i64 x8_1 ∧ ah (bJ.l0 kq l0 a1 (l0.length : Int) x8_1 = some r) ∧ ah (kq ≤ k) ∧ cK w w')
 case atStart => exact ⟨(0), EQ, H', ⟨Nat.le_refl _⟩, DR⟩
 case round =>
  clear H'
  obtain ⟨x8_1, rfl, HA, HK1, ⟨m1, rfl⟩⟩ := hrel
  cases gk with
  | zero => exact absurd HA.out (by simp [bJ.l0])
  | succ k1 =>
   have H := HA.out
   clear HA
   simp only [bJ.l0] at H
   replace H := ifD H; rcases H with ⟨c3b0, H⟩ | ⟨c3b0, H⟩
   ·replace H := ifN H; obtain ⟨c4b0, H⟩ := H
    replace H := ifN H; obtain ⟨c5b0, H⟩ := H
    have p587 : 0 ≤ (x8_1 : Int) := OD
    have q587 : x8_1 < (l0.length : Int) := OD
    obtain ⟨ad587, e587, hx587_0⟩ := Kd.jo HR0.out x8_1 p587 q587
    cases e587
    replace p587 := eq_true p587
    replace q587 := eq_true q587
    replace H := ifE H; rcases H with ⟨c6b0, c6b1, H⟩ | ⟨c6, c6b0, c6b1, H⟩
    ·obtain rfl := Option.some.inj H
     go_wp2
     go_ret
     exact ⟨EQ, DR⟩
    ·have H' := ah.mk H
     clear H
     go_wp2
     go_roundg k1
     case measure => have := HK1.out; omega
     case rel => exact ⟨(wrap64 (x8_1 + 1)), EQ, H', ⟨by have := HK1.out; omega⟩, DR⟩
   ·obtain rfl := Option.some.inj H
    go_wp2
    go_ret
    exact ⟨EQ, DR⟩
def eP.f (k : Nat) (l0 : List ByteArray) (a1 : ByteArray) : Option (Bool) := (bJ.f k l0 a1).bind fun t588 => (some (decide (t588 ≥ 0)))
theorem eP.calls (k : Nat) (A0 : Option Addr) (c0 : Nat) (l0 : List ByteArray) (a1 : ByteArray) (r : Bool) (w : World) (hr0 : Kd.C Kd.string w A0 l0.length l0) (hc0 : l0.length ≤ c0) (h : eP.f k l0 a1 = some r) :
  Calls Tryz.prog 117 #[.slice A0 l0.length c0, .string a1] w fun e w' => e = .returned (.bool r) ∧ cK w w' := by
 have HR0 := ah.mk hr0
 have HC0 := ah.mk hc0
 clear hr0 hc0
 unfold eP.f at h
 have H := h
 clear h
 replace H := be H; obtain ⟨t588, A3, H⟩ := H
 obtain rfl := Option.some.inj H
 go_enter Tryz.func117, Tryz.ntmps117
 go_wp2_with (first | ((with_reducible refine ay (f := 167) rfl ?_); refine bE (some 7) Tryz.func167 #[.slice A0 l0.length c0, .string a1] ?_; (with_reducible refine (bJ.calls k _ _ l0 a1 t588 _ ?side1 ?side2 A3.out).mono ?_); (case side1 => repeat (first | exact HR0.out | (with_reducible refine Kd.gy ?_ _) | (with_reducible refine Kd.gD ?_ _) | (with_reducible refine Kd.ig ?_))); (case side2 => exact HC0.out); rintro e w' ⟨rfl, ⟨nd, rfl⟩⟩; refine ⟨_, rfl, ?_⟩))
 go_ret
 exact ⟨EQ, DR⟩
def gL.l0 : Nat → List ByteArray → List ByteArray → Int → Int → Option (List ByteArray)
 | 0, _, _, _, _ => none
 | k + 1, a, b, c, d => if d < c then (if 0 ≤ d then (if d < (b.length : Int) then ((eP.f k a (fA ByteArray.empty b d)).bind fun e => (if e = true then (gL.l0 k a b c (wrap64 (d + 1))) else (if a.length < 8796093022208 then (gL.l0 k (a ++ [fA ByteArray.empty b d]) b c (wrap64 (d + 1))) else (none)))) else (none)) else (none)) else (some a)
def gL.f (k : Nat) (l0 : List ByteArray) : Option (List ByteArray) := gL.l0 k ([] : List ByteArray) l0 (l0.length : Int) 0
theorem gL.calls (k : Nat) (A0 : Option Addr) (c0 : Nat) (l0 r : List ByteArray) (w : World) (hr0 : Kd.C Kd.string w A0 l0.length l0) (hc0 : l0.length ≤ c0) (h : gL.f k l0 = some r) :
  Calls Tryz.prog 116 #[.slice A0 l0.length c0] w fun e w' => ∃ v0_ : Value, e = .returned (v0_) ∧ Kd.R Kd.string 9 w' w.heap.size (fun _ => True) v0_ r ∧ Below w.heap.size w w' := by
 have HR0 := ah.mk hr0
 have HC0 := ah.mk hc0
 clear hr0 hc0
 have HB := ah.mk (Below.refl w.heap.size w)
 unfold gL.f at h
 have H := h
 clear h
 have H' := ah.mk H
 clear H
 go_enter Tryz.func116, Tryz.ntmps116
 go_wp2
 go_loopg [3, 8] k (fun kq v3 v8 w' => ∃ (x3_1 : List ByteArray) (x8_1 : Int), v8 = .int .i64 x8_1 ∧ ah (gL.l0 kq x3_1 l0 (l0.length : Int) x8_1 = some r) ∧ ah (kq ≤ k) ∧ ah (Kd.R Kd.string 9 w' w.heap.size (fun _ => True) v3 x3_1) ∧ ah (Below w.heap.size w w'))
 case atStart => exact ⟨(([] : List ByteArray)), (0), EQ, H', ⟨Nat.le_refl _⟩, ⟨by first | exact Kd.nX _ _ _ _ _ | exact Kd.rz _ _ _ _ _ | exact Kd.qZ _ _ _ _ _ | exact Kd.qU _ _ _ _ _ | exact Kd.qV _ _ _ _ _⟩, ⟨BL⟩⟩
 case round =>
  clear H'
  obtain ⟨x3_1, x8_1, rfl, HA, HK1, HO_3, HB⟩ := hrel
  cases gk with
  | zero => exact absurd HA.out (by simp [gL.l0])
  | succ k1 =>
   have H := HA.out
   clear HA
   simp only [gL.l0] at H
   replace H := ifD H; rcases H with ⟨c2b0, H⟩ | ⟨c2b0, H⟩
   ·replace H := ifN H; obtain ⟨c3b0, H⟩ := H
    replace H := ifN H; obtain ⟨c4b0, H⟩ := H
    replace H := be H; obtain ⟨t590, A5, H⟩ := H
    have p589 : 0 ≤ (x8_1 : Int) := OD
    have q589 : x8_1 < (l0.length : Int) := OD
    obtain ⟨ad589, e589, hx589_0⟩ := Kd.jo HR0.out x8_1 p589 q589
    cases e589
    try replace hx589_0 := (HB.out.cell (World.block_lt_of_cell? w _ hx589_0)).trans hx589_0
    replace p589 := eq_true p589
    replace q589 := eq_true q589
    obtain ⟨Ao7000, co7000, eo7000⟩ := Kd.dL HO_3.out
    subst eo7000
    replace H := ah.mk H
    go_wp2_with (first | ((with_reducible refine ay (f := 117) rfl ?_); refine bE (some 14) Tryz.func117 #[.slice Ao7000 x3_1.length co7000, .string (fA ByteArray.empty l0 x8_1)] ?_; (with_reducible refine (eP.calls k1 _ _ x3_1 (fA ByteArray.empty l0 x8_1) _ _ ?side1 ?side2 A5.out).mono ?_); (case side1 => exact CR2 HO_3); (case side2 => exact (Kd.bP HO_3.out).2.1); rintro e w' ⟨rfl, ⟨nd, rfl⟩⟩; refine ⟨_, rfl, ?_⟩; refine bU ?_))
    refine Hide.mk ?_
    replace H := H.out
    replace H := ifB H; rcases H with ⟨rfl, H⟩ | ⟨rfl, H⟩
    ·have H' := ah.mk H
     clear H
     try go_wp2
     go_roundg k1
     case measure => have := HK1.out; omega
     case rel => exact ⟨(x3_1), (wrap64 (x8_1 + 1)), EQ, H', ⟨by have := HK1.out; omega⟩, ⟨(RR HO_3)⟩, ⟨BL⟩⟩
    ·replace H := ifP H; obtain ⟨c8, H⟩ := H
     have LMc8 := ah.mk c8
     clear c8
     obtain ⟨y591, hy591⟩ : ∃ y_ : List ByteArray, y_ = (x3_1 ++ [fA ByteArray.empty l0 x8_1]) := ⟨_, rfl⟩
     replace H : (gL.l0 k1 y591 l0 (l0.length : Int) (wrap64 (x8_1 + 1))) = some r := by first | (rw [hy591]; with_reducible exact H) | (have H2_ := (Option.bind_some _ _).symm.trans H; rw [hy591]; with_reducible exact H2_) | (have H2_ := (Option.bind_some _ _).symm.trans H; with_reducible exact H2_) | with_reducible exact H | (rw [hy591]; exact H) | exact H
     have Ny591 := ah.mk hy591
     clear hy591
     have H' := ah.mk H
     clear H
     try go_wp2_with (first | ((with_reducible refine dQ (b := .append) (xs := #[.tmp 16, .tmp 18]) rfl ?_); at_builtin; refine Kd.gU Kd.string (w0 := w) w.heap.size rfl (.tmp 16) (.tmp 18) 26 9 (.string ⟨#[]⟩) 16 rfl Tryz.underlying26 zA rfl (by decide) (by omega) (.slice Ao7000 x3_1.length co7000) x3_1 (fA ByteArray.empty l0 x8_1) [.string (fA ByteArray.empty l0 x8_1)] (fun _ => True) (fun _ => False) rfl rfl ?aP (fun _ hk => hk.elim) ?aF ?aO ?aB ?aS ?aL ?_; (case aP => exact rfl); (case aB => exact BL); (case aF => exact (fun _ _ => trivial)); (case aO => exact (RR HO_3)); (case aS => exact (aQ BL)); (case aL => have := LMc8.out; omega); intro v592 w7001 ho hb hg hat; rw [← Ny591.out] at ho; have n0_ := ah.mk (hb); have n1_ := ah.mk (ho); clear HB HO_3; have HB := n0_; have HO593 := n1_; clear n0_ n1_; clear ho hb hg hat))
     go_roundg k1
     case measure => have := HK1.out; omega
     case rel => exact ⟨(y591), (wrap64 (x8_1 + 1)), EQ, H', ⟨by have := HK1.out; omega⟩, ⟨(RR HO593)⟩, ⟨BL⟩⟩
   ·obtain rfl := Option.some.inj H
    go_wp2
    go_ret
    exact ⟨_, EWW, (RR HO_3), BL⟩
def dV.l0 : Nat → List (S84) → Int → Int → ByteArray → Int → Option (Int)
 | 0, _, _, _, _, _ => none
 | k + 1, a, b, c, d, e => if c < b then (if 0 ≤ c then (if c < (a.length : Int) then (if (d.toList == (((fQ a c).f0).toList) && (e == ((fQ a c).f1))) = true then (some c) else (dV.l0 k a b (wrap64 (c + 1)) d e)) else (none)) else (none)) else (some (-1))
def dV.f (k : Nat) (l0 : List (S84)) (FY : ByteArray) (FZ : Int) : Option (Int) := dV.l0 k l0 (l0.length : Int) 0 FY FZ
theorem dV.calls (k : Nat) (A0 : Option Addr) (c0 : Nat) (l0 : List (S84)) (FY : ByteArray) (FZ r : Int) (w : World) (hr0 : Kd.C k84 w A0 l0.length l0) (hc0 : l0.length ≤ c0) (h : dV.f k l0 FY FZ = some r) :
  Calls Tryz.prog 205 #[.slice A0 l0.length c0, .agg #[.string FY, .int .i64 FZ]] w fun e w' => e = .returned (.int .i64 r) ∧ Below w.heap.size w w' := by
 have hu84 := Tryz.underlying84
 have HR0 := ah.mk hr0
 have HC0 := ah.mk hc0
 clear hr0 hc0
 have HB := ah.mk (Below.refl w.heap.size w)
 unfold dV.f at h
 have H := h
 clear h
 have H' := ah.mk H
 clear H
 go_enter Tryz.func205, Tryz.ntmps205
 repeat (go_wp2_with (first | ((with_reducible refine aJ (N := 3) rfl ?_); refine bg (N := 3) (cs := #[.string FY, .int .i64 FZ]) (t := 84) ?_; intro gb594 hg w3 hbox hb; have BK594 := ah.mk hbox; have GW594 := SZ (w := w) hg; have GE594 := GW594; replace HB := BS (w := w) hb; clear hb hbox hg)); go_quiet (first | ((with_reducible refine aJ (N := 3) rfl ?_); refine bg (N := 3) (cs := #[.string FY, .int .i64 FZ]) (t := 84) ?_; intro gb594 hg w3 hbox hb; have BK594 := ah.mk hbox; have GW594 := SZ (w := w) hg; have GE594 := GW594; replace HB := BS (w := w) hb; clear hb hbox hg)))
 go_wp2_with (first | ((with_reducible refine aJ (N := 3) rfl ?_); refine bg (N := 3) (cs := #[.string FY, .int .i64 FZ]) (t := 84) ?_; intro gb594 hg w3 hbox hb; have BK594 := ah.mk hbox; have GW594 := SZ (w := w) hg; have GE594 := GW594; replace HB := BS (w := w) hb; clear hb hbox hg))
 go_loopg [8] k (fun kq v8 w' => ∃ (x8_1 : Int), v8 = .int .i64 x8_1 ∧ ah (dV.l0 kq l0 (l0.length : Int) x8_1 FY FZ = some r) ∧ ah (kq ≤ k) ∧ ah (w'.heap[gb594]? = some (.cells #[.string FY, .int .i64 FZ] 84 (0, 0))) ∧ ah (Below w.heap.size w w'))
 case atStart => exact ⟨(0), EQ, H', ⟨Nat.le_refl _⟩, ⟨BK⟩, ⟨BL⟩⟩
 case round =>
  clear H'
  obtain ⟨x8_1, rfl, HA, HK1, BK594, HB⟩ := hrel
  cases gk with
  | zero => exact absurd HA.out (by simp [dV.l0])
  | succ k1 =>
   have H := HA.out
   clear HA
   simp only [dV.l0] at H
   replace H := ifD H; rcases H with ⟨c4b0, H⟩ | ⟨c4b0, H⟩
   ·replace H := ifN H; obtain ⟨c5b0, H⟩ := H
    replace H := ifN H; obtain ⟨c6b0, H⟩ := H
    obtain ⟨hcz7000_0, hcz7000_1, hfz7000_0, hfz7000_1⟩ := cz2 BK594.out
    have p595 : 0 ≤ (x8_1 : Int) := OD
    have q595 : x8_1 < (l0.length : Int) := OD
    obtain ⟨ad595, e595, hx595_0, hx595_1⟩ := wD HR0.out x8_1 p595 q595
    cases e595
    try replace hx595_0 := (HB.out.cell (World.block_lt_of_cell? w _ hx595_0)).trans hx595_0
    try replace hx595_1 := (HB.out.cell (World.block_lt_of_cell? w _ hx595_1)).trans hx595_1
    replace p595 := eq_true p595
    replace q595 := eq_true q595
    by_cases c7 : (FY.toList == (((fQ l0 x8_1).f0).toList) && (FZ == ((fQ l0 x8_1).f1))) = true
    ·rw [if_pos c7] at H
     have c7b0 : (FY.toList == (((fQ l0 x8_1).f0).toList) && (FZ == ((fQ l0 x8_1).f1))) = true := c7
     (try (have c7b1 : decide (FY.toList = (((fQ l0 x8_1).f0).toList) && (FZ == ((fQ l0 x8_1).f1))) = true := by simpa using c7))
     (try (have c7b2 : (FY.toList == (((fQ l0 x8_1).f0).toList) && (FZ == ((fQ l0 x8_1).f1))) = true := by simpa using c7))
     clear c7
     obtain rfl := Option.some.inj H
     go_wp2
     repeat (go_quiet (fail); try go_wp2)
     go_ret
     exact ⟨EWW, BL⟩
    ·rw [if_neg c7] at H
     have c7b0 : (FY.toList == (((fQ l0 x8_1).f0).toList) && (FZ == ((fQ l0 x8_1).f1))) = false := by simpa using c7
     (try (have c7b1 : decide (FY.toList = (((fQ l0 x8_1).f0).toList) && (FZ == ((fQ l0 x8_1).f1))) = false := by simpa using c7))
     (try (have c7b2 : (FY.toList == (((fQ l0 x8_1).f0).toList) && (FZ == ((fQ l0 x8_1).f1))) = false := by simpa using c7))
     (try (have c7b3 : ¬ (FY.toList = (((fQ l0 x8_1).f0).toList) && (FZ == ((fQ l0 x8_1).f1))) := by simpa using c7))
     clear c7
     have H' := ah.mk H
     clear H
     go_wp2
     repeat (go_quiet (fail); try go_wp2)
     go_roundg k1
     case measure => have := HK1.out; omega
     case rel => exact ⟨(wrap64 (x8_1 + 1)), EQ, H', ⟨by have := HK1.out; omega⟩, ⟨BK⟩, ⟨BL⟩⟩
   ·obtain rfl := Option.some.inj H
    go_wp2
    repeat (go_quiet (fail); try go_wp2)
    go_ret
    exact ⟨EWW, BL⟩
def iP.f (k : Nat) (l0 : List (S84)) (FY : ByteArray) (FZ : Int) : Option (Bool) := (dV.f k l0 FY FZ).bind fun t597 => (some (decide (t597 ≥ 0)))
theorem iP.calls (k : Nat) (A0 : Option Addr) (c0 : Nat) (l0 : List (S84)) (FY : ByteArray) (FZ : Int) (r : Bool) (w : World) (hr0 : Kd.C k84 w A0 l0.length l0) (hc0 : l0.length ≤ c0) (h : iP.f k l0 FY FZ = some r) :
  Calls Tryz.prog 169 #[.slice A0 l0.length c0, .agg #[.string FY, .int .i64 FZ]] w fun e w' => e = .returned (.bool r) ∧ Below w.heap.size w w' := by
 have hu84 := Tryz.underlying84
 have HR0 := ah.mk hr0
 have HC0 := ah.mk hc0
 clear hr0 hc0
 have HB := ah.mk (Below.refl w.heap.size w)
 unfold iP.f at h
 have H := h
 clear h
 replace H := be H; obtain ⟨t597, A3, H⟩ := H
 obtain rfl := Option.some.inj H
 go_enter Tryz.func169, Tryz.ntmps169
 go_wp2_with (first | ((with_reducible refine aJ (N := 3) rfl ?_); refine bg (N := 3) (cs := #[.string FY, .int .i64 FZ]) (t := 84) ?_; intro gb596 hg w4 hbox hb; have BK596 := ah.mk hbox; have GW596 := SZ (w := w) hg; have GE596 := GW596; replace HB := BS (w := w) hb; clear hb hbox hg; obtain ⟨hcz5_0, hcz5_1, hfz5_0, hfz5_1⟩ := cz2 BK596.out) | ((with_reducible refine ay (f := 205) rfl ?_); refine bE (some 7) Tryz.func205 #[.slice A0 l0.length c0, .agg #[.string FY, .int .i64 FZ]] ?_; (with_reducible refine (dV.calls k _ _ l0 FY FZ t597 _ ?side1 ?side2 A3.out).mono ?_); (case side1 => exact CB HR0); (case side2 => exact HC0.out); rintro e w6 ⟨rfl, hb⟩; refine ⟨_, rfl, ?_⟩; replace BK596 := KB BK596 hb; replace HB := BS (w := w) hb; (try clear hb)))
 go_ret
 exact ⟨EWW, BL⟩
def gM.f (k : Nat) (l0 : List (S84)) (a1 : ByteArray) (a2 : Int) : Option (Bool) := (iP.f k l0 a1 a2).bind fun t598 => (some t598)
theorem gM.calls (k : Nat) (A0 : Option Addr) (c0 : Nat) (l0 : List (S84)) (a1 : ByteArray) (a2 : Int) (r : Bool) (w : World) (hr0 : Kd.C k84 w A0 l0.length l0) (hc0 : l0.length ≤ c0) (h : gM.f k l0 a1 a2 = some r) :
  Calls Tryz.prog 119 #[.slice A0 l0.length c0, .string a1, .int .i64 a2] w fun e w' => e = .returned (.bool r) ∧ Below w.heap.size w w' := by
 have hu84 := Tryz.underlying84
 have HR0 := ah.mk hr0
 have HC0 := ah.mk hc0
 clear hr0 hc0
 have HB := ah.mk (Below.refl w.heap.size w)
 unfold gM.f at h
 have H := h
 clear h
 replace H := be H; obtain ⟨t598, A4, H⟩ := H
 obtain rfl := Option.some.inj H
 go_enter Tryz.func119, Tryz.ntmps119
 go_wp2_with (first | ((with_reducible refine ay (f := 169) rfl ?_); refine bE (some 11) Tryz.func169 #[.slice A0 l0.length c0, .agg #[.string a1, .int .i64 a2]] ?_; (with_reducible refine (iP.calls k _ _ l0 a1 a2 t598 _ ?side1 ?side2 A4.out).mono ?_); (case side1 => repeat (first | exact HR0.out | (with_reducible refine Kd.gy ?_ _) | (with_reducible refine Kd.gD ?_ _) | (with_reducible refine Kd.ig ?_))); (case side2 => exact HC0.out); rintro e w5 ⟨rfl, hb⟩; refine ⟨_, rfl, ?_⟩; replace HB := BS (w := w) hb; (try clear hb)))
 go_ret
 exact ⟨EWW, BL⟩
def iG.f (k : Nat) (a0 : ByteArray) : Option (ByteArray) := (bM.f k a0).bind fun t => (if t = true then (if a0.size ≤ 12 then (some (strOfNums (Go.Proofs.YtnfiedfaaaphoaaGreat.HandSort.sorted a0))) else (none)) else (none))
theorem iG.calls (k : Nat) (a0 r : ByteArray) (w : World) (h : iG.f k a0 = some r) :
  Calls Tryz.prog 217 #[.string a0] w fun e w' => e = .returned (.string r) ∧ Below w.heap.size w w' := by
 obtain ⟨t, h1, h2⟩ := Option.bind_eq_some_iff.mp h
 cases t with
 | false => simp at h2
 | true =>
  rw [if_pos rfl] at h2
  by_cases h3 : a0.size ≤ 12
  ·rw [if_pos h3] at h2
   obtain rfl := Option.some.inj h2
   exact Go.Proofs.YtnfiedfaaaphoaaGreat.HandSort.wC a0 w h3 ((bM.calls k a0 true w h1).mono fun e w' hq => ⟨hq.1, hq.2.out⟩)
  ·rw [if_neg h3] at h2
   cases h2
def iy.f (k : Nat) (a0 a1 : ByteArray) : Option (Bool) := (bM.f k a0).bind fun t599 => (if t599 = true then ((bM.f k a1).bind fun t600 => (if t600 = true then (if a0.toList = a1.toList then (some false) else ((iG.f k a0).bind fun t601 => ((iG.f k a1).bind fun t602 => (some (t601.toList == t602.toList))))) else (some false))) else (some false))
theorem iy.calls (k : Nat) (a0 a1 : ByteArray) (r : Bool) (w : World) (h : iy.f k a0 a1 = some r) :
  Calls Tryz.prog 206 #[.string a0, .string a1] w fun e w' => e = .returned (.bool r) ∧ Below w.heap.size w w' := by
 have HB := ah.mk (Below.refl w.heap.size w)
 unfold iy.f at h
 have H := h
 clear h
 replace H := be H; obtain ⟨t599, A3, H⟩ := H
 replace H := ah.mk H
 go_enter Tryz.func206, Tryz.ntmps206
 go_wp2_with (first | ((with_reducible refine ay (f := 145) rfl ?_); refine bE (some 6) Tryz.func145 #[.string a0] ?_; (with_reducible refine (bM.calls k a0 _ _ A3.out).mono ?_); rintro e w' ⟨rfl, ⟨nd, rfl⟩⟩; refine ⟨_, rfl, ?_⟩; refine bU ?_))
 refine Hide.mk ?_
 replace H := H.out
 replace H := ifB H; rcases H with ⟨rfl, H⟩ | ⟨rfl, H⟩
 ·replace H := be H; obtain ⟨t600, A5, H⟩ := H
  replace H := ah.mk H
  go_wp2_with (first | (go_at_call 145; (with_reducible refine (bM.calls k a1 _ _ A5.out).mono ?_); rintro e w' ⟨rfl, ⟨nd, rfl⟩⟩; refine bU ?_))
  refine Hide.mk ?_
  replace H := H.out
  replace H := ifB H; rcases H with ⟨rfl, H⟩ | ⟨rfl, H⟩
  ·replace H := ifE H; rcases H with ⟨c7b0, c7b1, H⟩ | ⟨c7, c7b0, c7b1, H⟩
   ·obtain rfl := Option.some.inj H
    try go_wp2
    go_ret
    exact ⟨EWW, BL⟩
   ·replace H := be H; obtain ⟨t601, A8, H⟩ := H
    replace H := be H; obtain ⟨t602, A9, H⟩ := H
    obtain rfl := Option.some.inj H
    try go_wp2_with (first | (go_at_call 217; (with_reducible refine (iG.calls k a0 t601 _ A8.out).mono ?_); rintro e w9000 ⟨rfl, hb⟩; replace HB := BS (w := w) hb; (try clear hb)) | (go_at_call 217; (with_reducible refine (iG.calls k a1 t602 _ A9.out).mono ?_); rintro e w9001 ⟨rfl, hb⟩; replace HB := BS (w := w) hb; (try clear hb)))
    go_ret
    exact ⟨EWW, BL⟩
  ·obtain rfl := Option.some.inj H
   try go_wp2
   go_ret
   exact ⟨EWW, BL⟩
 ·obtain rfl := Option.some.inj H
  try go_wp2
  go_ret
  exact ⟨EWW, BL⟩
def jS.f (k : Nat) (a0 : ByteArray) : Option (ByteArray) := (bM.f k a0).bind fun t603 => (if t603 = true then (if 0 ≤ 1 then (if 1 ≤ (a0.size : Int) then (some (a0.extract 0 1)) else (none)) else (none)) else (some (⟨#[]⟩ : ByteArray)))
theorem jS.calls (k : Nat) (a0 r : ByteArray) (w : World) (h : jS.f k a0 = some r) :
  Calls Tryz.prog 207 #[.string a0] w fun e w' => e = .returned (.string r) ∧ cK w w' := by
 unfold jS.f at h
 have H := h
 clear h
 replace H := be H; obtain ⟨t603, A2, H⟩ := H
 replace H := ah.mk H
 go_enter Tryz.func207, Tryz.ntmps207
 go_wp2_with (first | ((with_reducible refine ay (f := 145) rfl ?_); refine bE (some 4) Tryz.func145 #[.string a0] ?_; (with_reducible refine (bM.calls k a0 _ _ A2.out).mono ?_); rintro e w' ⟨rfl, ⟨nd, rfl⟩⟩; refine ⟨_, rfl, ?_⟩; refine bU ?_))
 refine Hide.mk ?_
 replace H := H.out
 replace H := ifB H; rcases H with ⟨rfl, H⟩ | ⟨rfl, H⟩
 ·replace H := ifP H; obtain ⟨c4, H⟩ := H
  have c4b0 := eq_true c4
  have c4b1 : decide (0 ≤ 1) = true := decide_eq_true c4
  clear c4
  replace H := ifP H; obtain ⟨c5, H⟩ := H
  have c5b0 := eq_true c5
  have c5b1 : decide (1 ≤ (a0.size : Int)) = true := decide_eq_true c5
  clear c5
  obtain rfl := Option.some.inj H
  try go_wp2
  go_ret
  exact ⟨EQ, DR⟩
 ·obtain rfl := Option.some.inj H
  try go_wp2
  go_ret
  exact ⟨EQ, DR⟩
def iH.f (k : Nat) (a0 : ByteArray) : Option (ByteArray) := (bM.f k a0).bind fun t604 => (if t604 = true then (if 1 ≤ (a0.size : Int) then (some (a0.extract 1 a0.size)) else (none)) else (some (⟨#[]⟩ : ByteArray)))
theorem iH.calls (k : Nat) (a0 r : ByteArray) (w : World) (h : iH.f k a0 = some r) :
  Calls Tryz.prog 208 #[.string a0] w fun e w' => e = .returned (.string r) ∧ cK w w' := by
 unfold iH.f at h
 have H := h
 clear h
 replace H := be H; obtain ⟨t604, A2, H⟩ := H
 replace H := ah.mk H
 go_enter Tryz.func208, Tryz.ntmps208
 go_wp2_with (first | ((with_reducible refine ay (f := 145) rfl ?_); refine bE (some 4) Tryz.func145 #[.string a0] ?_; (with_reducible refine (bM.calls k a0 _ _ A2.out).mono ?_); rintro e w' ⟨rfl, ⟨nd, rfl⟩⟩; refine ⟨_, rfl, ?_⟩; refine bU ?_))
 refine Hide.mk ?_
 replace H := H.out
 replace H := ifB H; rcases H with ⟨rfl, H⟩ | ⟨rfl, H⟩
 ·replace H := ifP H; obtain ⟨c4, H⟩ := H
  have c4b0 := eq_true c4
  have c4b1 : decide (1 ≤ (a0.size : Int)) = true := decide_eq_true c4
  clear c4
  obtain rfl := Option.some.inj H
  try go_wp2
  go_ret
  exact ⟨EQ, DR⟩
 ·obtain rfl := Option.some.inj H
  try go_wp2
  go_ret
  exact ⟨EQ, DR⟩
def iF.f (k : Nat) (a0 : ByteArray) : Option (ByteArray) := (bM.f k a0).bind fun t605 => (if t605 = true then (if 0 ≤ (wrap64 ((a0.size : Int) - 1)) then (if (wrap64 ((a0.size : Int) - 1)) ≤ (a0.size : Int) then (some (a0.extract 0 ((wrap64 ((a0.size : Int) - 1)) : Int).toNat)) else (none)) else (none)) else (some (⟨#[]⟩ : ByteArray)))
theorem iF.calls (k : Nat) (a0 r : ByteArray) (w : World) (h : iF.f k a0 = some r) :
  Calls Tryz.prog 209 #[.string a0] w fun e w' => e = .returned (.string r) ∧ cK w w' := by
 unfold iF.f at h
 have H := h
 clear h
 replace H := be H; obtain ⟨t605, A2, H⟩ := H
 replace H := ah.mk H
 go_enter Tryz.func209, Tryz.ntmps209
 go_wp2_with (first | ((with_reducible refine ay (f := 145) rfl ?_); refine bE (some 4) Tryz.func145 #[.string a0] ?_; (with_reducible refine (bM.calls k a0 _ _ A2.out).mono ?_); rintro e w' ⟨rfl, ⟨nd, rfl⟩⟩; refine ⟨_, rfl, ?_⟩; refine bU ?_))
 refine Hide.mk ?_
 replace H := H.out
 replace H := ifB H; rcases H with ⟨rfl, H⟩ | ⟨rfl, H⟩
 ·obtain ⟨ji4, hji4⟩ : ∃ j_ : Int, (wrap64 ((a0.size : Int) - 1)) = j_ := ⟨_, rfl⟩
  replace H : (if 0 ≤ (ji4) then (if (ji4) ≤ (a0.size : Int) then (some (a0.extract 0 ((ji4) : Int).toNat)) else (none)) else (none)) = some r := by first | (rw [hji4] at H; exact H) | (simp only [hji4] at H ⊢; exact H)
  (try rw [hji4] at A2)
  have hji4w : (IntKind.i64.wrap ((a0.size : Int) - 1)) = ji4 := (iC _).trans hji4
  replace H := ifP H; obtain ⟨c5, H⟩ := H
  have c5b0 := eq_true c5
  have c5b1 : decide (0 ≤ (ji4)) = true := decide_eq_true c5
  clear c5
  replace H := ifP H; obtain ⟨c6, H⟩ := H
  have c6b0 := eq_true c6
  have c6b1 : decide ((ji4) ≤ (a0.size : Int)) = true := decide_eq_true c6
  clear c6
  obtain rfl := Option.some.inj H
  try go_wp2
  go_ret
  exact ⟨by first | rfl | (simp; done) | (simp only [← hji4] <;> (first | rfl | simp)) | (simp [*]; done), DR⟩
 ·obtain rfl := Option.some.inj H
  try go_wp2
  go_ret
  exact ⟨EQ, DR⟩
mutual
def dn.j0 : Nat → ByteArray → ByteArray → Bool → Option (Bool)
 | 0, _, _, _ => none
 | k + 1, a, b, c => if c = true then (some false) else (dn.l0 k a b 1)
def dn.l0 : Nat → ByteArray → ByteArray → Int → Option (Bool)
 | 0, _, _, _ => none
 | k + 1, a, b, c => if (wrap64 (c + (a.size : Int))) < (b.size : Int) then (if 0 ≤ c then (if c ≤ (wrap64 (c + (a.size : Int))) then (if (wrap64 (c + (a.size : Int))) ≤ (b.size : Int) then (if (b.extract (c : Int).toNat ((wrap64 (c + (a.size : Int))) : Int).toNat).toList = a.toList then (some true) else (dn.l0 k a b (wrap64 (c + 1)))) else (none)) else (none)) else (none)) else (some false)
end
def dn.f (k : Nat) (a0 a1 : ByteArray) : Option (Bool) := (bM.f k a0).bind fun t606 => (if t606 = true then ((bM.f k a1).bind fun t607 => (dn.j0 k a0 a1 (!t607))) else (dn.j0 k a0 a1 true))
theorem dn.calls (k : Nat) (a0 a1 : ByteArray) (r : Bool) (w : World) (h : dn.f k a0 a1 = some r) :
  Calls Tryz.prog 210 #[.string a0, .string a1] w fun e w' => e = .returned (.bool r) ∧ cK w w' := by
 unfold dn.f at h
 have H := h
 clear h
 have HC3 := ah.mk H
 clear H
 go_enter Tryz.func210, Tryz.ntmps210
 go_upto_region 1 with (fail)
 go_cut [13] (fun v13 wc => ∃ (kq : Nat) (x13_2 : Bool), v13 = .bool x13_2 ∧ ah (dn.j0 kq a0 a1 x13_2 = some r) ∧ ah (kq ≤ k) ∧ cK w wc)
 case first =>
  have H := HC3.out
  clear HC3
  replace H := be H; obtain ⟨t606, A4, H⟩ := H
  replace H := ah.mk H
  go_wp2_with (first | ((with_reducible refine ay (f := 145) rfl ?_); refine bE (some 7) Tryz.func145 #[.string a0] ?_; (with_reducible refine (bM.calls k a0 _ _ A4.out).mono ?_); rintro e w' ⟨rfl, ⟨nd, rfl⟩⟩; refine ⟨_, rfl, ?_⟩; refine bU ?_))
  refine Hide.mk ?_
  replace H := H.out
  replace H := ifB H; rcases H with ⟨rfl, H⟩ | ⟨rfl, H⟩
  ·replace H := be H; obtain ⟨t607, A6, H⟩ := H
   have H' := ah.mk H
   clear H
   try go_wp2_with (first | (go_at_call 145; (with_reducible refine (bM.calls k a1 t607 _ A6.out).mono ?_); rintro e w' ⟨rfl, ⟨nd, rfl⟩⟩))
   go_meet
   case rel => exact ⟨_, (!t607), EQ, H', ⟨by first | omega | exact Nat.le_refl _⟩, DR⟩
  ·have H' := ah.mk H
   clear H
   try go_wp2
   go_meet
   case rel => exact ⟨_, (true), EQ, H', ⟨by first | omega | exact Nat.le_refl _⟩, DR⟩
 case rest =>
  clear HC3
  obtain ⟨kq, x13_2, rfl, HA, HJ2, ⟨mc2, rfl⟩⟩ := hcut
  cases kq with
  | zero => exact absurd HA.out (by simp [dn.j0])
  | succ kj2 =>
   have H := HA.out
   clear HA
   simp only [dn.j0] at H
   replace H := ifB H; rcases H with ⟨rfl, H⟩ | ⟨rfl, H⟩
   ·obtain rfl := Option.some.inj H
    go_wp2
    go_ret
    exact ⟨EQ, DR⟩
   ·have H' := ah.mk H
    clear H
    go_wp2
    go_loopg [5] kj2 (fun kq v5 w' => ∃ (x5_2 : Int), v5 = .int .i64 x5_2 ∧ ah (dn.l0 kq a0 a1 x5_2 = some r) ∧ ah (kq ≤ kj2) ∧ cK w w')
    case atStart => exact ⟨(1), EQ, H', ⟨Nat.le_refl _⟩, DR⟩
    case round =>
     clear H'
     try clear c7
     obtain ⟨x5_2, rfl, HA, HK2, ⟨m2, rfl⟩⟩ := hrel
     cases gk with
     | zero => exact absurd HA.out (by simp [dn.l0])
     | succ k2 =>
      have H := HA.out
      clear HA
      simp only [dn.l0] at H
      replace H := ifD H; rcases H with ⟨c8b0, H⟩ | ⟨c8b0, H⟩
      ·replace H := ifP H; obtain ⟨c9, H⟩ := H
       have c9b0 := eq_true c9
       have c9b1 : decide (0 ≤ x5_2) = true := decide_eq_true c9
       clear c9
       replace H := ifP H; obtain ⟨c10, H⟩ := H
       have c10b0 := eq_true c10
       have c10b1 : decide (x5_2 ≤ (wrap64 (x5_2 + (a0.size : Int)))) = true := decide_eq_true c10
       replace H := ifP H; obtain ⟨c11, H⟩ := H
       have c11b0 := eq_true c11
       have c11b1 : decide ((wrap64 (x5_2 + (a0.size : Int))) ≤ (a1.size : Int)) = true := decide_eq_true c11
       replace H := ifE H; rcases H with ⟨c12b0, c12b1, H⟩ | ⟨c12, c12b0, c12b1, H⟩
       ·obtain rfl := Option.some.inj H
        go_wp2
        go_ret
        exact ⟨EQ, DR⟩
       ·have H' := ah.mk H
        clear H
        go_wp2
        go_roundg k2
        case measure => have := HJ2.out; have := HK2.out; omega
        case rel => exact ⟨(wrap64 (x5_2 + 1)), EQ, H', ⟨by have := HJ2.out; have := HK2.out; omega⟩, DR⟩
      ·obtain rfl := Option.some.inj H
       go_wp2
       go_ret
       exact ⟨EQ, DR⟩
end Go.Proofs.YtnfiedfaaaphoaaGreat.PFnExactOneRound
