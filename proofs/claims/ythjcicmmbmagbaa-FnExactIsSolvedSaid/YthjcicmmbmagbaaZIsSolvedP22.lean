/- Walks of functions: what each computes. -/
import Derived.Test.YthjcicmmbmagbaaZIsSolvedP0
import Derived.Test.YthjcicmmbmagbaaZIsSolvedP17
import Derived.Test.YthjcicmmbmagbaaZIsSolvedP19
import Derived.Test.YthjcicmmbmagbaaZIsSolvedP21
import Derived.Test.YthjcicmmbmagbaaZIsSolvedW
import Derived.Test.YthjcicmmbmagbaaZIsSolvedShelf
import Derived.Test.YthjcicmmbmagbaaZIsSolvedHandSort
import Derived.Test.YthjcicmmbmagbaaZIsSolvedHandForm
import Derived.Test.YthjcicmmbmagbaaZIsSolvedHandAlone
import Derived.Test.YthjcicmmbmagbaaZIsSolvedHandReach
namespace Go.Proofs.Ythjcicmmbmagbaa.PFnExactIsSolved
open Go.RowKit Go.Proofs.YthjcicmmbmagbaaW.PrintWords Go.Proofs.YthjcicmmbmagbaaW.PrintLast Go.Proofs.YthjcicmmbmagbaaW.PrintMore Go.Proofs.Ythjcicmmbmagbaa.Sq
attribute [local go_sem] max2_int min2_int max_two min_two max_three min_three max_four min_four
set_option linter.unusedVariables false
set_option linter.unusedSimpArgs false
mutual
def impl_IsPlay.l0 : Nat → List (S110) → List (S110) → Int → Int → Option (Bool)
 | 0, _, _, _, _ => none
 | k + 1, x0, x9, x10, x11 => if x11 < x10 then (if 0 ≤ x11 then (if x11 < (x9.length : Int) then ((impl_InRange.f ((rd_T110 x9 x11).f0) 1 9).bind fun t503 => (if t503 = true then (if ((rd_T110 x9 x11).f0) = 1 then ((impl_IsWord.f k ((rd_T110 x9 x11).f1)).bind fun t504 => (if t504 = true then (if ((rd_T110 x9 x11).f2) = 0 then (if ((rd_T110 x9 x11).f3) = 0 then (impl_IsPlay.l0 k x0 x9 x10 (wrap64 (x11 + 1))) else (some false)) else (some false)) else (some false))) else (if ((rd_T110 x9 x11).f1).toList = ([] : List UInt8) then ((impl_at.f ((rd_T110 x9 x11).f2) x11).bind fun t505 => (if t505 = true then ((impl_needsWord.f ((rd_T110 x9 x11).f0)).bind fun t506 => (if t506 = true then (if 0 ≤ ((rd_T110 x9 x11).f2) then (if ((rd_T110 x9 x11).f2) < (x0.length : Int) then (impl_IsPlay.j1 k x0 x11 x9 x10 x11 (((rd_T110 x0 ((rd_T110 x9 x11).f2)).f0) != 1) ((rd_T110 x9 x11).f0) ((rd_T110 x9 x11).f1) ((rd_T110 x9 x11).f2) ((rd_T110 x9 x11).f3)) else (none)) else (none)) else (impl_IsPlay.j1 k x0 x11 x9 x10 x11 false ((rd_T110 x9 x11).f0) ((rd_T110 x9 x11).f1) ((rd_T110 x9 x11).f2) ((rd_T110 x9 x11).f3)))) else (impl_IsPlay.j1 k x0 x11 x9 x10 x11 true ((rd_T110 x9 x11).f0) ((rd_T110 x9 x11).f1) ((rd_T110 x9 x11).f2) ((rd_T110 x9 x11).f3)))) else (impl_IsPlay.j1 k x0 x11 x9 x10 x11 true ((rd_T110 x9 x11).f0) ((rd_T110 x9 x11).f1) ((rd_T110 x9 x11).f2) ((rd_T110 x9 x11).f3)))) else (some false))) else (none)) else (none)) else (some true)
def impl_IsPlay.j1 : Nat → List (S110) → Int → List (S110) → Int → Int → Bool → Int → ByteArray → Int → Int → Option (Bool)
 | 0, _, _, _, _, _, _, _, _, _, _ => none
 | k + 1, x0, x3, x9, x10, x11, x60, x503000, x503001, x503002, x503003 => if x60 = true then (some false) else ((impl_isPair.f x503000).bind fun t508 => (if t508 = true then ((impl_at.f x503003 x3).bind fun t509 => (if t509 = true then ((impl_isPair.f x503000).bind fun t510 => (if t510 = true then (impl_IsPlay.l0 k x0 x9 x10 (wrap64 (x11 + 1))) else (if x503003 = 0 then (impl_IsPlay.l0 k x0 x9 x10 (wrap64 (x11 + 1))) else (some false)))) else (some false))) else ((impl_isPair.f x503000).bind fun t511 => (if t511 = true then (impl_IsPlay.l0 k x0 x9 x10 (wrap64 (x11 + 1))) else (if x503003 = 0 then (impl_IsPlay.l0 k x0 x9 x10 (wrap64 (x11 + 1))) else (some false))))))
end
def impl_IsPlay.f (k : Nat) (l0 : List (S110)) : Option (Bool) := (impl_InRange.f (l0.length : Int) 1 9).bind fun t500 => (if t500 = true then (impl_IsPlay.l0 k l0 l0 (l0.length : Int) 0) else (some false))
set_option maxHeartbeats 8000000 in
set_option maxRecDepth 100000 in
theorem impl_IsPlay.calls (k : Nat) (A0 : Option Addr) (c0 : Nat) (l0 : List (S110)) (r : Bool) (w : World) (hr0 : Kd.C k110 w A0 l0.length l0) (hc0 : l0.length ≤ c0) (h : impl_IsPlay.f k l0 = some r) :
  Calls Try.prog 50 #[.slice A0 l0.length c0] w fun e w' => e = .returned (.bool r) ∧ Below w.heap.size w w' := by
 have hu110 := Try.underlying110
 have HR0 := Aside0.mk hr0
 have HC0 := Aside0.mk hc0
 clear hr0 hc0
 have HB := Aside0.mk (Below.refl w.heap.size w)
 have H : ((impl_InRange.f (l0.length : Int) 1 9).bind fun t500 => (if t500 = true then (impl_IsPlay.l0 k l0 l0 (l0.length : Int) 0) else (some false))) = some r := h
 clear h
 replace H := be H; obtain ⟨t500, A2, H⟩ := H
 replace H := Aside0.mk H
 go_enter Try.func50, Try.ntmps50
 go_wp2_with (first | ((with_reducible refine gate_callee (f := 65) rfl ?_); refine goesS (some 7) Try.func65 #[.int .i64 (l0.length : Int), .int .i64 1, .int .i64 9] ?_; (with_reducible refine (impl_InRange.calls (l0.length : Int) 1 9 _ _ A2.out).mono ?_); rintro e w' ⟨rfl, ⟨nd, rfl⟩⟩; refine ⟨_, rfl, ?_⟩; refine stop_ ?_))
 refine Hide.mk ?_
 replace H := H.out
 replace H := ifB H; rcases H with ⟨rfl, H⟩ | ⟨rfl, H⟩
 ·have H' := Aside0.mk H
  clear H
  try go_wp2
  go_loopg [11] k (fun kq v11 w' => ∃ (x11_1 : Int), v11 = .int .i64 x11_1 ∧ Aside0 (impl_IsPlay.l0 kq l0 l0 (l0.length : Int) x11_1 = some r) ∧ Aside0 (kq ≤ k) ∧ Aside0 (Below w.heap.size w w'))
  case atStart => exact ⟨(0), EQ, H', ⟨Nat.le_refl _⟩, ⟨BL⟩⟩
  case round =>
   clear H'
   try clear c3
   obtain ⟨x11_1, rfl, HA, HK1, HB⟩ := hrel
   cases gk with
   | zero => exact absurd HA.out (by simp [impl_IsPlay.l0])
   | succ k1 =>
    have H := HA.out
    clear HA
    simp only [impl_IsPlay.l0] at H
    replace H := ifD H; rcases H with ⟨c4b0, H⟩ | ⟨c4b0, H⟩
    ·replace H := ifN H; obtain ⟨c5b0, H⟩ := H
     replace H := ifN H; obtain ⟨c6b0, H⟩ := H
     replace H := be H; obtain ⟨t503, A7, H⟩ := H
     have p501 : 0 ≤ (x11_1 : Int) := OD
     have q501 : x11_1 < (l0.length : Int) := OD
     obtain ⟨ad501, e501, hx501_0, hx501_1, hx501_2, hx501_3⟩ := at_T110 HR0.out x11_1 p501 q501
     cases e501
     try replace hx501_0 := (HB.out.cell (World.block_lt_of_cell? w _ hx501_0)).trans hx501_0
     try replace hx501_1 := (HB.out.cell (World.block_lt_of_cell? w _ hx501_1)).trans hx501_1
     try replace hx501_2 := (HB.out.cell (World.block_lt_of_cell? w _ hx501_2)).trans hx501_2
     try replace hx501_3 := (HB.out.cell (World.block_lt_of_cell? w _ hx501_3)).trans hx501_3
     replace p501 := eq_true p501
     replace q501 := eq_true q501
     replace H := Aside0.mk H
     go_wp2_with (first | ((with_reducible refine gate_dst (N := 4) rfl ?_); refine box_ev (N := 4) (cs := #[.int .i64 0, .string (⟨#[]⟩ : ByteArray), .int .i64 0, .int .i64 0]) (t := 110) ?_; intro gb502 hg w9000 hbox hb; have n0_ := BS (w := w) hb; have n1_ := Aside0.mk (hbox); have n2_ := SZ (w := w) hg; have n3_ := SZ (w := w) hg; clear HB; have HB := n0_; have BK502 := n1_; have GW502 := n2_; have GE502 := n3_; clear n0_ n1_ n2_ n3_; clear hb hbox hg; obtain ⟨hcz9001_0, hcz9001_1, hcz9001_2, hcz9001_3, hfz9001_0, hfz9001_1, hfz9001_2, hfz9001_3⟩ := cz4 BK502.out) | ((with_reducible refine gate_callee (f := 65) rfl ?_); refine goesS (some 18) Try.func65 #[.int .i64 ((rd_T110 l0 x11_1).f0), .int .i64 1, .int .i64 9] ?_; (with_reducible refine (impl_InRange.calls ((rd_T110 l0 x11_1).f0) 1 9 _ _ A7.out).mono ?_); rintro e w' ⟨rfl, ⟨nd, rfl⟩⟩; refine ⟨_, rfl, ?_⟩; refine stop_ ?_))
     refine Hide.mk ?_
     replace H := H.out
     replace H := ifB H; rcases H with ⟨rfl, H⟩ | ⟨rfl, H⟩
     ·replace H := ifE H; rcases H with ⟨c9b0, c9b1, H⟩ | ⟨c9, c9b0, c9b1, H⟩
      ·replace H := be H; obtain ⟨t504, A10, H⟩ := H
       replace H := Aside0.mk H
       go_wp2_with (first | ((with_reducible refine gate_callee (f := 64) rfl ?_); refine goesS (some 25) Try.func64 #[.string ((rd_T110 l0 x11_1).f1)] ?_; (with_reducible refine (impl_IsWord.calls k1 ((rd_T110 l0 x11_1).f1) _ _ A10.out).mono ?_); rintro e w' ⟨rfl, ⟨nd, rfl⟩⟩; refine ⟨_, rfl, ?_⟩; refine stop_ ?_))
       refine Hide.mk ?_
       replace H := H.out
       replace H := ifB H; rcases H with ⟨rfl, H⟩ | ⟨rfl, H⟩
       ·replace H := ifE H; rcases H with ⟨c12b0, c12b1, H⟩ | ⟨c12, c12b0, c12b1, H⟩
        ·replace H := ifE H; rcases H with ⟨c13b0, c13b1, H⟩ | ⟨c13, c13b0, c13b1, H⟩
         ·have H' := Aside0.mk H
          clear H
          try go_wp2
          go_roundg k1
          case measure => have := HK1.out; omega
          case rel => exact ⟨(wrap64 (x11_1 + 1)), EQ, H', ⟨by have := HK1.out; omega⟩, ⟨BL⟩⟩
         ·obtain rfl := Option.some.inj H
          try go_wp2
          go_ret
          exact ⟨EWW, BL⟩
        ·obtain rfl := Option.some.inj H
         try go_wp2
         go_ret
         exact ⟨EWW, BL⟩
       ·obtain rfl := Option.some.inj H
        try go_wp2
        go_ret
        exact ⟨EWW, BL⟩
      ·have HC22 := Aside0.mk H
       clear H
       go_upto_region 11 with (fail)
       (try simp only [Act.put, List.setIfInBounds_toArray, List.set_cons_zero, List.set_cons_succ])
       go_cut [60] (fun v60 wc => ∃ (kq : Nat) (x60_21 : Bool), v60 = .bool x60_21 ∧ Aside0 (impl_IsPlay.j1 kq l0 x11_1 l0 (l0.length : Int) x11_1 x60_21 ((rd_T110 l0 x11_1).f0) ((rd_T110 l0 x11_1).f1) ((rd_T110 l0 x11_1).f2) ((rd_T110 l0 x11_1).f3) = some r) ∧ Aside0 (kq ≤ k1) ∧ Aside0 (wc.heap[gb502]? = some (.cells #[.int .i64 ((rd_T110 l0 x11_1).f0), .string ((rd_T110 l0 x11_1).f1), .int .i64 ((rd_T110 l0 x11_1).f2), .int .i64 ((rd_T110 l0 x11_1).f3)] 110 (0, 0))) ∧ Aside0 (Below w.heap.size w wc))
       case first =>
        have H := HC22.out
        clear HC22
        obtain ⟨hcz9002_0, hcz9002_1, hcz9002_2, hcz9002_3, hfz9002_0, hfz9002_1, hfz9002_2, hfz9002_3⟩ := cz4 BK502.out
        replace H := ifE H; rcases H with ⟨c25b0, c25b1, H⟩ | ⟨c25, c25b0, c25b1, H⟩
        ·(first | rw [c25b0] | (simp only [i64_w, i32_w]; rw [c25b0]) | skip)
         replace H := be H; obtain ⟨t505, A26, H⟩ := H
         replace H := Aside0.mk H
         go_wp2_with (first | (go_at_call 109; (with_reducible refine (impl_at.calls ((rd_T110 l0 x11_1).f2) x11_1 _ _ A26.out).mono ?_); rintro e w' ⟨rfl, ⟨nd, rfl⟩⟩; refine stop_ ?_))
         refine Hide.mk ?_
         replace H := H.out
         replace H := ifB H; rcases H with ⟨rfl, H⟩ | ⟨rfl, H⟩
         ·replace H := be H; obtain ⟨t506, A28, H⟩ := H
          replace H := Aside0.mk H
          go_wp2_with (first | (go_at_call 110; (with_reducible refine (impl_needsWord.calls ((rd_T110 l0 x11_1).f0) _ _ A28.out).mono ?_); rintro e w' ⟨rfl, ⟨nd, rfl⟩⟩; refine stop_ ?_))
          refine Hide.mk ?_
          replace H := H.out
          replace H := ifB H; rcases H with ⟨rfl, H⟩ | ⟨rfl, H⟩
          ·replace H := ifN H; obtain ⟨c30b0, H⟩ := H
           replace H := ifN H; obtain ⟨c31b0, H⟩ := H
           have H' := Aside0.mk H
           clear H
           have p507 : 0 ≤ (((rd_T110 l0 x11_1).f2) : Int) := OD
           have q507 : ((rd_T110 l0 x11_1).f2) < (l0.length : Int) := OD
           obtain ⟨ad507, e507, hx507_0, hx507_1, hx507_2, hx507_3⟩ := at_T110 HR0.out ((rd_T110 l0 x11_1).f2) p507 q507
           obtain rfl : ad501 = ad507 := (by injection e507)
           have hn507_0 : ad501.block ≠ gb502 := Nat.ne_of_lt (Nat.lt_of_lt_of_le (by have := World.block_lt_of_cell? _ _ hx507_0; first | rwa [add_block] at this | exact this) GW502.out)
           have hn507_1 : ad501.block ≠ gb502 := Nat.ne_of_lt (Nat.lt_of_lt_of_le (by have := World.block_lt_of_cell? _ _ hx507_0; first | rwa [add_block] at this | exact this) GW502.out)
           have hn507_2 : ad501.block ≠ gb502 := Nat.ne_of_lt (Nat.lt_of_lt_of_le (by have := World.block_lt_of_cell? _ _ hx507_0; first | rwa [add_block] at this | exact this) GW502.out)
           have hn507_3 : ad501.block ≠ gb502 := Nat.ne_of_lt (Nat.lt_of_lt_of_le (by have := World.block_lt_of_cell? _ _ hx507_0; first | rwa [add_block] at this | exact this) GW502.out)
           replace hx507_0 := (HB.out.cell (World.block_lt_of_cell? w _ hx507_0)).trans hx507_0
           replace hx507_1 := (HB.out.cell (World.block_lt_of_cell? w _ hx507_1)).trans hx507_1
           replace hx507_2 := (HB.out.cell (World.block_lt_of_cell? w _ hx507_2)).trans hx507_2
           replace hx507_3 := (HB.out.cell (World.block_lt_of_cell? w _ hx507_3)).trans hx507_3
           replace hx507_0 := (cell_far (p := ⟨gb502, 0, none⟩) (by first | (rw [add_block]; exact hn507_0) | (show (Addr.add _ _).block ≠ _; rw [add_block]; exact hn507_0) | exact hn507_0) (.int .i64 ((rd_T110 l0 x11_1).f0))).trans hx507_0
           replace hx507_1 := (cell_far (p := ⟨gb502, 0, none⟩) (by first | (rw [add_block]; exact hn507_0) | (show (Addr.add _ _).block ≠ _; rw [add_block]; exact hn507_0) | exact hn507_0) (.int .i64 ((rd_T110 l0 x11_1).f0))).trans hx507_1
           replace hx507_2 := (cell_far (p := ⟨gb502, 0, none⟩) (by first | (rw [add_block]; exact hn507_0) | (show (Addr.add _ _).block ≠ _; rw [add_block]; exact hn507_0) | exact hn507_0) (.int .i64 ((rd_T110 l0 x11_1).f0))).trans hx507_2
           replace hx507_3 := (cell_far (p := ⟨gb502, 0, none⟩) (by first | (rw [add_block]; exact hn507_0) | (show (Addr.add _ _).block ≠ _; rw [add_block]; exact hn507_0) | exact hn507_0) (.int .i64 ((rd_T110 l0 x11_1).f0))).trans hx507_3
           replace hx507_0 := (cell_far (p := ⟨gb502, 1, none⟩) (by first | (rw [add_block]; exact hn507_1) | (show (Addr.add _ _).block ≠ _; rw [add_block]; exact hn507_1) | exact hn507_1) (.string ((rd_T110 l0 x11_1).f1))).trans hx507_0
           replace hx507_1 := (cell_far (p := ⟨gb502, 1, none⟩) (by first | (rw [add_block]; exact hn507_1) | (show (Addr.add _ _).block ≠ _; rw [add_block]; exact hn507_1) | exact hn507_1) (.string ((rd_T110 l0 x11_1).f1))).trans hx507_1
           replace hx507_2 := (cell_far (p := ⟨gb502, 1, none⟩) (by first | (rw [add_block]; exact hn507_1) | (show (Addr.add _ _).block ≠ _; rw [add_block]; exact hn507_1) | exact hn507_1) (.string ((rd_T110 l0 x11_1).f1))).trans hx507_2
           replace hx507_3 := (cell_far (p := ⟨gb502, 1, none⟩) (by first | (rw [add_block]; exact hn507_1) | (show (Addr.add _ _).block ≠ _; rw [add_block]; exact hn507_1) | exact hn507_1) (.string ((rd_T110 l0 x11_1).f1))).trans hx507_3
           replace hx507_0 := (cell_far (p := ⟨gb502, 2, none⟩) (by first | (rw [add_block]; exact hn507_2) | (show (Addr.add _ _).block ≠ _; rw [add_block]; exact hn507_2) | exact hn507_2) (.int .i64 ((rd_T110 l0 x11_1).f2))).trans hx507_0
           replace hx507_1 := (cell_far (p := ⟨gb502, 2, none⟩) (by first | (rw [add_block]; exact hn507_2) | (show (Addr.add _ _).block ≠ _; rw [add_block]; exact hn507_2) | exact hn507_2) (.int .i64 ((rd_T110 l0 x11_1).f2))).trans hx507_1
           replace hx507_2 := (cell_far (p := ⟨gb502, 2, none⟩) (by first | (rw [add_block]; exact hn507_2) | (show (Addr.add _ _).block ≠ _; rw [add_block]; exact hn507_2) | exact hn507_2) (.int .i64 ((rd_T110 l0 x11_1).f2))).trans hx507_2
           replace hx507_3 := (cell_far (p := ⟨gb502, 2, none⟩) (by first | (rw [add_block]; exact hn507_2) | (show (Addr.add _ _).block ≠ _; rw [add_block]; exact hn507_2) | exact hn507_2) (.int .i64 ((rd_T110 l0 x11_1).f2))).trans hx507_3
           replace hx507_0 := (cell_far (p := ⟨gb502, 3, none⟩) (by first | (rw [add_block]; exact hn507_3) | (show (Addr.add _ _).block ≠ _; rw [add_block]; exact hn507_3) | exact hn507_3) (.int .i64 ((rd_T110 l0 x11_1).f3))).trans hx507_0
           replace hx507_1 := (cell_far (p := ⟨gb502, 3, none⟩) (by first | (rw [add_block]; exact hn507_3) | (show (Addr.add _ _).block ≠ _; rw [add_block]; exact hn507_3) | exact hn507_3) (.int .i64 ((rd_T110 l0 x11_1).f3))).trans hx507_1
           replace hx507_2 := (cell_far (p := ⟨gb502, 3, none⟩) (by first | (rw [add_block]; exact hn507_3) | (show (Addr.add _ _).block ≠ _; rw [add_block]; exact hn507_3) | exact hn507_3) (.int .i64 ((rd_T110 l0 x11_1).f3))).trans hx507_2
           replace hx507_3 := (cell_far (p := ⟨gb502, 3, none⟩) (by first | (rw [add_block]; exact hn507_3) | (show (Addr.add _ _).block ≠ _; rw [add_block]; exact hn507_3) | exact hn507_3) (.int .i64 ((rd_T110 l0 x11_1).f3))).trans hx507_3
           clear hn507_0 hn507_1 hn507_2 hn507_3
           replace p507 := eq_true p507
           replace q507 := eq_true q507
           go_wp2
           go_meet
           case rel => exact ⟨_, ((((rd_T110 l0 ((rd_T110 l0 x11_1).f2)).f0) != 1)), EQ, H', ⟨by have := HK1.out; first | omega | exact Nat.le_refl _⟩, ⟨by (with_reducible repeat (first | refine blk_drewN ?_ _ | refine blk_drew ?_ | refine blk_alloc ?_ _)); refine blk_put (cs := #[.int .i64 ((rd_T110 l0 x11_1).f0), .string ((rd_T110 l0 x11_1).f1), .int .i64 ((rd_T110 l0 x11_1).f2), .int .i64 0]) ?_ 3 _ rfl; (with_reducible repeat (first | refine blk_drewN ?_ _ | refine blk_drew ?_ | refine blk_alloc ?_ _)); refine blk_put (cs := #[.int .i64 ((rd_T110 l0 x11_1).f0), .string ((rd_T110 l0 x11_1).f1), .int .i64 0, .int .i64 0]) ?_ 2 _ rfl; (with_reducible repeat (first | refine blk_drewN ?_ _ | refine blk_drew ?_ | refine blk_alloc ?_ _)); refine blk_put (cs := #[.int .i64 ((rd_T110 l0 x11_1).f0), .string (⟨#[]⟩ : ByteArray), .int .i64 0, .int .i64 0]) ?_ 1 _ rfl; (with_reducible repeat (first | refine blk_drewN ?_ _ | refine blk_drew ?_ | refine blk_alloc ?_ _)); refine blk_put (cs := #[.int .i64 0, .string (⟨#[]⟩ : ByteArray), .int .i64 0, .int .i64 0]) ?_ 0 _ rfl; (with_reducible repeat (first | refine blk_drewN ?_ _ | refine blk_drew ?_ | refine blk_alloc ?_ _)); exact BK502.out⟩, ⟨BL⟩⟩
          ·have H' := Aside0.mk H
           clear H
           try go_wp2
           go_meet
           case rel => exact ⟨_, (false), EQ, H', ⟨by have := HK1.out; first | omega | exact Nat.le_refl _⟩, ⟨by (with_reducible repeat (first | refine blk_drewN ?_ _ | refine blk_drew ?_ | refine blk_alloc ?_ _)); refine blk_put (cs := #[.int .i64 ((rd_T110 l0 x11_1).f0), .string ((rd_T110 l0 x11_1).f1), .int .i64 ((rd_T110 l0 x11_1).f2), .int .i64 0]) ?_ 3 _ rfl; (with_reducible repeat (first | refine blk_drewN ?_ _ | refine blk_drew ?_ | refine blk_alloc ?_ _)); refine blk_put (cs := #[.int .i64 ((rd_T110 l0 x11_1).f0), .string ((rd_T110 l0 x11_1).f1), .int .i64 0, .int .i64 0]) ?_ 2 _ rfl; (with_reducible repeat (first | refine blk_drewN ?_ _ | refine blk_drew ?_ | refine blk_alloc ?_ _)); refine blk_put (cs := #[.int .i64 ((rd_T110 l0 x11_1).f0), .string (⟨#[]⟩ : ByteArray), .int .i64 0, .int .i64 0]) ?_ 1 _ rfl; (with_reducible repeat (first | refine blk_drewN ?_ _ | refine blk_drew ?_ | refine blk_alloc ?_ _)); refine blk_put (cs := #[.int .i64 0, .string (⟨#[]⟩ : ByteArray), .int .i64 0, .int .i64 0]) ?_ 0 _ rfl; (with_reducible repeat (first | refine blk_drewN ?_ _ | refine blk_drew ?_ | refine blk_alloc ?_ _)); exact BK502.out⟩, ⟨BL⟩⟩
         ·have H' := Aside0.mk H
          clear H
          try go_wp2
          go_meet
          case rel => exact ⟨_, (true), EQ, H', ⟨by have := HK1.out; first | omega | exact Nat.le_refl _⟩, ⟨by (with_reducible repeat (first | refine blk_drewN ?_ _ | refine blk_drew ?_ | refine blk_alloc ?_ _)); refine blk_put (cs := #[.int .i64 ((rd_T110 l0 x11_1).f0), .string ((rd_T110 l0 x11_1).f1), .int .i64 ((rd_T110 l0 x11_1).f2), .int .i64 0]) ?_ 3 _ rfl; (with_reducible repeat (first | refine blk_drewN ?_ _ | refine blk_drew ?_ | refine blk_alloc ?_ _)); refine blk_put (cs := #[.int .i64 ((rd_T110 l0 x11_1).f0), .string ((rd_T110 l0 x11_1).f1), .int .i64 0, .int .i64 0]) ?_ 2 _ rfl; (with_reducible repeat (first | refine blk_drewN ?_ _ | refine blk_drew ?_ | refine blk_alloc ?_ _)); refine blk_put (cs := #[.int .i64 ((rd_T110 l0 x11_1).f0), .string (⟨#[]⟩ : ByteArray), .int .i64 0, .int .i64 0]) ?_ 1 _ rfl; (with_reducible repeat (first | refine blk_drewN ?_ _ | refine blk_drew ?_ | refine blk_alloc ?_ _)); refine blk_put (cs := #[.int .i64 0, .string (⟨#[]⟩ : ByteArray), .int .i64 0, .int .i64 0]) ?_ 0 _ rfl; (with_reducible repeat (first | refine blk_drewN ?_ _ | refine blk_drew ?_ | refine blk_alloc ?_ _)); exact BK502.out⟩, ⟨BL⟩⟩
        ·(first | rw [c25b0] | (simp only [i64_w, i32_w]; rw [c25b0]) | skip)
         have H' := Aside0.mk H
         clear H
         go_wp2
         go_meet
         case rel => exact ⟨_, (true), EQ, H', ⟨by have := HK1.out; first | omega | exact Nat.le_refl _⟩, ⟨by (with_reducible repeat (first | refine blk_drewN ?_ _ | refine blk_drew ?_ | refine blk_alloc ?_ _)); refine blk_put (cs := #[.int .i64 ((rd_T110 l0 x11_1).f0), .string ((rd_T110 l0 x11_1).f1), .int .i64 ((rd_T110 l0 x11_1).f2), .int .i64 0]) ?_ 3 _ rfl; (with_reducible repeat (first | refine blk_drewN ?_ _ | refine blk_drew ?_ | refine blk_alloc ?_ _)); refine blk_put (cs := #[.int .i64 ((rd_T110 l0 x11_1).f0), .string ((rd_T110 l0 x11_1).f1), .int .i64 0, .int .i64 0]) ?_ 2 _ rfl; (with_reducible repeat (first | refine blk_drewN ?_ _ | refine blk_drew ?_ | refine blk_alloc ?_ _)); refine blk_put (cs := #[.int .i64 ((rd_T110 l0 x11_1).f0), .string (⟨#[]⟩ : ByteArray), .int .i64 0, .int .i64 0]) ?_ 1 _ rfl; (with_reducible repeat (first | refine blk_drewN ?_ _ | refine blk_drew ?_ | refine blk_alloc ?_ _)); refine blk_put (cs := #[.int .i64 0, .string (⟨#[]⟩ : ByteArray), .int .i64 0, .int .i64 0]) ?_ 0 _ rfl; (with_reducible repeat (first | refine blk_drewN ?_ _ | refine blk_drew ?_ | refine blk_alloc ?_ _)); exact BK502.out⟩, ⟨BL⟩⟩
       case rest =>
        clear HC22
        try clear c3
        try clear c4
        try clear c4b0
        try clear c5
        try clear c5b0
        try clear c6
        try clear c6b0
        try clear c8
        try clear c9
        try clear c9b0
        try clear c9b1
        try clear hcz9001_0
        try clear hcz9001_1
        try clear hcz9001_2
        try clear hcz9001_3
        try clear hfz9001_0
        try clear hfz9001_1
        try clear hfz9001_2
        try clear hfz9001_3
        try clear hx501_0
        try clear hx501_1
        try clear hx501_2
        try clear hx501_3
        try clear p501
        try clear q501
        obtain ⟨kq, x60_21, rfl, HA, HJ21, BK502, HB⟩ := hcut
        cases kq with
        | zero => exact absurd HA.out (by simp [impl_IsPlay.j1])
        | succ kj21 =>
         have H := HA.out
         clear HA
         simp only [impl_IsPlay.j1] at H
         replace H := ifB H; rcases H with ⟨rfl, H⟩ | ⟨rfl, H⟩
         ·obtain rfl := Option.some.inj H
          go_wp2
          go_ret
          exact ⟨EWW, BL⟩
         ·replace H := be H; obtain ⟨t508, A37, H⟩ := H
          obtain ⟨hcz9003_0, hcz9003_1, hcz9003_2, hcz9003_3, hfz9003_0, hfz9003_1, hfz9003_2, hfz9003_3⟩ := cz4 BK502.out
          replace H := Aside0.mk H
          go_wp2_with (first | ((with_reducible refine gate_callee (f := 107) rfl ?_); refine goesS (some 63) Try.func107 #[.int .i64 ((rd_T110 l0 x11_1).f0)] ?_; (with_reducible refine (impl_isPair.calls ((rd_T110 l0 x11_1).f0) _ _ A37.out).mono ?_); rintro e w' ⟨rfl, ⟨nd, rfl⟩⟩; refine ⟨_, rfl, ?_⟩; refine stop_ ?_))
          refine Hide.mk ?_
          replace H := H.out
          replace H := ifB H; rcases H with ⟨rfl, H⟩ | ⟨rfl, H⟩
          ·replace H := be H; obtain ⟨t509, A39, H⟩ := H
           replace H := Aside0.mk H
           go_wp2_with (first | (go_at_call 109; (with_reducible refine (impl_at.calls ((rd_T110 l0 x11_1).f3) x11_1 _ _ A39.out).mono ?_); rintro e w' ⟨rfl, ⟨nd, rfl⟩⟩; refine stop_ ?_))
           refine Hide.mk ?_
           replace H := H.out
           replace H := ifB H; rcases H with ⟨rfl, H⟩ | ⟨rfl, H⟩
           ·replace H := be H; obtain ⟨t510, A41, H⟩ := H
            replace H := Aside0.mk H
            go_wp2_with (first | (go_at_call 107; (with_reducible refine (impl_isPair.calls ((rd_T110 l0 x11_1).f0) _ _ A41.out).mono ?_); rintro e w' ⟨rfl, ⟨nd, rfl⟩⟩; refine stop_ ?_))
            refine Hide.mk ?_
            replace H := H.out
            replace H := ifB H; rcases H with ⟨rfl, H⟩ | ⟨rfl, H⟩
            ·have H' := Aside0.mk H
             clear H
             try go_wp2
             go_roundg kj21
             case measure => have := HK1.out; have := HJ21.out; omega
             case rel => exact ⟨(wrap64 (x11_1 + 1)), EQ, H', ⟨by have := HK1.out; have := HJ21.out; omega⟩, ⟨BL⟩⟩
            ·replace H := ifE H; rcases H with ⟨c44b0, c44b1, H⟩ | ⟨c44, c44b0, c44b1, H⟩
             ·have H' := Aside0.mk H
              clear H
              try go_wp2
              go_roundg kj21
              case measure => have := HK1.out; have := HJ21.out; omega
              case rel => exact ⟨(wrap64 (x11_1 + 1)), EQ, H', ⟨by have := HK1.out; have := HJ21.out; omega⟩, ⟨BL⟩⟩
             ·obtain rfl := Option.some.inj H
              try go_wp2
              go_ret
              exact ⟨EWW, BL⟩
           ·obtain rfl := Option.some.inj H
            try go_wp2
            go_ret
            exact ⟨EWW, BL⟩
          ·replace H := be H; obtain ⟨t511, A48, H⟩ := H
           replace H := Aside0.mk H
           go_wp2_with (first | (go_at_call 107; (with_reducible refine (impl_isPair.calls ((rd_T110 l0 x11_1).f0) _ _ A48.out).mono ?_); rintro e w' ⟨rfl, ⟨nd, rfl⟩⟩; refine stop_ ?_))
           refine Hide.mk ?_
           replace H := H.out
           replace H := ifB H; rcases H with ⟨rfl, H⟩ | ⟨rfl, H⟩
           ·have H' := Aside0.mk H
            clear H
            try go_wp2
            go_roundg kj21
            case measure => have := HK1.out; have := HJ21.out; omega
            case rel => exact ⟨(wrap64 (x11_1 + 1)), EQ, H', ⟨by have := HK1.out; have := HJ21.out; omega⟩, ⟨BL⟩⟩
           ·replace H := ifE H; rcases H with ⟨c51b0, c51b1, H⟩ | ⟨c51, c51b0, c51b1, H⟩
            ·have H' := Aside0.mk H
             clear H
             try go_wp2
             go_roundg kj21
             case measure => have := HK1.out; have := HJ21.out; omega
             case rel => exact ⟨(wrap64 (x11_1 + 1)), EQ, H', ⟨by have := HK1.out; have := HJ21.out; omega⟩, ⟨BL⟩⟩
            ·obtain rfl := Option.some.inj H
             try go_wp2
             go_ret
             exact ⟨EWW, BL⟩
     ·obtain rfl := Option.some.inj H
      try go_wp2
      go_ret
      exact ⟨EWW, BL⟩
    ·obtain rfl := Option.some.inj H
     go_wp2
     go_ret
     exact ⟨EWW, BL⟩
 ·obtain rfl := Option.some.inj H
  try go_wp2
  go_ret
  exact ⟨EWW, BL⟩
def impl_IsClue.f (k : Nat) (a0_0 : Int) (l0_1 : List (S110)) : Option (Bool) := (impl_InRange.f a0_0 1 99).bind fun t513 => (if t513 = true then ((impl_IsPlay.f k l0_1).bind fun t514 => (some t514)) else (some false))
set_option maxHeartbeats 8000000 in
set_option maxRecDepth 100000 in
theorem impl_IsClue.calls (k : Nat) (a0_0 : Int) (A0_1 : Option Addr) (c0_1 : Nat) (l0_1 : List (S110)) (r : Bool) (w : World) (hr0_1 : Kd.C k110 w A0_1 l0_1.length l0_1) (hc0_1 : l0_1.length ≤ c0_1) (h : impl_IsClue.f k a0_0 l0_1 = some r) :
  Calls Try.prog 94 #[.agg #[.int .i64 a0_0, .slice A0_1 l0_1.length c0_1]] w fun e w' => e = .returned (.bool r) ∧ Below w.heap.size w w' := by
 have hu116 := Try.underlying116
 have HR0_1 := Aside0.mk hr0_1
 have HC0_1 := Aside0.mk hc0_1
 clear hr0_1 hc0_1
 have HB := Aside0.mk (Below.refl w.heap.size w)
 have H : ((impl_InRange.f a0_0 1 99).bind fun t513 => (if t513 = true then ((impl_IsPlay.f k l0_1).bind fun t514 => (some t514)) else (some false))) = some r := h
 clear h
 replace H := be H; obtain ⟨t513, A2, H⟩ := H
 replace H := Aside0.mk H
 go_enter Try.func94, Try.ntmps94
 go_wp2_with (first | ((with_reducible refine gate_dst (N := 1) rfl ?_); refine box_ev (N := 1) (cs := #[.int .i64 a0_0, .slice A0_1 l0_1.length c0_1]) (t := 116) ?_; intro gb512 hg w9000 hbox hb; have n0_ := BS (w := w) hb; have n1_ := Aside0.mk (hbox); have n2_ := SZ (w := w) hg; have n3_ := SZ (w := w) hg; clear HB; have HB := n0_; have BK512 := n1_; have GW512 := n2_; have GE512 := n3_; clear n0_ n1_ n2_ n3_; clear hb hbox hg; obtain ⟨hcz9001_0, hcz9001_1, hfz9001_0, hfz9001_1⟩ := cz2 BK512.out) | ((with_reducible refine gate_callee (f := 65) rfl ?_); refine goesS (some 5) Try.func65 #[.int .i64 a0_0, .int .i64 1, .int .i64 99] ?_; (with_reducible refine (impl_InRange.calls a0_0 1 99 _ _ A2.out).mono ?_); rintro e w' ⟨rfl, ⟨nd, rfl⟩⟩; refine ⟨_, rfl, ?_⟩; refine stop_ ?_))
 refine Hide.mk ?_
 replace H := H.out
 replace H := ifB H; rcases H with ⟨rfl, H⟩ | ⟨rfl, H⟩
 ·replace H := be H; obtain ⟨t514, A4, H⟩ := H
  obtain rfl := Option.some.inj H
  try go_wp2_with (first | (go_at_call 50; (with_reducible refine (impl_IsPlay.calls k _ _ l0_1 t514 _ ?side1 ?side2 A4.out).mono ?_); (case side1 => repeat (first | exact (Kd.C_below HR0_1.out BL) | (with_reducible refine Kd.C_alloc ?_ _) | (with_reducible refine Kd.C_drewN ?_ _) | (with_reducible refine Kd.C_drew ?_))); (case side2 => exact HC0_1.out); rintro e w9002 ⟨rfl, hb⟩; replace BK512 := KB BK512 hb; replace HB := BS (w := w) hb; (try clear hb)))
  go_ret
  exact ⟨EWW, BL⟩
 ·obtain rfl := Option.some.inj H
  try go_wp2
  go_ret
  exact ⟨EWW, BL⟩
def impl_IsPuzzle_1.f (k : Nat) (a0_0 : Int) (l0_1 : List (S110)) : Option (Bool) := (impl_IsClue.f k a0_0 l0_1).bind fun t516 => (some (!t516))
set_option maxHeartbeats 8000000 in
set_option maxRecDepth 100000 in
theorem impl_IsPuzzle_1.calls (k : Nat) (a0_0 : Int) (A0_1 : Option Addr) (c0_1 : Nat) (l0_1 : List (S110)) (r : Bool) (w : World) (hr0_1 : Kd.C k110 w A0_1 l0_1.length l0_1) (hc0_1 : l0_1.length ≤ c0_1) (h : impl_IsPuzzle_1.f k a0_0 l0_1 = some r) :
  Calls Try.prog 93 #[.agg #[.int .i64 a0_0, .slice A0_1 l0_1.length c0_1]] w fun e w' => e = .returned (.bool r) ∧ Below w.heap.size w w' := by
 have hu116 := Try.underlying116
 have HR0_1 := Aside0.mk hr0_1
 have HC0_1 := Aside0.mk hc0_1
 clear hr0_1 hc0_1
 have HB := Aside0.mk (Below.refl w.heap.size w)
 have H : ((impl_IsClue.f k a0_0 l0_1).bind fun t516 => (some (!t516))) = some r := h
 clear h
 replace H := be H; obtain ⟨t516, A2, H⟩ := H
 obtain rfl := Option.some.inj H
 go_enter Try.func93, Try.ntmps93
 go_wp2_with (first | ((with_reducible refine gate_dst (N := 1) rfl ?_); refine box_ev (N := 1) (cs := #[.int .i64 a0_0, .slice A0_1 l0_1.length c0_1]) (t := 116) ?_; intro gb515 hg w3 hbox hb; have n0_ := BS (w := w) hb; have n1_ := Aside0.mk (hbox); have n2_ := SZ (w := w) hg; have n3_ := SZ (w := w) hg; clear HB; have HB := n0_; have BK515 := n1_; have GW515 := n2_; have GE515 := n3_; clear n0_ n1_ n2_ n3_; clear hb hbox hg; obtain ⟨hcz4_0, hcz4_1, hfz4_0, hfz4_1⟩ := cz2 BK515.out) | ((with_reducible refine gate_callee (f := 94) rfl ?_); refine goesS (some 4) Try.func94 #[.agg #[.int .i64 a0_0, .slice A0_1 l0_1.length c0_1]] ?_; (with_reducible refine (impl_IsClue.calls k a0_0 _ _ l0_1 t516 _ ?side1 ?side2 A2.out).mono ?_); (case side1 => exact CB HR0_1); (case side2 => exact HC0_1.out); rintro e w5 ⟨rfl, hb⟩; refine ⟨_, rfl, ?_⟩; replace BK515 := KB BK515 hb; replace HB := BS (w := w) hb; (try clear hb)))
 go_ret
 exact ⟨EWW, BL⟩
def impl_Clue_144.l0 : Nat → List (S116) → Int → Int → Option (Int)
 | 0, _, _, _ => none
 | k + 1, x0, x7, x8 => if x8 < x7 then (if 0 ≤ x8 then (if x8 < (x0.length : Int) then ((impl_IsPuzzle_1.f k ((rd_T116 x0 x8).f0) ((rd_T116 x0 x8).f1)).bind fun t518 => (if t518 = true then (some x8) else (impl_Clue_144.l0 k x0 x7 (wrap64 (x8 + 1))))) else (none)) else (none)) else (some (-1))
def impl_Clue_144.f (k : Nat) (l0 : List (S116)) (a1 : ByteArray) : Option (Int) := impl_Clue_144.l0 k l0 (l0.length : Int) 0
set_option maxHeartbeats 8000000 in
set_option maxRecDepth 100000 in
theorem impl_Clue_144.calls (k : Nat) (A0 : Option Addr) (c0 : Nat) (l0 : List (S116)) (a1 : ByteArray) (r : Int) (w : World) (hr0 : Kd.C k116 w A0 l0.length l0) (hc0 : l0.length ≤ c0) (h : impl_Clue_144.f k l0 a1 = some r) :
  Calls Try.prog 144 #[.slice A0 l0.length c0, .func (.func 93) #[] #[]] w fun e w' => e = .returned (.int .i64 r) ∧ Below w.heap.size w w' := by
 have hu116 := Try.underlying116
 have HR0 := Aside0.mk hr0
 have HC0 := Aside0.mk hc0
 clear hr0 hc0
 have HB := Aside0.mk (Below.refl w.heap.size w)
 have H : (impl_Clue_144.l0 k l0 (l0.length : Int) 0) = some r := h
 clear h
 have H' := Aside0.mk H
 clear H
 go_enter Try.func144, Try.ntmps144
 go_wp2
 go_loopg [8] k (fun kq v8 w' => ∃ (x8_1 : Int), v8 = .int .i64 x8_1 ∧ Aside0 (impl_Clue_144.l0 kq l0 (l0.length : Int) x8_1 = some r) ∧ Aside0 (kq ≤ k) ∧ Aside0 (Below w.heap.size w w'))
 case atStart => exact ⟨(0), EQ, H', ⟨Nat.le_refl _⟩, ⟨BL⟩⟩
 case round =>
  clear H'
  obtain ⟨x8_1, rfl, HA, HK1, HB⟩ := hrel
  cases gk with
  | zero => exact absurd HA.out (by simp [impl_Clue_144.l0])
  | succ k1 =>
   have H := HA.out
   clear HA
   simp only [impl_Clue_144.l0] at H
   replace H := ifD H; rcases H with ⟨c3b0, H⟩ | ⟨c3b0, H⟩
   ·replace H := ifN H; obtain ⟨c4b0, H⟩ := H
    replace H := ifN H; obtain ⟨c5b0, H⟩ := H
    replace H := be H; obtain ⟨t518, A6, H⟩ := H
    have p517 : 0 ≤ (x8_1 : Int) := OD
    have q517 : x8_1 < (l0.length : Int) := OD
    obtain ⟨ad517, A517_1, c517_1, e517, hx517_0, hx517_1, hl517_1, hi517_1⟩ := at_T116 HR0.out x8_1 p517 q517
    cases e517
    try replace hx517_0 := (HB.out.cell (World.block_lt_of_cell? w _ hx517_0)).trans hx517_0
    try replace hx517_1 := (HB.out.cell (World.block_lt_of_cell? w _ hx517_1)).trans hx517_1
    have HR517_1 := Aside0.mk hi517_1
    have HC517_1 := Aside0.mk hl517_1
    clear hi517_1 hl517_1
    replace p517 := eq_true p517
    replace q517 := eq_true q517
    replace H := Aside0.mk H
    go_wp2_with (first | ((with_reducible refine (impl_IsPuzzle_1.calls k1 ((rd_T116 l0 x8_1).f0) _ _ ((rd_T116 l0 x8_1).f1) _ _ ?side1 ?side2 A6.out).mono ?_); (case side1 => exact CB HR517_1); (case side2 => exact HC517_1.out); rintro e w7000 ⟨rfl, hb⟩; replace HB := BS (w := w) hb; (try clear hb); (try clear hb2); (try clear hk); (try clear hi); refine stop_ ?_))
    refine Hide.mk ?_
    replace H := H.out
    replace H := ifB H; rcases H with ⟨rfl, H⟩ | ⟨rfl, H⟩
    ·obtain rfl := Option.some.inj H
     try go_wp2
     go_ret
     exact ⟨EWW, BL⟩
    ·have H' := Aside0.mk H
     clear H
     try go_wp2
     go_roundg k1
     case measure => have := HK1.out; omega
     case rel => exact ⟨(wrap64 (x8_1 + 1)), EQ, H', ⟨by have := HK1.out; omega⟩, ⟨BL⟩⟩
   ·obtain rfl := Option.some.inj H
    go_wp2
    go_ret
    exact ⟨EWW, BL⟩
def impl_Clue_92.f (k : Nat) (l0 : List (S116)) (a1 : ByteArray) : Option (Bool) := (impl_Clue_144.f k l0 a1).bind fun t519 => (some (decide (t519 ≥ 0)))
set_option maxHeartbeats 8000000 in
set_option maxRecDepth 100000 in
theorem impl_Clue_92.calls (k : Nat) (A0 : Option Addr) (c0 : Nat) (l0 : List (S116)) (a1 : ByteArray) (r : Bool) (w : World) (hr0 : Kd.C k116 w A0 l0.length l0) (hc0 : l0.length ≤ c0) (h : impl_Clue_92.f k l0 a1 = some r) :
  Calls Try.prog 92 #[.slice A0 l0.length c0, .func (.func 93) #[] #[]] w fun e w' => e = .returned (.bool r) ∧ Below w.heap.size w w' := by
 have HR0 := Aside0.mk hr0
 have HC0 := Aside0.mk hc0
 clear hr0 hc0
 have HB := Aside0.mk (Below.refl w.heap.size w)
 have H : ((impl_Clue_144.f k l0 a1).bind fun t519 => (some (decide (t519 ≥ 0)))) = some r := h
 clear h
 replace H := be H; obtain ⟨t519, A3, H⟩ := H
 obtain rfl := Option.some.inj H
 go_enter Try.func92, Try.ntmps92
 go_wp2_with (first | ((with_reducible refine gate_callee (f := 144) rfl ?_); refine goesS (some 7) Try.func144 #[.slice A0 l0.length c0, .func (.func 93) #[] #[]] ?_; (with_reducible refine (impl_Clue_144.calls k _ _ l0 a1 t519 _ ?side1 ?side2 A3.out).mono ?_); (case side1 => repeat (first | exact HR0.out | (with_reducible refine Kd.C_alloc ?_ _) | (with_reducible refine Kd.C_drewN ?_ _) | (with_reducible refine Kd.C_drew ?_))); (case side2 => exact HC0.out); rintro e w4 ⟨rfl, hb⟩; refine ⟨_, rfl, ?_⟩; replace HB := BS (w := w) hb; (try clear hb)))
 go_ret
 exact ⟨EWW, BL⟩
end Go.Proofs.Ythjcicmmbmagbaa.PFnExactIsSolved
