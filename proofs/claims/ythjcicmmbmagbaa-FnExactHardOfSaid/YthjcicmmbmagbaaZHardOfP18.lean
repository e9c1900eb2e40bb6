/- Walks of functions: what each computes. -/
import Derived.Test.YthjcicmmbmagbaaZHardOfP0
import Derived.Test.YthjcicmmbmagbaaZHardOfP13
import Derived.Test.YthjcicmmbmagbaaZHardOfP15
import Derived.Test.YthjcicmmbmagbaaZHardOfP17
import Derived.Test.YthjcicmmbmagbaaZHardOfW
import Derived.Test.YthjcicmmbmagbaaZHardOfShelf
import Derived.Test.YthjcicmmbmagbaaZHardOfHandSort
import Derived.Test.YthjcicmmbmagbaaZHardOfHandForm
import Derived.Test.YthjcicmmbmagbaaZHardOfHandAlone
import Derived.Test.YthjcicmmbmagbaaZHardOfHandReach
namespace Go.Proofs.Ythjcicmmbmagbaa.PFnExactHardOf
open Go.RowKit Go.Proofs.YthjcicmmbmagbaaW.PrintWords Go.Proofs.YthjcicmmbmagbaaW.PrintLast Go.Proofs.YthjcicmmbmagbaaW.PrintMore Go.Proofs.Ythjcicmmbmagbaa.Sq
attribute [local go_sem] max2_int min2_int max_two min_two max_three min_three max_four min_four
set_option linter.unusedVariables false
set_option linter.unusedSimpArgs false
mutual
def impl_IsPlay.l0 : Nat → List (S110) → List (S110) → Int → Int → Option (Bool)
 | 0, _, _, _, _ => none
 | k + 1, x0, x9, x10, x11 => if x11 < x10 then (if 0 ≤ x11 then (if x11 < (x9.length : Int) then ((impl_InRange.f ((rd_T110 x9 x11).f0) 1 9).bind fun t473 => (if t473 = true then (if ((rd_T110 x9 x11).f0) = 1 then ((impl_IsWord.f k ((rd_T110 x9 x11).f1)).bind fun t474 => (if t474 = true then (if ((rd_T110 x9 x11).f2) = 0 then (if ((rd_T110 x9 x11).f3) = 0 then (impl_IsPlay.l0 k x0 x9 x10 (wrap64 (x11 + 1))) else (some false)) else (some false)) else (some false))) else (if ((rd_T110 x9 x11).f1).toList = ([] : List UInt8) then ((impl_at.f ((rd_T110 x9 x11).f2) x11).bind fun t475 => (if t475 = true then ((impl_needsWord.f ((rd_T110 x9 x11).f0)).bind fun t476 => (if t476 = true then (if 0 ≤ ((rd_T110 x9 x11).f2) then (if ((rd_T110 x9 x11).f2) < (x0.length : Int) then (impl_IsPlay.j1 k x0 x11 x9 x10 x11 (((rd_T110 x0 ((rd_T110 x9 x11).f2)).f0) != 1) ((rd_T110 x9 x11).f0) ((rd_T110 x9 x11).f1) ((rd_T110 x9 x11).f2) ((rd_T110 x9 x11).f3)) else (none)) else (none)) else (impl_IsPlay.j1 k x0 x11 x9 x10 x11 false ((rd_T110 x9 x11).f0) ((rd_T110 x9 x11).f1) ((rd_T110 x9 x11).f2) ((rd_T110 x9 x11).f3)))) else (impl_IsPlay.j1 k x0 x11 x9 x10 x11 true ((rd_T110 x9 x11).f0) ((rd_T110 x9 x11).f1) ((rd_T110 x9 x11).f2) ((rd_T110 x9 x11).f3)))) else (impl_IsPlay.j1 k x0 x11 x9 x10 x11 true ((rd_T110 x9 x11).f0) ((rd_T110 x9 x11).f1) ((rd_T110 x9 x11).f2) ((rd_T110 x9 x11).f3)))) else (some false))) else (none)) else (none)) else (some true)
def impl_IsPlay.j1 : Nat → List (S110) → Int → List (S110) → Int → Int → Bool → Int → ByteArray → Int → Int → Option (Bool)
 | 0, _, _, _, _, _, _, _, _, _, _ => none
 | k + 1, x0, x3, x9, x10, x11, x60, x473000, x473001, x473002, x473003 => if x60 = true then (some false) else ((impl_isPair.f x473000).bind fun t478 => (if t478 = true then ((impl_at.f x473003 x3).bind fun t479 => (if t479 = true then ((impl_isPair.f x473000).bind fun t480 => (if t480 = true then (impl_IsPlay.l0 k x0 x9 x10 (wrap64 (x11 + 1))) else (if x473003 = 0 then (impl_IsPlay.l0 k x0 x9 x10 (wrap64 (x11 + 1))) else (some false)))) else (some false))) else ((impl_isPair.f x473000).bind fun t481 => (if t481 = true then (impl_IsPlay.l0 k x0 x9 x10 (wrap64 (x11 + 1))) else (if x473003 = 0 then (impl_IsPlay.l0 k x0 x9 x10 (wrap64 (x11 + 1))) else (some false))))))
end
def impl_IsPlay.f (k : Nat) (l0 : List (S110)) : Option (Bool) := (impl_InRange.f (l0.length : Int) 1 9).bind fun t470 => (if t470 = true then (impl_IsPlay.l0 k l0 l0 (l0.length : Int) 0) else (some false))
set_option maxHeartbeats 8000000 in
set_option maxRecDepth 100000 in
theorem impl_IsPlay.calls (k : Nat) (A0 : Option Addr) (c0 : Nat) (l0 : List (S110)) (r : Bool) (w : World) (hr0 : Kd.C k110 w A0 l0.length l0) (hc0 : l0.length ≤ c0) (h : impl_IsPlay.f k l0 = some r) :
  Calls Try.prog 50 #[.slice A0 l0.length c0] w fun e w' => e = .returned (.bool r) ∧ Below w.heap.size w w' := by
 have hu110 := Try.underlying110
 have HR0 := Aside0.mk hr0
 have HC0 := Aside0.mk hc0
 clear hr0 hc0
 have HB := Aside0.mk (Below.refl w.heap.size w)
 have H : ((impl_InRange.f (l0.length : Int) 1 9).bind fun t470 => (if t470 = true then (impl_IsPlay.l0 k l0 l0 (l0.length : Int) 0) else (some false))) = some r := h
 clear h
 obtain ⟨t470, A2, H⟩ := be H
 replace H := Aside0.mk H
 go_enter Try.func50, Try.ntmps50
 go_wp2_with (first | ((with_reducible refine gate_callee (f := 65) rfl ?_); refine goesS (some 7) Try.func65 #[.int .i64 (l0.length : Int), .int .i64 1, .int .i64 9] ?_; (with_reducible refine (impl_InRange.calls (l0.length : Int) 1 9 _ _ A2.out).mono ?_); rintro e w' ⟨rfl, ⟨nd, rfl⟩⟩; refine ⟨_, rfl, ?_⟩; refine stop_ ?_))
 refine Hide.mk ?_
 replace H := H.out
 by_cases c3 : t470 = true
 ·subst c3
  rw [if_pos rfl] at H
  have H' := Aside0.mk H
  clear H
  try go_wp2
  go_loopg [11] k (fun kq v11 w' => ∃ (x11_1 : Int), v11 = .int .i64 x11_1 ∧ Aside0 (impl_IsPlay.l0 kq l0 l0 (l0.length : Int) x11_1 = some r) ∧ Aside0 (kq ≤ k) ∧ Aside0 (Below w.heap.size w w'))
  case atStart => exact ⟨(0), EQ, H', ⟨Nat.le_refl _⟩, ⟨BL⟩⟩
  case round =>
   clear H'
   try clear c3
   obtain ⟨x11_1, rfl, HA, HK1, HB⟩ := hrel
   cases gk with
   | zero => exact absurd HA.out (by simp [impl_IsPlay.l0])
   | succ k1 =>
    have H := HA.out
    clear HA
    simp only [impl_IsPlay.l0] at H
    by_cases c4 : x11_1 < (l0.length : Int)
    ·rw [if_pos c4] at H
     have c4b0 : decide (x11_1 < (l0.length : Int)) = true := decide_eq_true c4
     clear c4
     by_cases c5 : 0 ≤ x11_1
     ·rw [if_pos c5] at H
      have c5b0 : decide (0 ≤ x11_1) = true := decide_eq_true c5
      clear c5
      by_cases c6 : x11_1 < (l0.length : Int)
      ·rw [if_pos c6] at H
       have c6b0 : decide (x11_1 < (l0.length : Int)) = true := decide_eq_true c6
       clear c6
       obtain ⟨t473, A7, H⟩ := be H
       have p471 : 0 ≤ (x11_1 : Int) := OD
       have q471 : x11_1 < (l0.length : Int) := OD
       obtain ⟨ad471, e471, hx471_0, hx471_1, hx471_2, hx471_3⟩ := at_T110 HR0.out x11_1 p471 q471
       cases e471
       try replace hx471_0 := (HB.out.cell (World.block_lt_of_cell? w _ hx471_0)).trans hx471_0
       try replace hx471_1 := (HB.out.cell (World.block_lt_of_cell? w _ hx471_1)).trans hx471_1
       try replace hx471_2 := (HB.out.cell (World.block_lt_of_cell? w _ hx471_2)).trans hx471_2
       try replace hx471_3 := (HB.out.cell (World.block_lt_of_cell? w _ hx471_3)).trans hx471_3
       replace p471 := eq_true p471
       replace q471 := eq_true q471
       replace H := Aside0.mk H
       go_wp2_with (first | ((with_reducible refine gate_dst (N := 4) rfl ?_); refine box_ev (N := 4) (cs := #[.int .i64 0, .string (⟨#[]⟩ : ByteArray), .int .i64 0, .int .i64 0]) (t := 110) ?_; intro gb472 hg w9000 hbox hb; have n0_ := BS (w := w) hb; have n1_ := Aside0.mk (hbox); have n2_ := SZ (w := w) hg; have n3_ := SZ (w := w) hg; clear HB; have HB := n0_; have BK472 := n1_; have GW472 := n2_; have GE472 := n3_; clear n0_ n1_ n2_ n3_; clear hb hbox hg; obtain ⟨hcz9001_0, hcz9001_1, hcz9001_2, hcz9001_3, hfz9001_0, hfz9001_1, hfz9001_2, hfz9001_3⟩ := cz4 BK472.out) | ((with_reducible refine gate_callee (f := 65) rfl ?_); refine goesS (some 18) Try.func65 #[.int .i64 ((rd_T110 l0 x11_1).f0), .int .i64 1, .int .i64 9] ?_; (with_reducible refine (impl_InRange.calls ((rd_T110 l0 x11_1).f0) 1 9 _ _ A7.out).mono ?_); rintro e w' ⟨rfl, ⟨nd, rfl⟩⟩; refine ⟨_, rfl, ?_⟩; refine stop_ ?_))
       refine Hide.mk ?_
       replace H := H.out
       by_cases c8 : t473 = true
       ·subst c8
        rw [if_pos rfl] at H
        by_cases c9 : ((rd_T110 l0 x11_1).f0) = 1
        ·rw [if_pos c9] at H
         have c9b0 : (((rd_T110 l0 x11_1).f0) == 1) = true := beq_iff_eq.mpr c9
         have c9b1 : (((rd_T110 l0 x11_1).f0) != 1) = false := bne_eq_false_iff_eq.mpr c9
         clear c9
         obtain ⟨t474, A10, H⟩ := be H
         replace H := Aside0.mk H
         go_wp2_with (first | ((with_reducible refine gate_callee (f := 64) rfl ?_); refine goesS (some 25) Try.func64 #[.string ((rd_T110 l0 x11_1).f1)] ?_; (with_reducible refine (impl_IsWord.calls k1 ((rd_T110 l0 x11_1).f1) _ _ A10.out).mono ?_); rintro e w' ⟨rfl, ⟨nd, rfl⟩⟩; refine ⟨_, rfl, ?_⟩; refine stop_ ?_))
         refine Hide.mk ?_
         replace H := H.out
         by_cases c11 : t474 = true
         ·subst c11
          rw [if_pos rfl] at H
          by_cases c12 : ((rd_T110 l0 x11_1).f2) = 0
          ·rw [if_pos c12] at H
           have c12b0 : (((rd_T110 l0 x11_1).f2) == 0) = true := beq_iff_eq.mpr c12
           have c12b1 : (((rd_T110 l0 x11_1).f2) != 0) = false := bne_eq_false_iff_eq.mpr c12
           clear c12
           by_cases c13 : ((rd_T110 l0 x11_1).f3) = 0
           ·rw [if_pos c13] at H
            have c13b0 : (((rd_T110 l0 x11_1).f3) == 0) = true := beq_iff_eq.mpr c13
            have c13b1 : (((rd_T110 l0 x11_1).f3) != 0) = false := bne_eq_false_iff_eq.mpr c13
            clear c13
            have H' := Aside0.mk H
            clear H
            try go_wp2
            go_roundg k1
            case measure => have := HK1.out; omega
            case rel => exact ⟨(wrap64 (x11_1 + 1)), EQ, H', ⟨by have := HK1.out; omega⟩, ⟨BL⟩⟩
           ·rw [if_neg c13] at H
            have c13b0 : (((rd_T110 l0 x11_1).f3) == 0) = false := beq_eq_false_iff_ne.mpr c13
            have c13b1 : (((rd_T110 l0 x11_1).f3) != 0) = true := bne_iff_ne.mpr c13
            obtain rfl := Option.some.inj H
            try go_wp2
            go_ret
            exact ⟨EWW, BL⟩
          ·rw [if_neg c12] at H
           have c12b0 : (((rd_T110 l0 x11_1).f2) == 0) = false := beq_eq_false_iff_ne.mpr c12
           have c12b1 : (((rd_T110 l0 x11_1).f2) != 0) = true := bne_iff_ne.mpr c12
           obtain rfl := Option.some.inj H
           try go_wp2
           go_ret
           exact ⟨EWW, BL⟩
         ·replace c11 := Bool.eq_false_iff.mpr c11
          subst c11
          rw [if_neg Bool.false_ne_true] at H
          obtain rfl := Option.some.inj H
          try go_wp2
          go_ret
          exact ⟨EWW, BL⟩
        ·rw [if_neg c9] at H
         have c9b0 : (((rd_T110 l0 x11_1).f0) == 1) = false := beq_eq_false_iff_ne.mpr c9
         have c9b1 : (((rd_T110 l0 x11_1).f0) != 1) = true := bne_iff_ne.mpr c9
         have HC22 := Aside0.mk H
         clear H
         go_upto_region 11 with (fail)
         (try simp only [Act.put, List.setIfInBounds_toArray, List.set_cons_zero, List.set_cons_succ])
         go_cut [60] (fun v60 wc => ∃ (kq : Nat) (x60_21 : Bool), v60 = .bool x60_21 ∧ Aside0 (impl_IsPlay.j1 kq l0 x11_1 l0 (l0.length : Int) x11_1 x60_21 ((rd_T110 l0 x11_1).f0) ((rd_T110 l0 x11_1).f1) ((rd_T110 l0 x11_1).f2) ((rd_T110 l0 x11_1).f3) = some r) ∧ Aside0 (kq ≤ k1) ∧ Aside0 (wc.heap[gb472]? = some (.cells #[.int .i64 ((rd_T110 l0 x11_1).f0), .string ((rd_T110 l0 x11_1).f1), .int .i64 ((rd_T110 l0 x11_1).f2), .int .i64 ((rd_T110 l0 x11_1).f3)] 110 (0, 0))) ∧ Aside0 (Below w.heap.size w wc))
         case first =>
          have H := HC22.out
          clear HC22
          obtain ⟨hcz9002_0, hcz9002_1, hcz9002_2, hcz9002_3, hfz9002_0, hfz9002_1, hfz9002_2, hfz9002_3⟩ := cz4 BK472.out
          by_cases c25 : ((rd_T110 l0 x11_1).f1).toList = ([] : List UInt8)
          ·rw [if_pos c25] at H
           have c25b0 : (((rd_T110 l0 x11_1).f1).toList == ([] : List UInt8)) = true := beq_iff_eq.mpr c25
           have c25b1 : (((rd_T110 l0 x11_1).f1).toList != ([] : List UInt8)) = false := bne_eq_false_iff_eq.mpr c25
           clear c25
           (first | rw [c25b0] | (simp only [i64_w, i32_w]; rw [c25b0]) | skip)
           obtain ⟨t475, A26, H⟩ := be H
           replace H := Aside0.mk H
           go_wp2_with (first | (go_at_call 109; (with_reducible refine (impl_at.calls ((rd_T110 l0 x11_1).f2) x11_1 _ _ A26.out).mono ?_); rintro e w' ⟨rfl, ⟨nd, rfl⟩⟩; refine stop_ ?_))
           refine Hide.mk ?_
           replace H := H.out
           by_cases c27 : t475 = true
           ·subst c27
            rw [if_pos rfl] at H
            obtain ⟨t476, A28, H⟩ := be H
            replace H := Aside0.mk H
            go_wp2_with (first | (go_at_call 110; (with_reducible refine (impl_needsWord.calls ((rd_T110 l0 x11_1).f0) _ _ A28.out).mono ?_); rintro e w' ⟨rfl, ⟨nd, rfl⟩⟩; refine stop_ ?_))
            refine Hide.mk ?_
            replace H := H.out
            by_cases c29 : t476 = true
            ·subst c29
             rw [if_pos rfl] at H
             by_cases c30 : 0 ≤ ((rd_T110 l0 x11_1).f2)
             ·rw [if_pos c30] at H
              have c30b0 : decide (0 ≤ ((rd_T110 l0 x11_1).f2)) = true := decide_eq_true c30
              clear c30
              by_cases c31 : ((rd_T110 l0 x11_1).f2) < (l0.length : Int)
              ·rw [if_pos c31] at H
               have c31b0 : decide (((rd_T110 l0 x11_1).f2) < (l0.length : Int)) = true := decide_eq_true c31
               clear c31
               have H' := Aside0.mk H
               clear H
               have p477 : 0 ≤ (((rd_T110 l0 x11_1).f2) : Int) := OD
               have q477 : ((rd_T110 l0 x11_1).f2) < (l0.length : Int) := OD
               obtain ⟨ad477, e477, hx477_0, hx477_1, hx477_2, hx477_3⟩ := at_T110 HR0.out ((rd_T110 l0 x11_1).f2) p477 q477
               obtain rfl : ad471 = ad477 := (by injection e477)
               have hn477_0 : ad471.block ≠ gb472 := Nat.ne_of_lt (Nat.lt_of_lt_of_le (by have := World.block_lt_of_cell? _ _ hx477_0; first | rwa [add_block] at this | exact this) GW472.out)
               have hn477_1 : ad471.block ≠ gb472 := Nat.ne_of_lt (Nat.lt_of_lt_of_le (by have := World.block_lt_of_cell? _ _ hx477_0; first | rwa [add_block] at this | exact this) GW472.out)
               have hn477_2 : ad471.block ≠ gb472 := Nat.ne_of_lt (Nat.lt_of_lt_of_le (by have := World.block_lt_of_cell? _ _ hx477_0; first | rwa [add_block] at this | exact this) GW472.out)
               have hn477_3 : ad471.block ≠ gb472 := Nat.ne_of_lt (Nat.lt_of_lt_of_le (by have := World.block_lt_of_cell? _ _ hx477_0; first | rwa [add_block] at this | exact this) GW472.out)
               replace hx477_0 := (HB.out.cell (World.block_lt_of_cell? w _ hx477_0)).trans hx477_0
               replace hx477_1 := (HB.out.cell (World.block_lt_of_cell? w _ hx477_1)).trans hx477_1
               replace hx477_2 := (HB.out.cell (World.block_lt_of_cell? w _ hx477_2)).trans hx477_2
               replace hx477_3 := (HB.out.cell (World.block_lt_of_cell? w _ hx477_3)).trans hx477_3
               replace hx477_0 := (cell_far (p := ⟨gb472, 0, none⟩) (by first | (rw [add_block]; exact hn477_0) | (show (Addr.add _ _).block ≠ _; rw [add_block]; exact hn477_0) | exact hn477_0) (.int .i64 ((rd_T110 l0 x11_1).f0))).trans hx477_0
               replace hx477_1 := (cell_far (p := ⟨gb472, 0, none⟩) (by first | (rw [add_block]; exact hn477_0) | (show (Addr.add _ _).block ≠ _; rw [add_block]; exact hn477_0) | exact hn477_0) (.int .i64 ((rd_T110 l0 x11_1).f0))).trans hx477_1
               replace hx477_2 := (cell_far (p := ⟨gb472, 0, none⟩) (by first | (rw [add_block]; exact hn477_0) | (show (Addr.add _ _).block ≠ _; rw [add_block]; exact hn477_0) | exact hn477_0) (.int .i64 ((rd_T110 l0 x11_1).f0))).trans hx477_2
               replace hx477_3 := (cell_far (p := ⟨gb472, 0, none⟩) (by first | (rw [add_block]; exact hn477_0) | (show (Addr.add _ _).block ≠ _; rw [add_block]; exact hn477_0) | exact hn477_0) (.int .i64 ((rd_T110 l0 x11_1).f0))).trans hx477_3
               replace hx477_0 := (cell_far (p := ⟨gb472, 1, none⟩) (by first | (rw [add_block]; exact hn477_1) | (show (Addr.add _ _).block ≠ _; rw [add_block]; exact hn477_1) | exact hn477_1) (.string ((rd_T110 l0 x11_1).f1))).trans hx477_0
               replace hx477_1 := (cell_far (p := ⟨gb472, 1, none⟩) (by first | (rw [add_block]; exact hn477_1) | (show (Addr.add _ _).block ≠ _; rw [add_block]; exact hn477_1) | exact hn477_1) (.string ((rd_T110 l0 x11_1).f1))).trans hx477_1
               replace hx477_2 := (cell_far (p := ⟨gb472, 1, none⟩) (by first | (rw [add_block]; exact hn477_1) | (show (Addr.add _ _).block ≠ _; rw [add_block]; exact hn477_1) | exact hn477_1) (.string ((rd_T110 l0 x11_1).f1))).trans hx477_2
               replace hx477_3 := (cell_far (p := ⟨gb472, 1, none⟩) (by first | (rw [add_block]; exact hn477_1) | (show (Addr.add _ _).block ≠ _; rw [add_block]; exact hn477_1) | exact hn477_1) (.string ((rd_T110 l0 x11_1).f1))).trans hx477_3
               replace hx477_0 := (cell_far (p := ⟨gb472, 2, none⟩) (by first | (rw [add_block]; exact hn477_2) | (show (Addr.add _ _).block ≠ _; rw [add_block]; exact hn477_2) | exact hn477_2) (.int .i64 ((rd_T110 l0 x11_1).f2))).trans hx477_0
               replace hx477_1 := (cell_far (p := ⟨gb472, 2, none⟩) (by first | (rw [add_block]; exact hn477_2) | (show (Addr.add _ _).block ≠ _; rw [add_block]; exact hn477_2) | exact hn477_2) (.int .i64 ((rd_T110 l0 x11_1).f2))).trans hx477_1
               replace hx477_2 := (cell_far (p := ⟨gb472, 2, none⟩) (by first | (rw [add_block]; exact hn477_2) | (show (Addr.add _ _).block ≠ _; rw [add_block]; exact hn477_2) | exact hn477_2) (.int .i64 ((rd_T110 l0 x11_1).f2))).trans hx477_2
               replace hx477_3 := (cell_far (p := ⟨gb472, 2, none⟩) (by first | (rw [add_block]; exact hn477_2) | (show (Addr.add _ _).block ≠ _; rw [add_block]; exact hn477_2) | exact hn477_2) (.int .i64 ((rd_T110 l0 x11_1).f2))).trans hx477_3
               replace hx477_0 := (cell_far (p := ⟨gb472, 3, none⟩) (by first | (rw [add_block]; exact hn477_3) | (show (Addr.add _ _).block ≠ _; rw [add_block]; exact hn477_3) | exact hn477_3) (.int .i64 ((rd_T110 l0 x11_1).f3))).trans hx477_0
               replace hx477_1 := (cell_far (p := ⟨gb472, 3, none⟩) (by first | (rw [add_block]; exact hn477_3) | (show (Addr.add _ _).block ≠ _; rw [add_block]; exact hn477_3) | exact hn477_3) (.int .i64 ((rd_T110 l0 x11_1).f3))).trans hx477_1
               replace hx477_2 := (cell_far (p := ⟨gb472, 3, none⟩) (by first | (rw [add_block]; exact hn477_3) | (show (Addr.add _ _).block ≠ _; rw [add_block]; exact hn477_3) | exact hn477_3) (.int .i64 ((rd_T110 l0 x11_1).f3))).trans hx477_2
               replace hx477_3 := (cell_far (p := ⟨gb472, 3, none⟩) (by first | (rw [add_block]; exact hn477_3) | (show (Addr.add _ _).block ≠ _; rw [add_block]; exact hn477_3) | exact hn477_3) (.int .i64 ((rd_T110 l0 x11_1).f3))).trans hx477_3
               clear hn477_0 hn477_1 hn477_2 hn477_3
               replace p477 := eq_true p477
               replace q477 := eq_true q477
               go_wp2
               go_meet
               case rel => exact ⟨_, ((((rd_T110 l0 ((rd_T110 l0 x11_1).f2)).f0) != 1)), EQ, H', ⟨by have := HK1.out; first | omega | exact Nat.le_refl _⟩, ⟨by (with_reducible repeat (first | refine blk_drewN ?_ _ | refine blk_drew ?_ | refine blk_alloc ?_ _)); refine blk_put (cs := #[.int .i64 ((rd_T110 l0 x11_1).f0), .string ((rd_T110 l0 x11_1).f1), .int .i64 ((rd_T110 l0 x11_1).f2), .int .i64 0]) ?_ 3 _ rfl; (with_reducible repeat (first | refine blk_drewN ?_ _ | refine blk_drew ?_ | refine blk_alloc ?_ _)); refine blk_put (cs := #[.int .i64 ((rd_T110 l0 x11_1).f0), .string ((rd_T110 l0 x11_1).f1), .int .i64 0, .int .i64 0]) ?_ 2 _ rfl; (with_reducible repeat (first | refine blk_drewN ?_ _ | refine blk_drew ?_ | refine blk_alloc ?_ _)); refine blk_put (cs := #[.int .i64 ((rd_T110 l0 x11_1).f0), .string (⟨#[]⟩ : ByteArray), .int .i64 0, .int .i64 0]) ?_ 1 _ rfl; (with_reducible repeat (first | refine blk_drewN ?_ _ | refine blk_drew ?_ | refine blk_alloc ?_ _)); refine blk_put (cs := #[.int .i64 0, .string (⟨#[]⟩ : ByteArray), .int .i64 0, .int .i64 0]) ?_ 0 _ rfl; (with_reducible repeat (first | refine blk_drewN ?_ _ | refine blk_drew ?_ | refine blk_alloc ?_ _)); exact BK472.out⟩, ⟨BL⟩⟩
              ·rw [if_neg c31] at H
               exact absurd H (by simp)
             ·rw [if_neg c30] at H
              exact absurd H (by simp)
            ·replace c29 := Bool.eq_false_iff.mpr c29
             subst c29
             rw [if_neg Bool.false_ne_true] at H
             have H' := Aside0.mk H
             clear H
             try go_wp2
             go_meet
             case rel => exact ⟨_, (false), EQ, H', ⟨by have := HK1.out; first | omega | exact Nat.le_refl _⟩, ⟨by (with_reducible repeat (first | refine blk_drewN ?_ _ | refine blk_drew ?_ | refine blk_alloc ?_ _)); refine blk_put (cs := #[.int .i64 ((rd_T110 l0 x11_1).f0), .string ((rd_T110 l0 x11_1).f1), .int .i64 ((rd_T110 l0 x11_1).f2), .int .i64 0]) ?_ 3 _ rfl; (with_reducible repeat (first | refine blk_drewN ?_ _ | refine blk_drew ?_ | refine blk_alloc ?_ _)); refine blk_put (cs := #[.int .i64 ((rd_T110 l0 x11_1).f0), .string ((rd_T110 l0 x11_1).f1), .int .i64 0, .int .i64 0]) ?_ 2 _ rfl; (with_reducible repeat (first | refine blk_drewN ?_ _ | refine blk_drew ?_ | refine blk_alloc ?_ _)); refine blk_put (cs := #[.int .i64 ((rd_T110 l0 x11_1).f0), .string (⟨#[]⟩ : ByteArray), .int .i64 0, .int .i64 0]) ?_ 1 _ rfl; (with_reducible repeat (first | refine blk_drewN ?_ _ | refine blk_drew ?_ | refine blk_alloc ?_ _)); refine blk_put (cs := #[.int .i64 0, .string (⟨#[]⟩ : ByteArray), .int .i64 0, .int .i64 0]) ?_ 0 _ rfl; (with_reducible repeat (first | refine blk_drewN ?_ _ | refine blk_drew ?_ | refine blk_alloc ?_ _)); exact BK472.out⟩, ⟨BL⟩⟩
           ·replace c27 := Bool.eq_false_iff.mpr c27
            subst c27
            rw [if_neg Bool.false_ne_true] at H
            have H' := Aside0.mk H
            clear H
            try go_wp2
            go_meet
            case rel => exact ⟨_, (true), EQ, H', ⟨by have := HK1.out; first | omega | exact Nat.le_refl _⟩, ⟨by (with_reducible repeat (first | refine blk_drewN ?_ _ | refine blk_drew ?_ | refine blk_alloc ?_ _)); refine blk_put (cs := #[.int .i64 ((rd_T110 l0 x11_1).f0), .string ((rd_T110 l0 x11_1).f1), .int .i64 ((rd_T110 l0 x11_1).f2), .int .i64 0]) ?_ 3 _ rfl; (with_reducible repeat (first | refine blk_drewN ?_ _ | refine blk_drew ?_ | refine blk_alloc ?_ _)); refine blk_put (cs := #[.int .i64 ((rd_T110 l0 x11_1).f0), .string ((rd_T110 l0 x11_1).f1), .int .i64 0, .int .i64 0]) ?_ 2 _ rfl; (with_reducible repeat (first | refine blk_drewN ?_ _ | refine blk_drew ?_ | refine blk_alloc ?_ _)); refine blk_put (cs := #[.int .i64 ((rd_T110 l0 x11_1).f0), .string (⟨#[]⟩ : ByteArray), .int .i64 0, .int .i64 0]) ?_ 1 _ rfl; (with_reducible repeat (first | refine blk_drewN ?_ _ | refine blk_drew ?_ | refine blk_alloc ?_ _)); refine blk_put (cs := #[.int .i64 0, .string (⟨#[]⟩ : ByteArray), .int .i64 0, .int .i64 0]) ?_ 0 _ rfl; (with_reducible repeat (first | refine blk_drewN ?_ _ | refine blk_drew ?_ | refine blk_alloc ?_ _)); exact BK472.out⟩, ⟨BL⟩⟩
          ·rw [if_neg c25] at H
           have c25b0 : (((rd_T110 l0 x11_1).f1).toList == ([] : List UInt8)) = false := beq_eq_false_iff_ne.mpr c25
           have c25b1 : (((rd_T110 l0 x11_1).f1).toList != ([] : List UInt8)) = true := bne_iff_ne.mpr c25
           (first | rw [c25b0] | (simp only [i64_w, i32_w]; rw [c25b0]) | skip)
           have H' := Aside0.mk H
           clear H
           go_wp2
           go_meet
           case rel => exact ⟨_, (true), EQ, H', ⟨by have := HK1.out; first | omega | exact Nat.le_refl _⟩, ⟨by (with_reducible repeat (first | refine blk_drewN ?_ _ | refine blk_drew ?_ | refine blk_alloc ?_ _)); refine blk_put (cs := #[.int .i64 ((rd_T110 l0 x11_1).f0), .string ((rd_T110 l0 x11_1).f1), .int .i64 ((rd_T110 l0 x11_1).f2), .int .i64 0]) ?_ 3 _ rfl; (with_reducible repeat (first | refine blk_drewN ?_ _ | refine blk_drew ?_ | refine blk_alloc ?_ _)); refine blk_put (cs := #[.int .i64 ((rd_T110 l0 x11_1).f0), .string ((rd_T110 l0 x11_1).f1), .int .i64 0, .int .i64 0]) ?_ 2 _ rfl; (with_reducible repeat (first | refine blk_drewN ?_ _ | refine blk_drew ?_ | refine blk_alloc ?_ _)); refine blk_put (cs := #[.int .i64 ((rd_T110 l0 x11_1).f0), .string (⟨#[]⟩ : ByteArray), .int .i64 0, .int .i64 0]) ?_ 1 _ rfl; (with_reducible repeat (first | refine blk_drewN ?_ _ | refine blk_drew ?_ | refine blk_alloc ?_ _)); refine blk_put (cs := #[.int .i64 0, .string (⟨#[]⟩ : ByteArray), .int .i64 0, .int .i64 0]) ?_ 0 _ rfl; (with_reducible repeat (first | refine blk_drewN ?_ _ | refine blk_drew ?_ | refine blk_alloc ?_ _)); exact BK472.out⟩, ⟨BL⟩⟩
         case rest =>
          clear HC22
          try clear c3
          try clear c4
          try clear c4b0
          try clear c5
          try clear c5b0
          try clear c6
          try clear c6b0
          try clear c8
          try clear c9
          try clear c9b0
          try clear c9b1
          try clear hcz9001_0
          try clear hcz9001_1
          try clear hcz9001_2
          try clear hcz9001_3
          try clear hfz9001_0
          try clear hfz9001_1
          try clear hfz9001_2
          try clear hfz9001_3
          try clear hx471_0
          try clear hx471_1
          try clear hx471_2
          try clear hx471_3
          try clear p471
          try clear q471
          obtain ⟨kq, x60_21, rfl, HA, HJ21, BK472, HB⟩ := hcut
          cases kq with
          | zero => exact absurd HA.out (by simp [impl_IsPlay.j1])
          | succ kj21 =>
           have H := HA.out
           clear HA
           simp only [impl_IsPlay.j1] at H
           by_cases c36 : x60_21 = true
           ·subst c36
            rw [if_pos rfl] at H
            obtain rfl := Option.some.inj H
            go_wp2
            go_ret
            exact ⟨EWW, BL⟩
           ·replace c36 := Bool.eq_false_iff.mpr c36
            subst c36
            rw [if_neg Bool.false_ne_true] at H
            obtain ⟨t478, A37, H⟩ := be H
            obtain ⟨hcz9003_0, hcz9003_1, hcz9003_2, hcz9003_3, hfz9003_0, hfz9003_1, hfz9003_2, hfz9003_3⟩ := cz4 BK472.out
            replace H := Aside0.mk H
            go_wp2_with (first | ((with_reducible refine gate_callee (f := 107) rfl ?_); refine goesS (some 63) Try.func107 #[.int .i64 ((rd_T110 l0 x11_1).f0)] ?_; (with_reducible refine (impl_isPair.calls ((rd_T110 l0 x11_1).f0) _ _ A37.out).mono ?_); rintro e w' ⟨rfl, ⟨nd, rfl⟩⟩; refine ⟨_, rfl, ?_⟩; refine stop_ ?_))
            refine Hide.mk ?_
            replace H := H.out
            by_cases c38 : t478 = true
            ·subst c38
             rw [if_pos rfl] at H
             obtain ⟨t479, A39, H⟩ := be H
             replace H := Aside0.mk H
             go_wp2_with (first | (go_at_call 109; (with_reducible refine (impl_at.calls ((rd_T110 l0 x11_1).f3) x11_1 _ _ A39.out).mono ?_); rintro e w' ⟨rfl, ⟨nd, rfl⟩⟩; refine stop_ ?_))
             refine Hide.mk ?_
             replace H := H.out
             by_cases c40 : t479 = true
             ·subst c40
              rw [if_pos rfl] at H
              obtain ⟨t480, A41, H⟩ := be H
              replace H := Aside0.mk H
              go_wp2_with (first | (go_at_call 107; (with_reducible refine (impl_isPair.calls ((rd_T110 l0 x11_1).f0) _ _ A41.out).mono ?_); rintro e w' ⟨rfl, ⟨nd, rfl⟩⟩; refine stop_ ?_))
              refine Hide.mk ?_
              replace H := H.out
              by_cases c42 : t480 = true
              ·subst c42
               rw [if_pos rfl] at H
               have H' := Aside0.mk H
               clear H
               try go_wp2
               go_roundg kj21
               case measure => have := HK1.out; have := HJ21.out; omega
               case rel => exact ⟨(wrap64 (x11_1 + 1)), EQ, H', ⟨by have := HK1.out; have := HJ21.out; omega⟩, ⟨BL⟩⟩
              ·replace c42 := Bool.eq_false_iff.mpr c42
               subst c42
               rw [if_neg Bool.false_ne_true] at H
               by_cases c44 : ((rd_T110 l0 x11_1).f3) = 0
               ·rw [if_pos c44] at H
                have c44b0 : (((rd_T110 l0 x11_1).f3) == 0) = true := beq_iff_eq.mpr c44
                have c44b1 : (((rd_T110 l0 x11_1).f3) != 0) = false := bne_eq_false_iff_eq.mpr c44
                clear c44
                have H' := Aside0.mk H
                clear H
                try go_wp2
                go_roundg kj21
                case measure => have := HK1.out; have := HJ21.out; omega
                case rel => exact ⟨(wrap64 (x11_1 + 1)), EQ, H', ⟨by have := HK1.out; have := HJ21.out; omega⟩, ⟨BL⟩⟩
               ·rw [if_neg c44] at H
                have c44b0 : (((rd_T110 l0 x11_1).f3) == 0) = false := beq_eq_false_iff_ne.mpr c44
                have c44b1 : (((rd_T110 l0 x11_1).f3) != 0) = true := bne_iff_ne.mpr c44
                obtain rfl := Option.some.inj H
                try go_wp2
                go_ret
                exact ⟨EWW, BL⟩
             ·replace c40 := Bool.eq_false_iff.mpr c40
              subst c40
              rw [if_neg Bool.false_ne_true] at H
              obtain rfl := Option.some.inj H
              try go_wp2
              go_ret
              exact ⟨EWW, BL⟩
            ·replace c38 := Bool.eq_false_iff.mpr c38
             subst c38
             rw [if_neg Bool.false_ne_true] at H
             obtain ⟨t481, A48, H⟩ := be H
             replace H := Aside0.mk H
             go_wp2_with (first | (go_at_call 107; (with_reducible refine (impl_isPair.calls ((rd_T110 l0 x11_1).f0) _ _ A48.out).mono ?_); rintro e w' ⟨rfl, ⟨nd, rfl⟩⟩; refine stop_ ?_))
             refine Hide.mk ?_
             replace H := H.out
             by_cases c49 : t481 = true
             ·subst c49
              rw [if_pos rfl] at H
              have H' := Aside0.mk H
              clear H
              try go_wp2
              go_roundg kj21
              case measure => have := HK1.out; have := HJ21.out; omega
              case rel => exact ⟨(wrap64 (x11_1 + 1)), EQ, H', ⟨by have := HK1.out; have := HJ21.out; omega⟩, ⟨BL⟩⟩
             ·replace c49 := Bool.eq_false_iff.mpr c49
              subst c49
              rw [if_neg Bool.false_ne_true] at H
              by_cases c51 : ((rd_T110 l0 x11_1).f3) = 0
              ·rw [if_pos c51] at H
               have c51b0 : (((rd_T110 l0 x11_1).f3) == 0) = true := beq_iff_eq.mpr c51
               have c51b1 : (((rd_T110 l0 x11_1).f3) != 0) = false := bne_eq_false_iff_eq.mpr c51
               clear c51
               have H' := Aside0.mk H
               clear H
               try go_wp2
               go_roundg kj21
               case measure => have := HK1.out; have := HJ21.out; omega
               case rel => exact ⟨(wrap64 (x11_1 + 1)), EQ, H', ⟨by have := HK1.out; have := HJ21.out; omega⟩, ⟨BL⟩⟩
              ·rw [if_neg c51] at H
               have c51b0 : (((rd_T110 l0 x11_1).f3) == 0) = false := beq_eq_false_iff_ne.mpr c51
               have c51b1 : (((rd_T110 l0 x11_1).f3) != 0) = true := bne_iff_ne.mpr c51
               obtain rfl := Option.some.inj H
               try go_wp2
               go_ret
               exact ⟨EWW, BL⟩
       ·replace c8 := Bool.eq_false_iff.mpr c8
        subst c8
        rw [if_neg Bool.false_ne_true] at H
        obtain rfl := Option.some.inj H
        try go_wp2
        go_ret
        exact ⟨EWW, BL⟩
      ·rw [if_neg c6] at H
       exact absurd H (by simp)
     ·rw [if_neg c5] at H
      exact absurd H (by simp)
    ·rw [if_neg c4] at H
     have c4b0 : decide (x11_1 < (l0.length : Int)) = false := decide_eq_false c4
     clear c4
     obtain rfl := Option.some.inj H
     go_wp2
     go_ret
     exact ⟨EWW, BL⟩
 ·replace c3 := Bool.eq_false_iff.mpr c3
  subst c3
  rw [if_neg Bool.false_ne_true] at H
  obtain rfl := Option.some.inj H
  try go_wp2
  go_ret
  exact ⟨EWW, BL⟩
def impl_IsClue.f (k : Nat) (a0_0 : Int) (l0_1 : List (S110)) : Option (Bool) := (impl_InRange.f a0_0 1 99).bind fun t483 => (if t483 = true then ((impl_IsPlay.f k l0_1).bind fun t484 => (some t484)) else (some false))
set_option maxHeartbeats 8000000 in
set_option maxRecDepth 100000 in
theorem impl_IsClue.calls (k : Nat) (a0_0 : Int) (A0_1 : Option Addr) (c0_1 : Nat) (l0_1 : List (S110)) (r : Bool) (w : World) (hr0_1 : Kd.C k110 w A0_1 l0_1.length l0_1) (hc0_1 : l0_1.length ≤ c0_1) (h : impl_IsClue.f k a0_0 l0_1 = some r) :
  Calls Try.prog 94 #[.agg #[.int .i64 a0_0, .slice A0_1 l0_1.length c0_1]] w fun e w' => e = .returned (.bool r) ∧ Below w.heap.size w w' := by
 have hu116 := Try.underlying116
 have HR0_1 := Aside0.mk hr0_1
 have HC0_1 := Aside0.mk hc0_1
 clear hr0_1 hc0_1
 have HB := Aside0.mk (Below.refl w.heap.size w)
 have H : ((impl_InRange.f a0_0 1 99).bind fun t483 => (if t483 = true then ((impl_IsPlay.f k l0_1).bind fun t484 => (some t484)) else (some false))) = some r := h
 clear h
 obtain ⟨t483, A2, H⟩ := be H
 replace H := Aside0.mk H
 go_enter Try.func94, Try.ntmps94
 go_wp2_with (first | ((with_reducible refine gate_dst (N := 1) rfl ?_); refine box_ev (N := 1) (cs := #[.int .i64 a0_0, .slice A0_1 l0_1.length c0_1]) (t := 116) ?_; intro gb482 hg w9000 hbox hb; have n0_ := BS (w := w) hb; have n1_ := Aside0.mk (hbox); have n2_ := SZ (w := w) hg; have n3_ := SZ (w := w) hg; clear HB; have HB := n0_; have BK482 := n1_; have GW482 := n2_; have GE482 := n3_; clear n0_ n1_ n2_ n3_; clear hb hbox hg; obtain ⟨hcz9001_0, hcz9001_1, hfz9001_0, hfz9001_1⟩ := cz2 BK482.out) | ((with_reducible refine gate_callee (f := 65) rfl ?_); refine goesS (some 5) Try.func65 #[.int .i64 a0_0, .int .i64 1, .int .i64 99] ?_; (with_reducible refine (impl_InRange.calls a0_0 1 99 _ _ A2.out).mono ?_); rintro e w' ⟨rfl, ⟨nd, rfl⟩⟩; refine ⟨_, rfl, ?_⟩; refine stop_ ?_))
 refine Hide.mk ?_
 replace H := H.out
 by_cases c3 : t483 = true
 ·subst c3
  rw [if_pos rfl] at H
  obtain ⟨t484, A4, H⟩ := be H
  obtain rfl := Option.some.inj H
  try go_wp2_with (first | (go_at_call 50; (with_reducible refine (impl_IsPlay.calls k _ _ l0_1 t484 _ ?side1 ?side2 A4.out).mono ?_); (case side1 => repeat (first | exact (Kd.C_below HR0_1.out BL) | (with_reducible refine Kd.C_alloc ?_ _) | (with_reducible refine Kd.C_drewN ?_ _) | (with_reducible refine Kd.C_drew ?_))); (case side2 => exact HC0_1.out); rintro e w9002 ⟨rfl, hb⟩; replace BK482 := KB BK482 hb; replace HB := BS (w := w) hb; (try clear hb)))
  go_ret
  exact ⟨EWW, BL⟩
 ·replace c3 := Bool.eq_false_iff.mpr c3
  subst c3
  rw [if_neg Bool.false_ne_true] at H
  obtain rfl := Option.some.inj H
  try go_wp2
  go_ret
  exact ⟨EWW, BL⟩
def impl_IsPuzzle_1.f (k : Nat) (a0_0 : Int) (l0_1 : List (S110)) : Option (Bool) := (impl_IsClue.f k a0_0 l0_1).bind fun t486 => (some (!t486))
set_option maxHeartbeats 8000000 in
set_option maxRecDepth 100000 in
theorem impl_IsPuzzle_1.calls (k : Nat) (a0_0 : Int) (A0_1 : Option Addr) (c0_1 : Nat) (l0_1 : List (S110)) (r : Bool) (w : World) (hr0_1 : Kd.C k110 w A0_1 l0_1.length l0_1) (hc0_1 : l0_1.length ≤ c0_1) (h : impl_IsPuzzle_1.f k a0_0 l0_1 = some r) :
  Calls Try.prog 93 #[.agg #[.int .i64 a0_0, .slice A0_1 l0_1.length c0_1]] w fun e w' => e = .returned (.bool r) ∧ Below w.heap.size w w' := by
 have hu116 := Try.underlying116
 have HR0_1 := Aside0.mk hr0_1
 have HC0_1 := Aside0.mk hc0_1
 clear hr0_1 hc0_1
 have HB := Aside0.mk (Below.refl w.heap.size w)
 have H : ((impl_IsClue.f k a0_0 l0_1).bind fun t486 => (some (!t486))) = some r := h
 clear h
 obtain ⟨t486, A2, H⟩ := be H
 obtain rfl := Option.some.inj H
 go_enter Try.func93, Try.ntmps93
 go_wp2_with (first | ((with_reducible refine gate_dst (N := 1) rfl ?_); refine box_ev (N := 1) (cs := #[.int .i64 a0_0, .slice A0_1 l0_1.length c0_1]) (t := 116) ?_; intro gb485 hg w3 hbox hb; have n0_ := BS (w := w) hb; have n1_ := Aside0.mk (hbox); have n2_ := SZ (w := w) hg; have n3_ := SZ (w := w) hg; clear HB; have HB := n0_; have BK485 := n1_; have GW485 := n2_; have GE485 := n3_; clear n0_ n1_ n2_ n3_; clear hb hbox hg; obtain ⟨hcz4_0, hcz4_1, hfz4_0, hfz4_1⟩ := cz2 BK485.out) | ((with_reducible refine gate_callee (f := 94) rfl ?_); refine goesS (some 4) Try.func94 #[.agg #[.int .i64 a0_0, .slice A0_1 l0_1.length c0_1]] ?_; (with_reducible refine (impl_IsClue.calls k a0_0 _ _ l0_1 t486 _ ?side1 ?side2 A2.out).mono ?_); (case side1 => exact CB HR0_1); (case side2 => exact HC0_1.out); rintro e w5 ⟨rfl, hb⟩; refine ⟨_, rfl, ?_⟩; replace BK485 := KB BK485 hb; replace HB := BS (w := w) hb; (try clear hb)))
 go_ret
 exact ⟨EWW, BL⟩
def impl_Clue_144.l0 : Nat → List (S116) → Int → Int → Option (Int)
 | 0, _, _, _ => none
 | k + 1, x0, x7, x8 => if x8 < x7 then (if 0 ≤ x8 then (if x8 < (x0.length : Int) then ((impl_IsPuzzle_1.f k ((rd_T116 x0 x8).f0) ((rd_T116 x0 x8).f1)).bind fun t488 => (if t488 = true then (some x8) else (impl_Clue_144.l0 k x0 x7 (wrap64 (x8 + 1))))) else (none)) else (none)) else (some (-1))
def impl_Clue_144.f (k : Nat) (l0 : List (S116)) (a1 : ByteArray) : Option (Int) := impl_Clue_144.l0 k l0 (l0.length : Int) 0
set_option maxHeartbeats 8000000 in
set_option maxRecDepth 100000 in
theorem impl_Clue_144.calls (k : Nat) (A0 : Option Addr) (c0 : Nat) (l0 : List (S116)) (a1 : ByteArray) (r : Int) (w : World) (hr0 : Kd.C k116 w A0 l0.length l0) (hc0 : l0.length ≤ c0) (h : impl_Clue_144.f k l0 a1 = some r) :
  Calls Try.prog 144 #[.slice A0 l0.length c0, .func (.func 93) #[] #[]] w fun e w' => e = .returned (.int .i64 r) ∧ Below w.heap.size w w' := by
 have hu116 := Try.underlying116
 have HR0 := Aside0.mk hr0
 have HC0 := Aside0.mk hc0
 clear hr0 hc0
 have HB := Aside0.mk (Below.refl w.heap.size w)
 have H : (impl_Clue_144.l0 k l0 (l0.length : Int) 0) = some r := h
 clear h
 have H' := Aside0.mk H
 clear H
 go_enter Try.func144, Try.ntmps144
 go_wp2
 go_loopg [8] k (fun kq v8 w' => ∃ (x8_1 : Int), v8 = .int .i64 x8_1 ∧ Aside0 (impl_Clue_144.l0 kq l0 (l0.length : Int) x8_1 = some r) ∧ Aside0 (kq ≤ k) ∧ Aside0 (Below w.heap.size w w'))
 case atStart => exact ⟨(0), EQ, H', ⟨Nat.le_refl _⟩, ⟨BL⟩⟩
 case round =>
  clear H'
  obtain ⟨x8_1, rfl, HA, HK1, HB⟩ := hrel
  cases gk with
  | zero => exact absurd HA.out (by simp [impl_Clue_144.l0])
  | succ k1 =>
   have H := HA.out
   clear HA
   simp only [impl_Clue_144.l0] at H
   by_cases c3 : x8_1 < (l0.length : Int)
   ·rw [if_pos c3] at H
    have c3b0 : decide (x8_1 < (l0.length : Int)) = true := decide_eq_true c3
    clear c3
    by_cases c4 : 0 ≤ x8_1
    ·rw [if_pos c4] at H
     have c4b0 : decide (0 ≤ x8_1) = true := decide_eq_true c4
     clear c4
     by_cases c5 : x8_1 < (l0.length : Int)
     ·rw [if_pos c5] at H
      have c5b0 : decide (x8_1 < (l0.length : Int)) = true := decide_eq_true c5
      clear c5
      obtain ⟨t488, A6, H⟩ := be H
      have p487 : 0 ≤ (x8_1 : Int) := OD
      have q487 : x8_1 < (l0.length : Int) := OD
      obtain ⟨ad487, A487_1, c487_1, e487, hx487_0, hx487_1, hl487_1, hi487_1⟩ := at_T116 HR0.out x8_1 p487 q487
      cases e487
      try replace hx487_0 := (HB.out.cell (World.block_lt_of_cell? w _ hx487_0)).trans hx487_0
      try replace hx487_1 := (HB.out.cell (World.block_lt_of_cell? w _ hx487_1)).trans hx487_1
      have HR487_1 := Aside0.mk hi487_1
      have HC487_1 := Aside0.mk hl487_1
      clear hi487_1 hl487_1
      replace p487 := eq_true p487
      replace q487 := eq_true q487
      replace H := Aside0.mk H
      go_wp2_with (first | ((with_reducible refine (impl_IsPuzzle_1.calls k1 ((rd_T116 l0 x8_1).f0) _ _ ((rd_T116 l0 x8_1).f1) _ _ ?side1 ?side2 A6.out).mono ?_); (case side1 => exact CB HR487_1); (case side2 => exact HC487_1.out); rintro e w7000 ⟨rfl, hb⟩; replace HB := BS (w := w) hb; (try clear hb); (try clear hb2); (try clear hk); (try clear hi); refine stop_ ?_))
      refine Hide.mk ?_
      replace H := H.out
      by_cases c7 : t488 = true
      ·subst c7
       rw [if_pos rfl] at H
       obtain rfl := Option.some.inj H
       try go_wp2
       go_ret
       exact ⟨EWW, BL⟩
      ·replace c7 := Bool.eq_false_iff.mpr c7
       subst c7
       rw [if_neg Bool.false_ne_true] at H
       have H' := Aside0.mk H
       clear H
       try go_wp2
       go_roundg k1
       case measure => have := HK1.out; omega
       case rel => exact ⟨(wrap64 (x8_1 + 1)), EQ, H', ⟨by have := HK1.out; omega⟩, ⟨BL⟩⟩
     ·rw [if_neg c5] at H
      exact absurd H (by simp)
    ·rw [if_neg c4] at H
     exact absurd H (by simp)
   ·rw [if_neg c3] at H
    have c3b0 : decide (x8_1 < (l0.length : Int)) = false := decide_eq_false c3
    clear c3
    obtain rfl := Option.some.inj H
    go_wp2
    go_ret
    exact ⟨EWW, BL⟩
def impl_Clue_92.f (k : Nat) (l0 : List (S116)) (a1 : ByteArray) : Option (Bool) := (impl_Clue_144.f k l0 a1).bind fun t489 => (some (decide (t489 ≥ 0)))
set_option maxHeartbeats 8000000 in
set_option maxRecDepth 100000 in
theorem impl_Clue_92.calls (k : Nat) (A0 : Option Addr) (c0 : Nat) (l0 : List (S116)) (a1 : ByteArray) (r : Bool) (w : World) (hr0 : Kd.C k116 w A0 l0.length l0) (hc0 : l0.length ≤ c0) (h : impl_Clue_92.f k l0 a1 = some r) :
  Calls Try.prog 92 #[.slice A0 l0.length c0, .func (.func 93) #[] #[]] w fun e w' => e = .returned (.bool r) ∧ Below w.heap.size w w' := by
 have HR0 := Aside0.mk hr0
 have HC0 := Aside0.mk hc0
 clear hr0 hc0
 have HB := Aside0.mk (Below.refl w.heap.size w)
 have H : ((impl_Clue_144.f k l0 a1).bind fun t489 => (some (decide (t489 ≥ 0)))) = some r := h
 clear h
 obtain ⟨t489, A3, H⟩ := be H
 obtain rfl := Option.some.inj H
 go_enter Try.func92, Try.ntmps92
 go_wp2_with (first | ((with_reducible refine gate_callee (f := 144) rfl ?_); refine goesS (some 7) Try.func144 #[.slice A0 l0.length c0, .func (.func 93) #[] #[]] ?_; (with_reducible refine (impl_Clue_144.calls k _ _ l0 a1 t489 _ ?side1 ?side2 A3.out).mono ?_); (case side1 => repeat (first | exact HR0.out | (with_reducible refine Kd.C_alloc ?_ _) | (with_reducible refine Kd.C_drewN ?_ _) | (with_reducible refine Kd.C_drew ?_))); (case side2 => exact HC0.out); rintro e w4 ⟨rfl, hb⟩; refine ⟨_, rfl, ?_⟩; replace HB := BS (w := w) hb; (try clear hb)))
 go_ret
 exact ⟨EWW, BL⟩
end Go.Proofs.Ythjcicmmbmagbaa.PFnExactHardOf
