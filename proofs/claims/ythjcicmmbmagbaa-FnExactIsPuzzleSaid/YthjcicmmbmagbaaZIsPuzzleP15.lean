/- Walks of functions: what each computes. -/
import Derived.Test.YthjcicmmbmagbaaZIsPuzzleP0
import Derived.Test.YthjcicmmbmagbaaZIsPuzzleP11
import Derived.Test.YthjcicmmbmagbaaZIsPuzzleP13
import Derived.Test.YthjcicmmbmagbaaZIsPuzzleP14
import Derived.Test.YthjcicmmbmagbaaZIsPuzzleW
import Derived.Test.YthjcicmmbmagbaaZIsPuzzleShelf
import Derived.Test.YthjcicmmbmagbaaZIsPuzzleHandSort
import Derived.Test.YthjcicmmbmagbaaZIsPuzzleHandForm
import Derived.Test.YthjcicmmbmagbaaZIsPuzzleHandAlone
import Derived.Test.YthjcicmmbmagbaaZIsPuzzleHandReach
namespace Go.Proofs.Ythjcicmmbmagbaa.PFnExactIsPuzzle
open Go.RowKit Go.Proofs.YthjcicmmbmagbaaW.PrintWords Go.Proofs.YthjcicmmbmagbaaW.PrintLast Go.Proofs.YthjcicmmbmagbaaW.PrintMore Go.Proofs.Ythjcicmmbmagbaa.Sq
attribute [local go_sem] max2_int min2_int max_two min_two max_three min_three max_four min_four
set_option linter.unusedVariables false
set_option linter.unusedSimpArgs false
def impl_IsWord.l0 : Nat → ByteArray → Int → Int → Option (Bool)
 | 0, _, _, _ => none
 | k + 1, x0, x9, x10 => if x10 < x9 then (if 0 ≤ x10 then (if x10 < (x0.size : Int) then ((impl_isLetter.f (bt x0 x10)).bind fun t419 => (if t419 = true then (impl_IsWord.l0 k x0 x9 (wrap64 (x10 + 1))) else (some false))) else (none)) else (none)) else (some true)
def impl_IsWord.f (k : Nat) (a0 : ByteArray) : Option (Bool) := (impl_InRange.f (a0.size : Int) 1 8).bind fun t418 => (if t418 = true then (impl_IsWord.l0 k a0 (a0.size : Int) 0) else (some false))
set_option maxHeartbeats 8000000 in
set_option maxRecDepth 100000 in
theorem impl_IsWord.calls (k : Nat) (a0 : ByteArray) (r : Bool) (w : World) (h : impl_IsWord.f k a0 = some r) :
  Calls Try.prog 64 #[.string a0] w fun e w' => e = .returned (.bool r) ∧ Drawn0 w w' := by
 have H : ((impl_InRange.f (a0.size : Int) 1 8).bind fun t418 => (if t418 = true then (impl_IsWord.l0 k a0 (a0.size : Int) 0) else (some false))) = some r := h
 clear h
 obtain ⟨t418, A2, H⟩ := be H
 replace H := Aside0.mk H
 go_enter Try.func64, Try.ntmps64
 go_wp2_with (first | ((with_reducible refine gate_callee (f := 65) rfl ?_); refine goesS (some 6) Try.func65 #[.int .i64 (a0.size : Int), .int .i64 1, .int .i64 8] ?_; (with_reducible refine (impl_InRange.calls (a0.size : Int) 1 8 _ _ A2.out).mono ?_); rintro e w' ⟨rfl, ⟨nd, rfl⟩⟩; refine ⟨_, rfl, ?_⟩; refine stop_ ?_))
 refine Hide.mk ?_
 replace H := H.out
 by_cases c3 : t418 = true
 ·subst c3
  rw [if_pos rfl] at H
  have H' := Aside0.mk H
  clear H
  try go_wp2
  go_loopg [10] k (fun kq v10 w' => ∃ (x10_1 : Int), v10 = .int .i64 x10_1 ∧ Aside0 (impl_IsWord.l0 kq a0 (a0.size : Int) x10_1 = some r) ∧ Aside0 (kq ≤ k) ∧ Drawn0 w w')
  case atStart => exact ⟨(0), EQ, H', ⟨Nat.le_refl _⟩, by repeat (first | exact Drawn0.refl _ | apply Drawn0.step)⟩
  case round =>
   clear H'
   try clear c3
   obtain ⟨x10_1, rfl, HA, HK1, ⟨m1, rfl⟩⟩ := hrel
   cases gk with
   | zero => exact absurd HA.out (by simp [impl_IsWord.l0])
   | succ k1 =>
    have H := HA.out
    clear HA
    simp only [impl_IsWord.l0] at H
    by_cases c4 : x10_1 < (a0.size : Int)
    ·rw [if_pos c4] at H
     have c4b0 : decide (x10_1 < (a0.size : Int)) = true := decide_eq_true c4
     clear c4
     by_cases c5 : 0 ≤ x10_1
     ·rw [if_pos c5] at H
      have c5b0 : decide (0 ≤ x10_1) = true := decide_eq_true c5
      clear c5
      by_cases c6 : x10_1 < (a0.size : Int)
      ·rw [if_pos c6] at H
       have c6b0 : decide (x10_1 < (a0.size : Int)) = true := decide_eq_true c6
       clear c6
       obtain ⟨t419, A8, H⟩ := be H
       have p7 : 0 ≤ (x10_1 : Int) := OD
       have q7 : x10_1 < (a0.size : Int) := OD
       have hx7 := bt_at a0 x10_1
       replace p7 := eq_true p7
       replace q7 := eq_true q7
       replace H := Aside0.mk H
       go_wp2_with (first | ((with_reducible refine gate_callee (f := 122) rfl ?_); refine goesS (some 16) Try.func122 #[.int .u8 (bt a0 x10_1)] ?_; (with_reducible refine (impl_isLetter.calls (bt a0 x10_1) _ _ A8.out).mono ?_); rintro e w' ⟨rfl, ⟨nd, rfl⟩⟩; refine ⟨_, rfl, ?_⟩; refine stop_ ?_))
       refine Hide.mk ?_
       replace H := H.out
       by_cases c9 : t419 = true
       ·subst c9
        rw [if_pos rfl] at H
        have H' := Aside0.mk H
        clear H
        try go_wp2
        go_roundg k1
        case measure => have := HK1.out; omega
        case rel => exact ⟨(wrap64 (x10_1 + 1)), EQ, H', ⟨by have := HK1.out; omega⟩, by repeat (first | exact Drawn0.refl _ | apply Drawn0.step)⟩
       ·replace c9 := Bool.eq_false_iff.mpr c9
        subst c9
        rw [if_neg Bool.false_ne_true] at H
        obtain rfl := Option.some.inj H
        try go_wp2
        go_ret
        exact ⟨by first | rfl | (simp; done) | (simp [*]; done), by repeat (first | exact Drawn0.refl _ | apply Drawn0.step)⟩
      ·rw [if_neg c6] at H
       exact absurd H (by simp)
     ·rw [if_neg c5] at H
      exact absurd H (by simp)
    ·rw [if_neg c4] at H
     have c4b0 : decide (x10_1 < (a0.size : Int)) = false := decide_eq_false c4
     clear c4
     obtain rfl := Option.some.inj H
     go_wp2
     go_ret
     exact ⟨by first | rfl | (simp; done) | (simp [*]; done), by repeat (first | exact Drawn0.refl _ | apply Drawn0.step)⟩
 ·replace c3 := Bool.eq_false_iff.mpr c3
  subst c3
  rw [if_neg Bool.false_ne_true] at H
  obtain rfl := Option.some.inj H
  try go_wp2
  go_ret
  exact ⟨by first | rfl | (simp; done) | (simp [*]; done), by repeat (first | exact Drawn0.refl _ | apply Drawn0.step)⟩
def impl_isPair.f (a0 : Int) : Option (Bool) := if a0 = 4 then (some true) else (some (a0 == 5))
set_option maxHeartbeats 8000000 in
set_option maxRecDepth 100000 in
theorem impl_isPair.calls (a0 : Int) (r : Bool) (w : World) (h : impl_isPair.f a0 = some r) :
  Calls Try.prog 107 #[.int .i64 a0] w fun e w' => e = .returned (.bool r) ∧ Drawn0 w w' := by
 have H : (if a0 = 4 then (some true) else (some (a0 == 5))) = some r := h
 clear h
 replace H := Aside0.mk H
 go_enter Try.func107, Try.ntmps107
 replace H := H.out
 by_cases c2 : a0 = 4
 ·rw [if_pos c2] at H
  have c2b0 : (a0 == 4) = true := beq_iff_eq.mpr c2
  have c2b1 : (a0 != 4) = false := bne_eq_false_iff_eq.mpr c2
  clear c2
  obtain rfl := Option.some.inj H
  try go_wp2
  go_ret
  exact ⟨by first | rfl | (simp; done) | (simp [*]; done), by repeat (first | exact Drawn0.refl _ | apply Drawn0.step)⟩
 ·rw [if_neg c2] at H
  have c2b0 : (a0 == 4) = false := beq_eq_false_iff_ne.mpr c2
  have c2b1 : (a0 != 4) = true := bne_iff_ne.mpr c2
  obtain rfl := Option.some.inj H
  try go_wp2
  go_ret
  exact ⟨by first | rfl | (simp; done) | (simp [*]; done), by repeat (first | exact Drawn0.refl _ | apply Drawn0.step)⟩
def impl_needsWord.f (a0 : Int) : Option (Bool) := if a0 = 3 then (some true) else (some (decide (a0 ≥ 6)))
set_option maxHeartbeats 8000000 in
set_option maxRecDepth 100000 in
theorem impl_needsWord.calls (a0 : Int) (r : Bool) (w : World) (h : impl_needsWord.f a0 = some r) :
  Calls Try.prog 110 #[.int .i64 a0] w fun e w' => e = .returned (.bool r) ∧ Drawn0 w w' := by
 have H : (if a0 = 3 then (some true) else (some (decide (a0 ≥ 6)))) = some r := h
 clear h
 replace H := Aside0.mk H
 go_enter Try.func110, Try.ntmps110
 replace H := H.out
 by_cases c2 : a0 = 3
 ·rw [if_pos c2] at H
  have c2b0 : (a0 == 3) = true := beq_iff_eq.mpr c2
  have c2b1 : (a0 != 3) = false := bne_eq_false_iff_eq.mpr c2
  clear c2
  obtain rfl := Option.some.inj H
  try go_wp2
  go_ret
  exact ⟨by first | rfl | (simp; done) | (simp [*]; done), by repeat (first | exact Drawn0.refl _ | apply Drawn0.step)⟩
 ·rw [if_neg c2] at H
  have c2b0 : (a0 == 3) = false := beq_eq_false_iff_ne.mpr c2
  have c2b1 : (a0 != 3) = true := bne_iff_ne.mpr c2
  obtain rfl := Option.some.inj H
  try go_wp2
  go_ret
  exact ⟨by first | rfl | (simp; done) | (simp [*]; done), by repeat (first | exact Drawn0.refl _ | apply Drawn0.step)⟩
mutual
def impl_IsPlay.l0 : Nat → List (S110) → List (S110) → Int → Int → Option (Bool)
 | 0, _, _, _, _ => none
 | k + 1, x0, x9, x10, x11 => if x11 < x10 then (if 0 ≤ x11 then (if x11 < (x9.length : Int) then ((impl_InRange.f ((rd_T110 x9 x11).f0) 1 9).bind fun t423 => (if t423 = true then (if ((rd_T110 x9 x11).f0) = 1 then ((impl_IsWord.f k ((rd_T110 x9 x11).f1)).bind fun t424 => (if t424 = true then (if ((rd_T110 x9 x11).f2) = 0 then (if ((rd_T110 x9 x11).f3) = 0 then (impl_IsPlay.l0 k x0 x9 x10 (wrap64 (x11 + 1))) else (some false)) else (some false)) else (some false))) else (if ((rd_T110 x9 x11).f1).toList = ([] : List UInt8) then ((impl_at.f ((rd_T110 x9 x11).f2) x11).bind fun t425 => (if t425 = true then ((impl_needsWord.f ((rd_T110 x9 x11).f0)).bind fun t426 => (if t426 = true then (if 0 ≤ ((rd_T110 x9 x11).f2) then (if ((rd_T110 x9 x11).f2) < (x0.length : Int) then (impl_IsPlay.j1 k x0 x11 x9 x10 x11 (((rd_T110 x0 ((rd_T110 x9 x11).f2)).f0) != 1) ((rd_T110 x9 x11).f0) ((rd_T110 x9 x11).f1) ((rd_T110 x9 x11).f2) ((rd_T110 x9 x11).f3)) else (none)) else (none)) else (impl_IsPlay.j1 k x0 x11 x9 x10 x11 false ((rd_T110 x9 x11).f0) ((rd_T110 x9 x11).f1) ((rd_T110 x9 x11).f2) ((rd_T110 x9 x11).f3)))) else (impl_IsPlay.j1 k x0 x11 x9 x10 x11 true ((rd_T110 x9 x11).f0) ((rd_T110 x9 x11).f1) ((rd_T110 x9 x11).f2) ((rd_T110 x9 x11).f3)))) else (impl_IsPlay.j1 k x0 x11 x9 x10 x11 true ((rd_T110 x9 x11).f0) ((rd_T110 x9 x11).f1) ((rd_T110 x9 x11).f2) ((rd_T110 x9 x11).f3)))) else (some false))) else (none)) else (none)) else (some true)
def impl_IsPlay.j1 : Nat → List (S110) → Int → List (S110) → Int → Int → Bool → Int → ByteArray → Int → Int → Option (Bool)
 | 0, _, _, _, _, _, _, _, _, _, _ => none
 | k + 1, x0, x3, x9, x10, x11, x60, x423000, x423001, x423002, x423003 => if x60 = true then (some false) else ((impl_isPair.f x423000).bind fun t428 => (if t428 = true then ((impl_at.f x423003 x3).bind fun t429 => (if t429 = true then ((impl_isPair.f x423000).bind fun t430 => (if t430 = true then (impl_IsPlay.l0 k x0 x9 x10 (wrap64 (x11 + 1))) else (if x423003 = 0 then (impl_IsPlay.l0 k x0 x9 x10 (wrap64 (x11 + 1))) else (some false)))) else (some false))) else ((impl_isPair.f x423000).bind fun t431 => (if t431 = true then (impl_IsPlay.l0 k x0 x9 x10 (wrap64 (x11 + 1))) else (if x423003 = 0 then (impl_IsPlay.l0 k x0 x9 x10 (wrap64 (x11 + 1))) else (some false))))))
end
def impl_IsPlay.f (k : Nat) (l0 : List (S110)) : Option (Bool) := (impl_InRange.f (l0.length : Int) 1 9).bind fun t420 => (if t420 = true then (impl_IsPlay.l0 k l0 l0 (l0.length : Int) 0) else (some false))
set_option maxHeartbeats 8000000 in
set_option maxRecDepth 100000 in
theorem impl_IsPlay.calls (k : Nat) (A0 : Option Addr) (c0 : Nat) (l0 : List (S110)) (r : Bool) (w : World) (hr0 : Kd.C k110 w A0 l0.length l0) (hc0 : l0.length ≤ c0) (h : impl_IsPlay.f k l0 = some r) :
  Calls Try.prog 50 #[.slice A0 l0.length c0] w fun e w' => e = .returned (.bool r) ∧ Below w.heap.size w w' := by
 have hu110 := Try.underlying110
 have HR0 := Aside0.mk hr0
 have HC0 := Aside0.mk hc0
 clear hr0 hc0
 have HB := Aside0.mk (Below.refl w.heap.size w)
 have H : ((impl_InRange.f (l0.length : Int) 1 9).bind fun t420 => (if t420 = true then (impl_IsPlay.l0 k l0 l0 (l0.length : Int) 0) else (some false))) = some r := h
 clear h
 obtain ⟨t420, A2, H⟩ := be H
 replace H := Aside0.mk H
 go_enter Try.func50, Try.ntmps50
 go_wp2_with (first | ((with_reducible refine gate_callee (f := 65) rfl ?_); refine goesS (some 7) Try.func65 #[.int .i64 (l0.length : Int), .int .i64 1, .int .i64 9] ?_; (with_reducible refine (impl_InRange.calls (l0.length : Int) 1 9 _ _ A2.out).mono ?_); rintro e w' ⟨rfl, ⟨nd, rfl⟩⟩; refine ⟨_, rfl, ?_⟩; refine stop_ ?_))
 refine Hide.mk ?_
 replace H := H.out
 by_cases c3 : t420 = true
 ·subst c3
  rw [if_pos rfl] at H
  have H' := Aside0.mk H
  clear H
  try go_wp2
  go_loopg [11] k (fun kq v11 w' => ∃ (x11_1 : Int), v11 = .int .i64 x11_1 ∧ Aside0 (impl_IsPlay.l0 kq l0 l0 (l0.length : Int) x11_1 = some r) ∧ Aside0 (kq ≤ k) ∧ Aside0 (Below w.heap.size w w'))
  case atStart => exact ⟨(0), EQ, H', ⟨Nat.le_refl _⟩, ⟨BL⟩⟩
  case round =>
   clear H'
   try clear c3
   obtain ⟨x11_1, rfl, HA, HK1, HB⟩ := hrel
   cases gk with
   | zero => exact absurd HA.out (by simp [impl_IsPlay.l0])
   | succ k1 =>
    have H := HA.out
    clear HA
    simp only [impl_IsPlay.l0] at H
    by_cases c4 : x11_1 < (l0.length : Int)
    ·rw [if_pos c4] at H
     have c4b0 : decide (x11_1 < (l0.length : Int)) = true := decide_eq_true c4
     clear c4
     by_cases c5 : 0 ≤ x11_1
     ·rw [if_pos c5] at H
      have c5b0 : decide (0 ≤ x11_1) = true := decide_eq_true c5
      clear c5
      by_cases c6 : x11_1 < (l0.length : Int)
      ·rw [if_pos c6] at H
       have c6b0 : decide (x11_1 < (l0.length : Int)) = true := decide_eq_true c6
       clear c6
       obtain ⟨t423, A7, H⟩ := be H
       have p421 : 0 ≤ (x11_1 : Int) := OD
       have q421 : x11_1 < (l0.length : Int) := OD
       obtain ⟨ad421, e421, hx421_0, hx421_1, hx421_2, hx421_3⟩ := at_T110 HR0.out x11_1 p421 q421
       cases e421
       try replace hx421_0 := (HB.out.cell (World.block_lt_of_cell? w _ hx421_0)).trans hx421_0
       try replace hx421_1 := (HB.out.cell (World.block_lt_of_cell? w _ hx421_1)).trans hx421_1
       try replace hx421_2 := (HB.out.cell (World.block_lt_of_cell? w _ hx421_2)).trans hx421_2
       try replace hx421_3 := (HB.out.cell (World.block_lt_of_cell? w _ hx421_3)).trans hx421_3
       replace p421 := eq_true p421
       replace q421 := eq_true q421
       replace H := Aside0.mk H
       go_wp2_with (first | ((with_reducible refine gate_dst (N := 4) rfl ?_); refine box_ev (N := 4) (cs := #[.int .i64 0, .string (⟨#[]⟩ : ByteArray), .int .i64 0, .int .i64 0]) (t := 110) ?_; intro gb422 hg w9000 hbox hb; have n0_ := BS (w := w) hb; have n1_ := Aside0.mk (hbox); have n2_ := SZ (w := w) hg; have n3_ := SZ (w := w) hg; clear HB; have HB := n0_; have BK422 := n1_; have GW422 := n2_; have GE422 := n3_; clear n0_ n1_ n2_ n3_; clear hb hbox hg; obtain ⟨hcz9001_0, hcz9001_1, hcz9001_2, hcz9001_3, hfz9001_0, hfz9001_1, hfz9001_2, hfz9001_3⟩ := cz4 BK422.out) | ((with_reducible refine gate_callee (f := 65) rfl ?_); refine goesS (some 18) Try.func65 #[.int .i64 ((rd_T110 l0 x11_1).f0), .int .i64 1, .int .i64 9] ?_; (with_reducible refine (impl_InRange.calls ((rd_T110 l0 x11_1).f0) 1 9 _ _ A7.out).mono ?_); rintro e w' ⟨rfl, ⟨nd, rfl⟩⟩; refine ⟨_, rfl, ?_⟩; refine stop_ ?_))
       refine Hide.mk ?_
       replace H := H.out
       by_cases c8 : t423 = true
       ·subst c8
        rw [if_pos rfl] at H
        by_cases c9 : ((rd_T110 l0 x11_1).f0) = 1
        ·rw [if_pos c9] at H
         have c9b0 : (((rd_T110 l0 x11_1).f0) == 1) = true := beq_iff_eq.mpr c9
         have c9b1 : (((rd_T110 l0 x11_1).f0) != 1) = false := bne_eq_false_iff_eq.mpr c9
         clear c9
         obtain ⟨t424, A10, H⟩ := be H
         replace H := Aside0.mk H
         go_wp2_with (first | ((with_reducible refine gate_callee (f := 64) rfl ?_); refine goesS (some 25) Try.func64 #[.string ((rd_T110 l0 x11_1).f1)] ?_; (with_reducible refine (impl_IsWord.calls k1 ((rd_T110 l0 x11_1).f1) _ _ A10.out).mono ?_); rintro e w' ⟨rfl, ⟨nd, rfl⟩⟩; refine ⟨_, rfl, ?_⟩; refine stop_ ?_))
         refine Hide.mk ?_
         replace H := H.out
         by_cases c11 : t424 = true
         ·subst c11
          rw [if_pos rfl] at H
          by_cases c12 : ((rd_T110 l0 x11_1).f2) = 0
          ·rw [if_pos c12] at H
           have c12b0 : (((rd_T110 l0 x11_1).f2) == 0) = true := beq_iff_eq.mpr c12
           have c12b1 : (((rd_T110 l0 x11_1).f2) != 0) = false := bne_eq_false_iff_eq.mpr c12
           clear c12
           by_cases c13 : ((rd_T110 l0 x11_1).f3) = 0
           ·rw [if_pos c13] at H
            have c13b0 : (((rd_T110 l0 x11_1).f3) == 0) = true := beq_iff_eq.mpr c13
            have c13b1 : (((rd_T110 l0 x11_1).f3) != 0) = false := bne_eq_false_iff_eq.mpr c13
            clear c13
            have H' := Aside0.mk H
            clear H
            try go_wp2
            go_roundg k1
            case measure => have := HK1.out; omega
            case rel => exact ⟨(wrap64 (x11_1 + 1)), EQ, H', ⟨by have := HK1.out; omega⟩, ⟨BL⟩⟩
           ·rw [if_neg c13] at H
            have c13b0 : (((rd_T110 l0 x11_1).f3) == 0) = false := beq_eq_false_iff_ne.mpr c13
            have c13b1 : (((rd_T110 l0 x11_1).f3) != 0) = true := bne_iff_ne.mpr c13
            obtain rfl := Option.some.inj H
            try go_wp2
            go_ret
            exact ⟨EWW, BL⟩
          ·rw [if_neg c12] at H
           have c12b0 : (((rd_T110 l0 x11_1).f2) == 0) = false := beq_eq_false_iff_ne.mpr c12
           have c12b1 : (((rd_T110 l0 x11_1).f2) != 0) = true := bne_iff_ne.mpr c12
           obtain rfl := Option.some.inj H
           try go_wp2
           go_ret
           exact ⟨EWW, BL⟩
         ·replace c11 := Bool.eq_false_iff.mpr c11
          subst c11
          rw [if_neg Bool.false_ne_true] at H
          obtain rfl := Option.some.inj H
          try go_wp2
          go_ret
          exact ⟨EWW, BL⟩
        ·rw [if_neg c9] at H
         have c9b0 : (((rd_T110 l0 x11_1).f0) == 1) = false := beq_eq_false_iff_ne.mpr c9
         have c9b1 : (((rd_T110 l0 x11_1).f0) != 1) = true := bne_iff_ne.mpr c9
         have HC22 := Aside0.mk H
         clear H
         go_upto_region 11 with (fail)
         (try simp only [Act.put, List.setIfInBounds_toArray, List.set_cons_zero, List.set_cons_succ])
         go_cut [60] (fun v60 wc => ∃ (kq : Nat) (x60_21 : Bool), v60 = .bool x60_21 ∧ Aside0 (impl_IsPlay.j1 kq l0 x11_1 l0 (l0.length : Int) x11_1 x60_21 ((rd_T110 l0 x11_1).f0) ((rd_T110 l0 x11_1).f1) ((rd_T110 l0 x11_1).f2) ((rd_T110 l0 x11_1).f3) = some r) ∧ Aside0 (kq ≤ k1) ∧ Aside0 (wc.heap[gb422]? = some (.cells #[.int .i64 ((rd_T110 l0 x11_1).f0), .string ((rd_T110 l0 x11_1).f1), .int .i64 ((rd_T110 l0 x11_1).f2), .int .i64 ((rd_T110 l0 x11_1).f3)] 110 (0, 0))) ∧ Aside0 (Below w.heap.size w wc))
         case first =>
          have H := HC22.out
          clear HC22
          obtain ⟨hcz9002_0, hcz9002_1, hcz9002_2, hcz9002_3, hfz9002_0, hfz9002_1, hfz9002_2, hfz9002_3⟩ := cz4 BK422.out
          by_cases c25 : ((rd_T110 l0 x11_1).f1).toList = ([] : List UInt8)
          ·rw [if_pos c25] at H
           have c25b0 : (((rd_T110 l0 x11_1).f1).toList == ([] : List UInt8)) = true := beq_iff_eq.mpr c25
           have c25b1 : (((rd_T110 l0 x11_1).f1).toList != ([] : List UInt8)) = false := bne_eq_false_iff_eq.mpr c25
           clear c25
           (first | rw [c25b0] | (simp only [i64_w, i32_w]; rw [c25b0]) | skip)
           obtain ⟨t425, A26, H⟩ := be H
           replace H := Aside0.mk H
           go_wp2_with (first | (go_at_call 109; (with_reducible refine (impl_at.calls ((rd_T110 l0 x11_1).f2) x11_1 _ _ A26.out).mono ?_); rintro e w' ⟨rfl, ⟨nd, rfl⟩⟩; refine stop_ ?_))
           refine Hide.mk ?_
           replace H := H.out
           by_cases c27 : t425 = true
           ·subst c27
            rw [if_pos rfl] at H
            obtain ⟨t426, A28, H⟩ := be H
            replace H := Aside0.mk H
            go_wp2_with (first | (go_at_call 110; (with_reducible refine (impl_needsWord.calls ((rd_T110 l0 x11_1).f0) _ _ A28.out).mono ?_); rintro e w' ⟨rfl, ⟨nd, rfl⟩⟩; refine stop_ ?_))
            refine Hide.mk ?_
            replace H := H.out
            by_cases c29 : t426 = true
            ·subst c29
             rw [if_pos rfl] at H
             by_cases c30 : 0 ≤ ((rd_T110 l0 x11_1).f2)
             ·rw [if_pos c30] at H
              have c30b0 : decide (0 ≤ ((rd_T110 l0 x11_1).f2)) = true := decide_eq_true c30
              clear c30
              by_cases c31 : ((rd_T110 l0 x11_1).f2) < (l0.length : Int)
              ·rw [if_pos c31] at H
               have c31b0 : decide (((rd_T110 l0 x11_1).f2) < (l0.length : Int)) = true := decide_eq_true c31
               clear c31
               have H' := Aside0.mk H
               clear H
               have p427 : 0 ≤ (((rd_T110 l0 x11_1).f2) : Int) := OD
               have q427 : ((rd_T110 l0 x11_1).f2) < (l0.length : Int) := OD
               obtain ⟨ad427, e427, hx427_0, hx427_1, hx427_2, hx427_3⟩ := at_T110 HR0.out ((rd_T110 l0 x11_1).f2) p427 q427
               obtain rfl : ad421 = ad427 := (by injection e427)
               have hn427_0 : ad421.block ≠ gb422 := Nat.ne_of_lt (Nat.lt_of_lt_of_le (by have := World.block_lt_of_cell? _ _ hx427_0; first | rwa [add_block] at this | exact this) GW422.out)
               have hn427_1 : ad421.block ≠ gb422 := Nat.ne_of_lt (Nat.lt_of_lt_of_le (by have := World.block_lt_of_cell? _ _ hx427_0; first | rwa [add_block] at this | exact this) GW422.out)
               have hn427_2 : ad421.block ≠ gb422 := Nat.ne_of_lt (Nat.lt_of_lt_of_le (by have := World.block_lt_of_cell? _ _ hx427_0; first | rwa [add_block] at this | exact this) GW422.out)
               have hn427_3 : ad421.block ≠ gb422 := Nat.ne_of_lt (Nat.lt_of_lt_of_le (by have := World.block_lt_of_cell? _ _ hx427_0; first | rwa [add_block] at this | exact this) GW422.out)
               replace hx427_0 := (HB.out.cell (World.block_lt_of_cell? w _ hx427_0)).trans hx427_0
               replace hx427_1 := (HB.out.cell (World.block_lt_of_cell? w _ hx427_1)).trans hx427_1
               replace hx427_2 := (HB.out.cell (World.block_lt_of_cell? w _ hx427_2)).trans hx427_2
               replace hx427_3 := (HB.out.cell (World.block_lt_of_cell? w _ hx427_3)).trans hx427_3
               replace hx427_0 := (cell_far (p := ⟨gb422, 0, none⟩) (by first | (rw [add_block]; exact hn427_0) | (show (Addr.add _ _).block ≠ _; rw [add_block]; exact hn427_0) | exact hn427_0) (.int .i64 ((rd_T110 l0 x11_1).f0))).trans hx427_0
               replace hx427_1 := (cell_far (p := ⟨gb422, 0, none⟩) (by first | (rw [add_block]; exact hn427_0) | (show (Addr.add _ _).block ≠ _; rw [add_block]; exact hn427_0) | exact hn427_0) (.int .i64 ((rd_T110 l0 x11_1).f0))).trans hx427_1
               replace hx427_2 := (cell_far (p := ⟨gb422, 0, none⟩) (by first | (rw [add_block]; exact hn427_0) | (show (Addr.add _ _).block ≠ _; rw [add_block]; exact hn427_0) | exact hn427_0) (.int .i64 ((rd_T110 l0 x11_1).f0))).trans hx427_2
               replace hx427_3 := (cell_far (p := ⟨gb422, 0, none⟩) (by first | (rw [add_block]; exact hn427_0) | (show (Addr.add _ _).block ≠ _; rw [add_block]; exact hn427_0) | exact hn427_0) (.int .i64 ((rd_T110 l0 x11_1).f0))).trans hx427_3
               replace hx427_0 := (cell_far (p := ⟨gb422, 1, none⟩) (by first | (rw [add_block]; exact hn427_1) | (show (Addr.add _ _).block ≠ _; rw [add_block]; exact hn427_1) | exact hn427_1) (.string ((rd_T110 l0 x11_1).f1))).trans hx427_0
               replace hx427_1 := (cell_far (p := ⟨gb422, 1, none⟩) (by first | (rw [add_block]; exact hn427_1) | (show (Addr.add _ _).block ≠ _; rw [add_block]; exact hn427_1) | exact hn427_1) (.string ((rd_T110 l0 x11_1).f1))).trans hx427_1
               replace hx427_2 := (cell_far (p := ⟨gb422, 1, none⟩) (by first | (rw [add_block]; exact hn427_1) | (show (Addr.add _ _).block ≠ _; rw [add_block]; exact hn427_1) | exact hn427_1) (.string ((rd_T110 l0 x11_1).f1))).trans hx427_2
               replace hx427_3 := (cell_far (p := ⟨gb422, 1, none⟩) (by first | (rw [add_block]; exact hn427_1) | (show (Addr.add _ _).block ≠ _; rw [add_block]; exact hn427_1) | exact hn427_1) (.string ((rd_T110 l0 x11_1).f1))).trans hx427_3
               replace hx427_0 := (cell_far (p := ⟨gb422, 2, none⟩) (by first | (rw [add_block]; exact hn427_2) | (show (Addr.add _ _).block ≠ _; rw [add_block]; exact hn427_2) | exact hn427_2) (.int .i64 ((rd_T110 l0 x11_1).f2))).trans hx427_0
               replace hx427_1 := (cell_far (p := ⟨gb422, 2, none⟩) (by first | (rw [add_block]; exact hn427_2) | (show (Addr.add _ _).block ≠ _; rw [add_block]; exact hn427_2) | exact hn427_2) (.int .i64 ((rd_T110 l0 x11_1).f2))).trans hx427_1
               replace hx427_2 := (cell_far (p := ⟨gb422, 2, none⟩) (by first | (rw [add_block]; exact hn427_2) | (show (Addr.add _ _).block ≠ _; rw [add_block]; exact hn427_2) | exact hn427_2) (.int .i64 ((rd_T110 l0 x11_1).f2))).trans hx427_2
               replace hx427_3 := (cell_far (p := ⟨gb422, 2, none⟩) (by first | (rw [add_block]; exact hn427_2) | (show (Addr.add _ _).block ≠ _; rw [add_block]; exact hn427_2) | exact hn427_2) (.int .i64 ((rd_T110 l0 x11_1).f2))).trans hx427_3
               replace hx427_0 := (cell_far (p := ⟨gb422, 3, none⟩) (by first | (rw [add_block]; exact hn427_3) | (show (Addr.add _ _).block ≠ _; rw [add_block]; exact hn427_3) | exact hn427_3) (.int .i64 ((rd_T110 l0 x11_1).f3))).trans hx427_0
               replace hx427_1 := (cell_far (p := ⟨gb422, 3, none⟩) (by first | (rw [add_block]; exact hn427_3) | (show (Addr.add _ _).block ≠ _; rw [add_block]; exact hn427_3) | exact hn427_3) (.int .i64 ((rd_T110 l0 x11_1).f3))).trans hx427_1
               replace hx427_2 := (cell_far (p := ⟨gb422, 3, none⟩) (by first | (rw [add_block]; exact hn427_3) | (show (Addr.add _ _).block ≠ _; rw [add_block]; exact hn427_3) | exact hn427_3) (.int .i64 ((rd_T110 l0 x11_1).f3))).trans hx427_2
               replace hx427_3 := (cell_far (p := ⟨gb422, 3, none⟩) (by first | (rw [add_block]; exact hn427_3) | (show (Addr.add _ _).block ≠ _; rw [add_block]; exact hn427_3) | exact hn427_3) (.int .i64 ((rd_T110 l0 x11_1).f3))).trans hx427_3
               clear hn427_0 hn427_1 hn427_2 hn427_3
               replace p427 := eq_true p427
               replace q427 := eq_true q427
               go_wp2
               go_meet
               case rel => exact ⟨_, ((((rd_T110 l0 ((rd_T110 l0 x11_1).f2)).f0) != 1)), EQ, H', ⟨by have := HK1.out; first | omega | exact Nat.le_refl _⟩, ⟨by (with_reducible repeat (first | refine blk_drewN ?_ _ | refine blk_drew ?_ | refine blk_alloc ?_ _)); refine blk_put (cs := #[.int .i64 ((rd_T110 l0 x11_1).f0), .string ((rd_T110 l0 x11_1).f1), .int .i64 ((rd_T110 l0 x11_1).f2), .int .i64 0]) ?_ 3 _ rfl; (with_reducible repeat (first | refine blk_drewN ?_ _ | refine blk_drew ?_ | refine blk_alloc ?_ _)); refine blk_put (cs := #[.int .i64 ((rd_T110 l0 x11_1).f0), .string ((rd_T110 l0 x11_1).f1), .int .i64 0, .int .i64 0]) ?_ 2 _ rfl; (with_reducible repeat (first | refine blk_drewN ?_ _ | refine blk_drew ?_ | refine blk_alloc ?_ _)); refine blk_put (cs := #[.int .i64 ((rd_T110 l0 x11_1).f0), .string (⟨#[]⟩ : ByteArray), .int .i64 0, .int .i64 0]) ?_ 1 _ rfl; (with_reducible repeat (first | refine blk_drewN ?_ _ | refine blk_drew ?_ | refine blk_alloc ?_ _)); refine blk_put (cs := #[.int .i64 0, .string (⟨#[]⟩ : ByteArray), .int .i64 0, .int .i64 0]) ?_ 0 _ rfl; (with_reducible repeat (first | refine blk_drewN ?_ _ | refine blk_drew ?_ | refine blk_alloc ?_ _)); exact BK422.out⟩, ⟨BL⟩⟩
              ·rw [if_neg c31] at H
               exact absurd H (by simp)
             ·rw [if_neg c30] at H
              exact absurd H (by simp)
            ·replace c29 := Bool.eq_false_iff.mpr c29
             subst c29
             rw [if_neg Bool.false_ne_true] at H
             have H' := Aside0.mk H
             clear H
             try go_wp2
             go_meet
             case rel => exact ⟨_, (false), EQ, H', ⟨by have := HK1.out; first | omega | exact Nat.le_refl _⟩, ⟨by (with_reducible repeat (first | refine blk_drewN ?_ _ | refine blk_drew ?_ | refine blk_alloc ?_ _)); refine blk_put (cs := #[.int .i64 ((rd_T110 l0 x11_1).f0), .string ((rd_T110 l0 x11_1).f1), .int .i64 ((rd_T110 l0 x11_1).f2), .int .i64 0]) ?_ 3 _ rfl; (with_reducible repeat (first | refine blk_drewN ?_ _ | refine blk_drew ?_ | refine blk_alloc ?_ _)); refine blk_put (cs := #[.int .i64 ((rd_T110 l0 x11_1).f0), .string ((rd_T110 l0 x11_1).f1), .int .i64 0, .int .i64 0]) ?_ 2 _ rfl; (with_reducible repeat (first | refine blk_drewN ?_ _ | refine blk_drew ?_ | refine blk_alloc ?_ _)); refine blk_put (cs := #[.int .i64 ((rd_T110 l0 x11_1).f0), .string (⟨#[]⟩ : ByteArray), .int .i64 0, .int .i64 0]) ?_ 1 _ rfl; (with_reducible repeat (first | refine blk_drewN ?_ _ | refine blk_drew ?_ | refine blk_alloc ?_ _)); refine blk_put (cs := #[.int .i64 0, .string (⟨#[]⟩ : ByteArray), .int .i64 0, .int .i64 0]) ?_ 0 _ rfl; (with_reducible repeat (first | refine blk_drewN ?_ _ | refine blk_drew ?_ | refine blk_alloc ?_ _)); exact BK422.out⟩, ⟨BL⟩⟩
           ·replace c27 := Bool.eq_false_iff.mpr c27
            subst c27
            rw [if_neg Bool.false_ne_true] at H
            have H' := Aside0.mk H
            clear H
            try go_wp2
            go_meet
            case rel => exact ⟨_, (true), EQ, H', ⟨by have := HK1.out; first | omega | exact Nat.le_refl _⟩, ⟨by (with_reducible repeat (first | refine blk_drewN ?_ _ | refine blk_drew ?_ | refine blk_alloc ?_ _)); refine blk_put (cs := #[.int .i64 ((rd_T110 l0 x11_1).f0), .string ((rd_T110 l0 x11_1).f1), .int .i64 ((rd_T110 l0 x11_1).f2), .int .i64 0]) ?_ 3 _ rfl; (with_reducible repeat (first | refine blk_drewN ?_ _ | refine blk_drew ?_ | refine blk_alloc ?_ _)); refine blk_put (cs := #[.int .i64 ((rd_T110 l0 x11_1).f0), .string ((rd_T110 l0 x11_1).f1), .int .i64 0, .int .i64 0]) ?_ 2 _ rfl; (with_reducible repeat (first | refine blk_drewN ?_ _ | refine blk_drew ?_ | refine blk_alloc ?_ _)); refine blk_put (cs := #[.int .i64 ((rd_T110 l0 x11_1).f0), .string (⟨#[]⟩ : ByteArray), .int .i64 0, .int .i64 0]) ?_ 1 _ rfl; (with_reducible repeat (first | refine blk_drewN ?_ _ | refine blk_drew ?_ | refine blk_alloc ?_ _)); refine blk_put (cs := #[.int .i64 0, .string (⟨#[]⟩ : ByteArray), .int .i64 0, .int .i64 0]) ?_ 0 _ rfl; (with_reducible repeat (first | refine blk_drewN ?_ _ | refine blk_drew ?_ | refine blk_alloc ?_ _)); exact BK422.out⟩, ⟨BL⟩⟩
          ·rw [if_neg c25] at H
           have c25b0 : (((rd_T110 l0 x11_1).f1).toList == ([] : List UInt8)) = false := beq_eq_false_iff_ne.mpr c25
           have c25b1 : (((rd_T110 l0 x11_1).f1).toList != ([] : List UInt8)) = true := bne_iff_ne.mpr c25
           (first | rw [c25b0] | (simp only [i64_w, i32_w]; rw [c25b0]) | skip)
           have H' := Aside0.mk H
           clear H
           go_wp2
           go_meet
           case rel => exact ⟨_, (true), EQ, H', ⟨by have := HK1.out; first | omega | exact Nat.le_refl _⟩, ⟨by (with_reducible repeat (first | refine blk_drewN ?_ _ | refine blk_drew ?_ | refine blk_alloc ?_ _)); refine blk_put (cs := #[.int .i64 ((rd_T110 l0 x11_1).f0), .string ((rd_T110 l0 x11_1).f1), .int .i64 ((rd_T110 l0 x11_1).f2), .int .i64 0]) ?_ 3 _ rfl; (with_reducible repeat (first | refine blk_drewN ?_ _ | refine blk_drew ?_ | refine blk_alloc ?_ _)); refine blk_put (cs := #[.int .i64 ((rd_T110 l0 x11_1).f0), .string ((rd_T110 l0 x11_1).f1), .int .i64 0, .int .i64 0]) ?_ 2 _ rfl; (with_reducible repeat (first | refine blk_drewN ?_ _ | refine blk_drew ?_ | refine blk_alloc ?_ _)); refine blk_put (cs := #[.int .i64 ((rd_T110 l0 x11_1).f0), .string (⟨#[]⟩ : ByteArray), .int .i64 0, .int .i64 0]) ?_ 1 _ rfl; (with_reducible repeat (first | refine blk_drewN ?_ _ | refine blk_drew ?_ | refine blk_alloc ?_ _)); refine blk_put (cs := #[.int .i64 0, .string (⟨#[]⟩ : ByteArray), .int .i64 0, .int .i64 0]) ?_ 0 _ rfl; (with_reducible repeat (first | refine blk_drewN ?_ _ | refine blk_drew ?_ | refine blk_alloc ?_ _)); exact BK422.out⟩, ⟨BL⟩⟩
         case rest =>
          clear HC22
          try clear c3
          try clear c4
          try clear c4b0
          try clear c5
          try clear c5b0
          try clear c6
          try clear c6b0
          try clear c8
          try clear c9
          try clear c9b0
          try clear c9b1
          try clear hcz9001_0
          try clear hcz9001_1
          try clear hcz9001_2
          try clear hcz9001_3
          try clear hfz9001_0
          try clear hfz9001_1
          try clear hfz9001_2
          try clear hfz9001_3
          try clear hx421_0
          try clear hx421_1
          try clear hx421_2
          try clear hx421_3
          try clear p421
          try clear q421
          obtain ⟨kq, x60_21, rfl, HA, HJ21, BK422, HB⟩ := hcut
          cases kq with
          | zero => exact absurd HA.out (by simp [impl_IsPlay.j1])
          | succ kj21 =>
           have H := HA.out
           clear HA
           simp only [impl_IsPlay.j1] at H
           by_cases c36 : x60_21 = true
           ·subst c36
            rw [if_pos rfl] at H
            obtain rfl := Option.some.inj H
            go_wp2
            go_ret
            exact ⟨EWW, BL⟩
           ·replace c36 := Bool.eq_false_iff.mpr c36
            subst c36
            rw [if_neg Bool.false_ne_true] at H
            obtain ⟨t428, A37, H⟩ := be H
            obtain ⟨hcz9003_0, hcz9003_1, hcz9003_2, hcz9003_3, hfz9003_0, hfz9003_1, hfz9003_2, hfz9003_3⟩ := cz4 BK422.out
            replace H := Aside0.mk H
            go_wp2_with (first | ((with_reducible refine gate_callee (f := 107) rfl ?_); refine goesS (some 63) Try.func107 #[.int .i64 ((rd_T110 l0 x11_1).f0)] ?_; (with_reducible refine (impl_isPair.calls ((rd_T110 l0 x11_1).f0) _ _ A37.out).mono ?_); rintro e w' ⟨rfl, ⟨nd, rfl⟩⟩; refine ⟨_, rfl, ?_⟩; refine stop_ ?_))
            refine Hide.mk ?_
            replace H := H.out
            by_cases c38 : t428 = true
            ·subst c38
             rw [if_pos rfl] at H
             obtain ⟨t429, A39, H⟩ := be H
             replace H := Aside0.mk H
             go_wp2_with (first | (go_at_call 109; (with_reducible refine (impl_at.calls ((rd_T110 l0 x11_1).f3) x11_1 _ _ A39.out).mono ?_); rintro e w' ⟨rfl, ⟨nd, rfl⟩⟩; refine stop_ ?_))
             refine Hide.mk ?_
             replace H := H.out
             by_cases c40 : t429 = true
             ·subst c40
              rw [if_pos rfl] at H
              obtain ⟨t430, A41, H⟩ := be H
              replace H := Aside0.mk H
              go_wp2_with (first | (go_at_call 107; (with_reducible refine (impl_isPair.calls ((rd_T110 l0 x11_1).f0) _ _ A41.out).mono ?_); rintro e w' ⟨rfl, ⟨nd, rfl⟩⟩; refine stop_ ?_))
              refine Hide.mk ?_
              replace H := H.out
              by_cases c42 : t430 = true
              ·subst c42
               rw [if_pos rfl] at H
               have H' := Aside0.mk H
               clear H
               try go_wp2
               go_roundg kj21
               case measure => have := HK1.out; have := HJ21.out; omega
               case rel => exact ⟨(wrap64 (x11_1 + 1)), EQ, H', ⟨by have := HK1.out; have := HJ21.out; omega⟩, ⟨BL⟩⟩
              ·replace c42 := Bool.eq_false_iff.mpr c42
               subst c42
               rw [if_neg Bool.false_ne_true] at H
               by_cases c44 : ((rd_T110 l0 x11_1).f3) = 0
               ·rw [if_pos c44] at H
                have c44b0 : (((rd_T110 l0 x11_1).f3) == 0) = true := beq_iff_eq.mpr c44
                have c44b1 : (((rd_T110 l0 x11_1).f3) != 0) = false := bne_eq_false_iff_eq.mpr c44
                clear c44
                have H' := Aside0.mk H
                clear H
                try go_wp2
                go_roundg kj21
                case measure => have := HK1.out; have := HJ21.out; omega
                case rel => exact ⟨(wrap64 (x11_1 + 1)), EQ, H', ⟨by have := HK1.out; have := HJ21.out; omega⟩, ⟨BL⟩⟩
               ·rw [if_neg c44] at H
                have c44b0 : (((rd_T110 l0 x11_1).f3) == 0) = false := beq_eq_false_iff_ne.mpr c44
                have c44b1 : (((rd_T110 l0 x11_1).f3) != 0) = true := bne_iff_ne.mpr c44
                obtain rfl := Option.some.inj H
                try go_wp2
                go_ret
                exact ⟨EWW, BL⟩
             ·replace c40 := Bool.eq_false_iff.mpr c40
              subst c40
              rw [if_neg Bool.false_ne_true] at H
              obtain rfl := Option.some.inj H
              try go_wp2
              go_ret
              exact ⟨EWW, BL⟩
            ·replace c38 := Bool.eq_false_iff.mpr c38
             subst c38
             rw [if_neg Bool.false_ne_true] at H
             obtain ⟨t431, A48, H⟩ := be H
             replace H := Aside0.mk H
             go_wp2_with (first | (go_at_call 107; (with_reducible refine (impl_isPair.calls ((rd_T110 l0 x11_1).f0) _ _ A48.out).mono ?_); rintro e w' ⟨rfl, ⟨nd, rfl⟩⟩; refine stop_ ?_))
             refine Hide.mk ?_
             replace H := H.out
             by_cases c49 : t431 = true
             ·subst c49
              rw [if_pos rfl] at H
              have H' := Aside0.mk H
              clear H
              try go_wp2
              go_roundg kj21
              case measure => have := HK1.out; have := HJ21.out; omega
              case rel => exact ⟨(wrap64 (x11_1 + 1)), EQ, H', ⟨by have := HK1.out; have := HJ21.out; omega⟩, ⟨BL⟩⟩
             ·replace c49 := Bool.eq_false_iff.mpr c49
              subst c49
              rw [if_neg Bool.false_ne_true] at H
              by_cases c51 : ((rd_T110 l0 x11_1).f3) = 0
              ·rw [if_pos c51] at H
               have c51b0 : (((rd_T110 l0 x11_1).f3) == 0) = true := beq_iff_eq.mpr c51
               have c51b1 : (((rd_T110 l0 x11_1).f3) != 0) = false := bne_eq_false_iff_eq.mpr c51
               clear c51
               have H' := Aside0.mk H
               clear H
               try go_wp2
               go_roundg kj21
               case measure => have := HK1.out; have := HJ21.out; omega
               case rel => exact ⟨(wrap64 (x11_1 + 1)), EQ, H', ⟨by have := HK1.out; have := HJ21.out; omega⟩, ⟨BL⟩⟩
              ·rw [if_neg c51] at H
               have c51b0 : (((rd_T110 l0 x11_1).f3) == 0) = false := beq_eq_false_iff_ne.mpr c51
               have c51b1 : (((rd_T110 l0 x11_1).f3) != 0) = true := bne_iff_ne.mpr c51
               obtain rfl := Option.some.inj H
               try go_wp2
               go_ret
               exact ⟨EWW, BL⟩
       ·replace c8 := Bool.eq_false_iff.mpr c8
        subst c8
        rw [if_neg Bool.false_ne_true] at H
        obtain rfl := Option.some.inj H
        try go_wp2
        go_ret
        exact ⟨EWW, BL⟩
      ·rw [if_neg c6] at H
       exact absurd H (by simp)
     ·rw [if_neg c5] at H
      exact absurd H (by simp)
    ·rw [if_neg c4] at H
     have c4b0 : decide (x11_1 < (l0.length : Int)) = false := decide_eq_false c4
     clear c4
     obtain rfl := Option.some.inj H
     go_wp2
     go_ret
     exact ⟨EWW, BL⟩
 ·replace c3 := Bool.eq_false_iff.mpr c3
  subst c3
  rw [if_neg Bool.false_ne_true] at H
  obtain rfl := Option.some.inj H
  try go_wp2
  go_ret
  exact ⟨EWW, BL⟩
def impl_IsClue.f (k : Nat) (a0_0 : Int) (l0_1 : List (S110)) : Option (Bool) := (impl_InRange.f a0_0 1 99).bind fun t433 => (if t433 = true then ((impl_IsPlay.f k l0_1).bind fun t434 => (some t434)) else (some false))
set_option maxHeartbeats 8000000 in
set_option maxRecDepth 100000 in
theorem impl_IsClue.calls (k : Nat) (a0_0 : Int) (A0_1 : Option Addr) (c0_1 : Nat) (l0_1 : List (S110)) (r : Bool) (w : World) (hr0_1 : Kd.C k110 w A0_1 l0_1.length l0_1) (hc0_1 : l0_1.length ≤ c0_1) (h : impl_IsClue.f k a0_0 l0_1 = some r) :
  Calls Try.prog 94 #[.agg #[.int .i64 a0_0, .slice A0_1 l0_1.length c0_1]] w fun e w' => e = .returned (.bool r) ∧ Below w.heap.size w w' := by
 have hu116 := Try.underlying116
 have HR0_1 := Aside0.mk hr0_1
 have HC0_1 := Aside0.mk hc0_1
 clear hr0_1 hc0_1
 have HB := Aside0.mk (Below.refl w.heap.size w)
 have H : ((impl_InRange.f a0_0 1 99).bind fun t433 => (if t433 = true then ((impl_IsPlay.f k l0_1).bind fun t434 => (some t434)) else (some false))) = some r := h
 clear h
 obtain ⟨t433, A2, H⟩ := be H
 replace H := Aside0.mk H
 go_enter Try.func94, Try.ntmps94
 go_wp2_with (first | ((with_reducible refine gate_dst (N := 1) rfl ?_); refine box_ev (N := 1) (cs := #[.int .i64 a0_0, .slice A0_1 l0_1.length c0_1]) (t := 116) ?_; intro gb432 hg w9000 hbox hb; have n0_ := BS (w := w) hb; have n1_ := Aside0.mk (hbox); have n2_ := SZ (w := w) hg; have n3_ := SZ (w := w) hg; clear HB; have HB := n0_; have BK432 := n1_; have GW432 := n2_; have GE432 := n3_; clear n0_ n1_ n2_ n3_; clear hb hbox hg; obtain ⟨hcz9001_0, hcz9001_1, hfz9001_0, hfz9001_1⟩ := cz2 BK432.out) | ((with_reducible refine gate_callee (f := 65) rfl ?_); refine goesS (some 5) Try.func65 #[.int .i64 a0_0, .int .i64 1, .int .i64 99] ?_; (with_reducible refine (impl_InRange.calls a0_0 1 99 _ _ A2.out).mono ?_); rintro e w' ⟨rfl, ⟨nd, rfl⟩⟩; refine ⟨_, rfl, ?_⟩; refine stop_ ?_))
 refine Hide.mk ?_
 replace H := H.out
 by_cases c3 : t433 = true
 ·subst c3
  rw [if_pos rfl] at H
  obtain ⟨t434, A4, H⟩ := be H
  obtain rfl := Option.some.inj H
  try go_wp2_with (first | (go_at_call 50; (with_reducible refine (impl_IsPlay.calls k _ _ l0_1 t434 _ ?side1 ?side2 A4.out).mono ?_); (case side1 => repeat (first | exact (Kd.C_below HR0_1.out BL) | (with_reducible refine Kd.C_alloc ?_ _) | (with_reducible refine Kd.C_drewN ?_ _) | (with_reducible refine Kd.C_drew ?_))); (case side2 => exact HC0_1.out); rintro e w9002 ⟨rfl, hb⟩; replace BK432 := KB BK432 hb; replace HB := BS (w := w) hb; (try clear hb)))
  go_ret
  exact ⟨EWW, BL⟩
 ·replace c3 := Bool.eq_false_iff.mpr c3
  subst c3
  rw [if_neg Bool.false_ne_true] at H
  obtain rfl := Option.some.inj H
  try go_wp2
  go_ret
  exact ⟨EWW, BL⟩
def impl_IsPuzzle_1.f (k : Nat) (a0_0 : Int) (l0_1 : List (S110)) : Option (Bool) := (impl_IsClue.f k a0_0 l0_1).bind fun t436 => (some (!t436))
set_option maxHeartbeats 8000000 in
set_option maxRecDepth 100000 in
theorem impl_IsPuzzle_1.calls (k : Nat) (a0_0 : Int) (A0_1 : Option Addr) (c0_1 : Nat) (l0_1 : List (S110)) (r : Bool) (w : World) (hr0_1 : Kd.C k110 w A0_1 l0_1.length l0_1) (hc0_1 : l0_1.length ≤ c0_1) (h : impl_IsPuzzle_1.f k a0_0 l0_1 = some r) :
  Calls Try.prog 93 #[.agg #[.int .i64 a0_0, .slice A0_1 l0_1.length c0_1]] w fun e w' => e = .returned (.bool r) ∧ Below w.heap.size w w' := by
 have hu116 := Try.underlying116
 have HR0_1 := Aside0.mk hr0_1
 have HC0_1 := Aside0.mk hc0_1
 clear hr0_1 hc0_1
 have HB := Aside0.mk (Below.refl w.heap.size w)
 have H : ((impl_IsClue.f k a0_0 l0_1).bind fun t436 => (some (!t436))) = some r := h
 clear h
 obtain ⟨t436, A2, H⟩ := be H
 obtain rfl := Option.some.inj H
 go_enter Try.func93, Try.ntmps93
 go_wp2_with (first | ((with_reducible refine gate_dst (N := 1) rfl ?_); refine box_ev (N := 1) (cs := #[.int .i64 a0_0, .slice A0_1 l0_1.length c0_1]) (t := 116) ?_; intro gb435 hg w3 hbox hb; have n0_ := BS (w := w) hb; have n1_ := Aside0.mk (hbox); have n2_ := SZ (w := w) hg; have n3_ := SZ (w := w) hg; clear HB; have HB := n0_; have BK435 := n1_; have GW435 := n2_; have GE435 := n3_; clear n0_ n1_ n2_ n3_; clear hb hbox hg; obtain ⟨hcz4_0, hcz4_1, hfz4_0, hfz4_1⟩ := cz2 BK435.out) | ((with_reducible refine gate_callee (f := 94) rfl ?_); refine goesS (some 4) Try.func94 #[.agg #[.int .i64 a0_0, .slice A0_1 l0_1.length c0_1]] ?_; (with_reducible refine (impl_IsClue.calls k a0_0 _ _ l0_1 t436 _ ?side1 ?side2 A2.out).mono ?_); (case side1 => exact CB HR0_1); (case side2 => exact HC0_1.out); rintro e w5 ⟨rfl, hb⟩; refine ⟨_, rfl, ?_⟩; replace BK435 := KB BK435 hb; replace HB := BS (w := w) hb; (try clear hb)))
 go_ret
 exact ⟨EWW, BL⟩
end Go.Proofs.Ythjcicmmbmagbaa.PFnExactIsPuzzle
