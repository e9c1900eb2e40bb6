/- Walks of functions: what each computes. -/
import Derived.Test.YthincoghppaegaaZGuessesForP0
import Derived.Test.YthincoghppaegaaZGuessesForP10
import Derived.Test.YthincoghppaegaaZGuessesForP11
import Derived.Test.YthincoghppaegaaZGuessesForP12
import Derived.Test.YthincoghppaegaaZGuessesForP14
import Derived.Test.YthincoghppaegaaZGuessesForW
import Derived.Test.YthincoghppaegaaZGuessesForShelf
import Derived.Test.YthincoghppaegaaZGuessesForHandSort
namespace Go.Proofs.Ythincoghppaegaa.PFnExactGuessesFor
open Go.RowKit Go.Proofs.YthincoghppaegaaW.PrintWords Go.Proofs.YthincoghppaegaaW.PrintLast Go.Proofs.YthincoghppaegaaW.PrintMore Go.Proofs.Ythincoghppaegaa.Sq
attribute [local go_sem] max2_int min2_int max_two min_two max_three min_three max_four min_four
set_option linter.unusedVariables false
set_option linter.unusedSimpArgs false
def impl_Makes.f (k : Nat) (l0 : List (S73)) (a1 : ByteArray) : Option (Bool) := (impl_IsPlay.f k l0).bind fun t294 => (if t294 = true then ((impl_IsWord.f k a1).bind fun t295 => (if t295 = true then ((impl_makes.f k l0 (wrap64 ((l0.length : Int) - 1)) a1).bind fun t296 => (some t296)) else (some false))) else (some false))
set_option maxHeartbeats 8000000 in
set_option maxRecDepth 100000 in
theorem impl_Makes.calls (k : Nat) (A0 : Option Addr) (c0 : Nat) (l0 : List (S73)) (a1 : ByteArray) (r : Bool) (w : World) (hr0 : Kd.C k73 w A0 l0.length l0) (hc0 : l0.length ≤ c0) (h : impl_Makes.f k l0 a1 = some r) :
  Calls Try.prog 51 #[.slice A0 l0.length c0, .string a1] w fun e w' => e = .returned (.bool r) ∧ Below w.heap.size w w' := by
 have HR0 := Aside0.mk hr0
 have HC0 := Aside0.mk hc0
 clear hr0 hc0
 have HB := Aside0.mk (Below.refl w.heap.size w)
 have H : ((impl_IsPlay.f k l0).bind fun t294 => (if t294 = true then ((impl_IsWord.f k a1).bind fun t295 => (if t295 = true then ((impl_makes.f k l0 (wrap64 ((l0.length : Int) - 1)) a1).bind fun t296 => (some t296)) else (some false))) else (some false))) = some r := h
 clear h
 replace H := Option.bind_eq_some_iff.mp H
 obtain ⟨t294, A30, H⟩ := H
 replace H : (if t294 = true then ((impl_IsWord.f k a1).bind fun t295 => (if t295 = true then ((impl_makes.f k l0 (wrap64 ((l0.length : Int) - 1)) a1).bind fun t296 => (some t296)) else (some false))) else (some false)) = some r := H
 have A3 := Aside0.mk A30
 clear A30
 by_cases c4 : t294 = true
 ·subst c4
  have H1 : ((impl_IsWord.f k a1).bind fun t295 => (if t295 = true then ((impl_makes.f k l0 (wrap64 ((l0.length : Int) - 1)) a1).bind fun t296 => (some t296)) else (some false))) = some r := by rw [if_pos rfl] at H; exact H
  clear H
  have H := H1
  clear H1
  replace H := Option.bind_eq_some_iff.mp H
  obtain ⟨t295, A50, H⟩ := H
  replace H : (if t295 = true then ((impl_makes.f k l0 (wrap64 ((l0.length : Int) - 1)) a1).bind fun t296 => (some t296)) else (some false)) = some r := H
  have A5 := Aside0.mk A50
  clear A50
  by_cases c6 : t295 = true
  ·subst c6
   have H1 : ((impl_makes.f k l0 (wrap64 ((l0.length : Int) - 1)) a1).bind fun t296 => (some t296)) = some r := by rw [if_pos rfl] at H; exact H
   clear H
   have H := H1
   clear H1
   replace H := Option.bind_eq_some_iff.mp H
   obtain ⟨t296, A70, H⟩ := H
   replace H : (some t296) = some r := H
   have A7 := Aside0.mk A70
   clear A70
   obtain rfl := Option.some.inj H
   go_enter Try.func51, Try.ntmps51
   go_wp2_with (first | ((with_reducible refine gate_callee (f := 66) rfl ?_); refine goesS (some 6) Try.func66 #[.slice A0 l0.length c0] ?_; (with_reducible refine (impl_IsPlay.calls k _ _ l0 true _ ?side1 ?side2 A3.out).mono ?_); (case side1 => repeat (first | exact HR0.out | (with_reducible refine Kd.C_alloc ?_ _) | (with_reducible refine Kd.C_drewN ?_ _) | (with_reducible refine Kd.C_drew ?_))); (case side2 => exact HC0.out); rintro e w8 ⟨rfl, hb⟩; refine ⟨_, rfl, ?_⟩; replace HB := BS (w := w) hb; (try clear hb)) | (go_at_call 68; (with_reducible refine (impl_IsWord.calls k a1 true _ A5.out).mono ?_); rintro e w' ⟨rfl, ⟨nd, rfl⟩⟩) | (go_at_call 69; (with_reducible refine (impl_makes.calls k _ _ l0 (wrap64 ((l0.length : Int) - 1)) a1 t296 _ ?side1 ?side2 A7.out).mono ?_); (case side1 => repeat (first | exact (Kd.C_below HR0.out BL) | (with_reducible refine Kd.C_alloc ?_ _) | (with_reducible refine Kd.C_drewN ?_ _) | (with_reducible refine Kd.C_drew ?_))); (case side2 => exact HC0.out); rintro e w9 ⟨rfl, hb⟩; replace HB := BS (w := w) hb; (try clear hb)))
   go_ret
   exact ⟨EWW, BL⟩
  ·replace c6 := Bool.eq_false_iff.mpr c6
   subst c6
   have H1 : (some false) = some r := by rw [if_neg (show ¬ (false = true) by decide)] at H; exact H
   clear H
   have H := H1
   clear H1
   obtain rfl := Option.some.inj H
   go_enter Try.func51, Try.ntmps51
   go_wp2_with (first | ((with_reducible refine gate_callee (f := 66) rfl ?_); refine goesS (some 6) Try.func66 #[.slice A0 l0.length c0] ?_; (with_reducible refine (impl_IsPlay.calls k _ _ l0 true _ ?side1 ?side2 A3.out).mono ?_); (case side1 => repeat (first | exact HR0.out | (with_reducible refine Kd.C_alloc ?_ _) | (with_reducible refine Kd.C_drewN ?_ _) | (with_reducible refine Kd.C_drew ?_))); (case side2 => exact HC0.out); rintro e w10 ⟨rfl, hb⟩; refine ⟨_, rfl, ?_⟩; replace HB := BS (w := w) hb; (try clear hb)) | (go_at_call 68; (with_reducible refine (impl_IsWord.calls k a1 false _ A5.out).mono ?_); rintro e w' ⟨rfl, ⟨nd, rfl⟩⟩))
   go_ret
   exact ⟨EWW, BL⟩
 ·replace c4 := Bool.eq_false_iff.mpr c4
  subst c4
  have H1 : (some false) = some r := by rw [if_neg (show ¬ (false = true) by decide)] at H; exact H
  clear H
  have H := H1
  clear H1
  obtain rfl := Option.some.inj H
  go_enter Try.func51, Try.ntmps51
  go_wp2_with (first | ((with_reducible refine gate_callee (f := 66) rfl ?_); refine goesS (some 6) Try.func66 #[.slice A0 l0.length c0] ?_; (with_reducible refine (impl_IsPlay.calls k _ _ l0 false _ ?side1 ?side2 A3.out).mono ?_); (case side1 => repeat (first | exact HR0.out | (with_reducible refine Kd.C_alloc ?_ _) | (with_reducible refine Kd.C_drewN ?_ _) | (with_reducible refine Kd.C_drew ?_))); (case side2 => exact HC0.out); rintro e w11 ⟨rfl, hb⟩; refine ⟨_, rfl, ?_⟩; replace HB := BS (w := w) hb; (try clear hb)))
  go_ret
  exact ⟨EWW, BL⟩
def impl_IsPattern.l0 : Nat → ByteArray → Int → Int → Option (Bool)
 | 0, _, _, _ => none
 | k + 1, x0, x9, x10 => if x10 < x9 then (if 0 ≤ x10 then (if x10 < (x0.size : Int) then (if (bt x0 x10) = 63 then (impl_IsPattern.l0 k x0 x9 (wrap64 (x10 + 1))) else ((impl_isLetter.f (bt x0 x10)).bind fun t298 => (if t298 = true then (impl_IsPattern.l0 k x0 x9 (wrap64 (x10 + 1))) else (some false)))) else (none)) else (none)) else (some true)
def impl_IsPattern.f (k : Nat) (a0 : ByteArray) : Option (Bool) := (impl_InRange.f (a0.size : Int) 1 8).bind fun t297 => (if t297 = true then (impl_IsPattern.l0 k a0 (a0.size : Int) 0) else (some false))
set_option maxHeartbeats 8000000 in
set_option maxRecDepth 100000 in
theorem impl_IsPattern.calls (k : Nat) (a0 : ByteArray) (r : Bool) (w : World) (h : impl_IsPattern.f k a0 = some r) :
  Calls Try.prog 72 #[.string a0] w fun e w' => e = .returned (.bool r) ∧ Drawn0 w w' := by
 have H : ((impl_InRange.f (a0.size : Int) 1 8).bind fun t297 => (if t297 = true then (impl_IsPattern.l0 k a0 (a0.size : Int) 0) else (some false))) = some r := h
 clear h
 replace H := Option.bind_eq_some_iff.mp H
 obtain ⟨t297, A20, H⟩ := H
 replace H : (if t297 = true then (impl_IsPattern.l0 k a0 (a0.size : Int) 0) else (some false)) = some r := H
 have A2 := Aside0.mk A20
 clear A20
 by_cases c3 : t297 = true
 ·subst c3
  have H1 : (impl_IsPattern.l0 k a0 (a0.size : Int) 0) = some r := by rw [if_pos rfl] at H; exact H
  clear H
  have H := H1
  clear H1
  have H' := Aside0.mk H
  clear H
  go_enter Try.func72, Try.ntmps72
  go_wp2_with (first | ((with_reducible refine gate_callee (f := 57) rfl ?_); refine goesS (some 6) Try.func57 #[.int .i64 (a0.size : Int), .int .i64 1, .int .i64 8] ?_; (with_reducible refine (impl_InRange.calls (a0.size : Int) 1 8 true _ A2.out).mono ?_); rintro e w' ⟨rfl, ⟨nd, rfl⟩⟩; refine ⟨_, rfl, ?_⟩))
  go_loopg [10] k (fun kq v10 w' => ∃ (x10_1 : Int), v10 = .int .i64 x10_1 ∧ Aside0 (impl_IsPattern.l0 kq a0 (a0.size : Int) x10_1 = some r) ∧ Aside0 (kq ≤ k) ∧ Drawn0 w w')
  case atStart => exact ⟨(0), EQ, H', ⟨Nat.le_refl _⟩, by repeat (first | exact Drawn0.refl _ | apply Drawn0.step)⟩
  case round =>
   clear H'
   try clear c3
   obtain ⟨x10_1, rfl, HA, HK1, ⟨m1, rfl⟩⟩ := hrel
   cases gk with
   | zero => exact absurd HA.out (by simp [impl_IsPattern.l0])
   | succ k1 =>
    have H := HA.out
    clear HA
    simp only [impl_IsPattern.l0] at H
    by_cases c4 : x10_1 < (a0.size : Int)
    ·rw [if_pos c4] at H
     have c4b0 : decide (x10_1 < (a0.size : Int)) = true := decide_eq_true c4
     clear c4
     by_cases c5 : 0 ≤ x10_1
     ·rw [if_pos c5] at H
      have c5b0 : decide (0 ≤ x10_1) = true := decide_eq_true c5
      clear c5
      by_cases c6 : x10_1 < (a0.size : Int)
      ·rw [if_pos c6] at H
       have c6b0 : decide (x10_1 < (a0.size : Int)) = true := decide_eq_true c6
       clear c6
       by_cases c8 : (bt a0 x10_1) = 63
       ·rw [if_pos c8] at H
        have c8b0 : ((bt a0 x10_1) == 63) = true := beq_iff_eq.mpr c8
        have c8b1 : ((bt a0 x10_1) != 63) = false := bne_eq_false_iff_eq.mpr c8
        clear c8
        have H' := Aside0.mk H
        clear H
        have p7 : 0 ≤ (x10_1 : Int) := OD
        have q7 : x10_1 < (a0.size : Int) := OD
        have hx7 := bt_at a0 x10_1
        replace p7 := eq_true p7
        replace q7 := eq_true q7
        go_wp2
        go_roundg k1
        case measure => have := HK1.out; omega
        case rel => exact ⟨(wrap64 (x10_1 + 1)), EQ, H', ⟨by have := HK1.out; omega⟩, by repeat (first | exact Drawn0.refl _ | apply Drawn0.step)⟩
       ·rw [if_neg c8] at H
        have c8b0 : ((bt a0 x10_1) == 63) = false := beq_eq_false_iff_ne.mpr c8
        have c8b1 : ((bt a0 x10_1) != 63) = true := bne_iff_ne.mpr c8
        replace H := Option.bind_eq_some_iff.mp H
        obtain ⟨t298, A100, H⟩ := H
        replace H : (if t298 = true then (impl_IsPattern.l0 k1 a0 (a0.size : Int) (wrap64 (x10_1 + 1))) else (some false)) = some r := H
        have A10 := Aside0.mk A100
        clear A100
        by_cases c11 : t298 = true
        ·subst c11
         have H1 : (impl_IsPattern.l0 k1 a0 (a0.size : Int) (wrap64 (x10_1 + 1))) = some r := by rw [if_pos rfl] at H; exact H
         clear H
         have H := H1
         clear H1
         have H' := Aside0.mk H
         clear H
         have p7 : 0 ≤ (x10_1 : Int) := OD
         have q7 : x10_1 < (a0.size : Int) := OD
         have hx7 := bt_at a0 x10_1
         replace p7 := eq_true p7
         replace q7 := eq_true q7
         have p9 : 0 ≤ (x10_1 : Int) := OD
         have q9 : x10_1 < (a0.size : Int) := OD
         have hx9 := bt_at a0 x10_1
         replace p9 := eq_true p9
         replace q9 := eq_true q9
         go_wp2_with (first | (go_at_call 86; (with_reducible refine (impl_isLetter.calls (bt a0 x10_1) true _ A10.out).mono ?_); rintro e w' ⟨rfl, ⟨nd, rfl⟩⟩))
         go_roundg k1
         case measure => have := HK1.out; omega
         case rel => exact ⟨(wrap64 (x10_1 + 1)), EQ, H', ⟨by have := HK1.out; omega⟩, by repeat (first | exact Drawn0.refl _ | apply Drawn0.step)⟩
        ·replace c11 := Bool.eq_false_iff.mpr c11
         subst c11
         have H1 : (some false) = some r := by rw [if_neg (show ¬ (false = true) by decide)] at H; exact H
         clear H
         have H := H1
         clear H1
         obtain rfl := Option.some.inj H
         have p7 : 0 ≤ (x10_1 : Int) := OD
         have q7 : x10_1 < (a0.size : Int) := OD
         have hx7 := bt_at a0 x10_1
         replace p7 := eq_true p7
         replace q7 := eq_true q7
         have p9 : 0 ≤ (x10_1 : Int) := OD
         have q9 : x10_1 < (a0.size : Int) := OD
         have hx9 := bt_at a0 x10_1
         replace p9 := eq_true p9
         replace q9 := eq_true q9
         go_wp2_with (first | (go_at_call 86; (with_reducible refine (impl_isLetter.calls (bt a0 x10_1) false _ A10.out).mono ?_); rintro e w' ⟨rfl, ⟨nd, rfl⟩⟩))
         go_ret
         exact ⟨by first | rfl | (simp; done) | (simp [*]; done), by repeat (first | exact Drawn0.refl _ | apply Drawn0.step)⟩
      ·rw [if_neg c6] at H
       exact absurd H (by simp)
     ·rw [if_neg c5] at H
      exact absurd H (by simp)
    ·rw [if_neg c4] at H
     have c4b0 : decide (x10_1 < (a0.size : Int)) = false := decide_eq_false c4
     clear c4
     obtain rfl := Option.some.inj H
     go_wp2
     go_ret
     exact ⟨by first | rfl | (simp; done) | (simp [*]; done), by repeat (first | exact Drawn0.refl _ | apply Drawn0.step)⟩
 ·replace c3 := Bool.eq_false_iff.mpr c3
  subst c3
  have H1 : (some false) = some r := by rw [if_neg (show ¬ (false = true) by decide)] at H; exact H
  clear H
  have H := H1
  clear H1
  obtain rfl := Option.some.inj H
  go_enter Try.func72, Try.ntmps72
  go_wp2_with (first | ((with_reducible refine gate_callee (f := 57) rfl ?_); refine goesS (some 6) Try.func57 #[.int .i64 (a0.size : Int), .int .i64 1, .int .i64 8] ?_; (with_reducible refine (impl_InRange.calls (a0.size : Int) 1 8 false _ A2.out).mono ?_); rintro e w' ⟨rfl, ⟨nd, rfl⟩⟩; refine ⟨_, rfl, ?_⟩))
  go_ret
  exact ⟨by first | rfl | (simp; done) | (simp [*]; done), by repeat (first | exact Drawn0.refl _ | apply Drawn0.step)⟩
mutual
def impl_FitsPattern.j0 : Nat → ByteArray → ByteArray → Bool → Option (Bool)
 | 0, _, _, _ => none
 | k + 1, x0, x1, x20 => if x20 = true then (some false) else (impl_FitsPattern.l0 k x0 x1 (x0.size : Int) 0)
def impl_FitsPattern.l0 : Nat → ByteArray → ByteArray → Int → Int → Option (Bool)
 | 0, _, _, _, _ => none
 | k + 1, x0, x1, x22, x23 => if x23 < x22 then (if 0 ≤ x23 then (if x23 < (x0.size : Int) then (if (bt x0 x23) = 63 then (impl_FitsPattern.l0 k x0 x1 x22 (wrap64 (x23 + 1))) else (if x23 < (x1.size : Int) then (if (bt x0 x23) = (bt x1 x23) then (impl_FitsPattern.l0 k x0 x1 x22 (wrap64 (x23 + 1))) else (some false)) else (none))) else (none)) else (none)) else (some true)
end
def impl_FitsPattern.f (k : Nat) (a0 : ByteArray) (a1 : ByteArray) : Option (Bool) := (impl_IsPattern.f k a0).bind fun t299 => (if t299 = true then ((impl_IsWord.f k a1).bind fun t300 => (if t300 = true then (impl_FitsPattern.j0 k a0 a1 ((a0.size : Int) != (a1.size : Int))) else (impl_FitsPattern.j0 k a0 a1 true))) else (impl_FitsPattern.j0 k a0 a1 true))
set_option maxHeartbeats 8000000 in
set_option maxRecDepth 100000 in
theorem impl_FitsPattern.calls (k : Nat) (a0 : ByteArray) (a1 : ByteArray) (r : Bool) (w : World) (h : impl_FitsPattern.f k a0 a1 = some r) :
  Calls Try.prog 59 #[.string a0, .string a1] w fun e w' => e = .returned (.bool r) ∧ Drawn0 w w' := by
 have H : ((impl_IsPattern.f k a0).bind fun t299 => (if t299 = true then ((impl_IsWord.f k a1).bind fun t300 => (if t300 = true then (impl_FitsPattern.j0 k a0 a1 ((a0.size : Int) != (a1.size : Int))) else (impl_FitsPattern.j0 k a0 a1 true))) else (impl_FitsPattern.j0 k a0 a1 true))) = some r := h
 clear h
 have HC3 := Aside0.mk H
 clear H
 go_enter Try.func59, Try.ntmps59
 go_upto_region 1 with (fail)
 repeat (go_quiet (fail); go_upto_region 1 with (fail))
 go_cut [20] (fun v20 wc => ∃ (kq : Nat) (x20_2 : Bool), v20 = .bool x20_2 ∧ Aside0 (impl_FitsPattern.j0 kq a0 a1 x20_2 = some r) ∧ Aside0 (kq ≤ k) ∧ Drawn0 w wc)
 case first =>
  have H := HC3.out
  clear HC3
  replace H := Option.bind_eq_some_iff.mp H
  obtain ⟨t299, A40, H⟩ := H
  replace H : (if t299 = true then ((impl_IsWord.f k a1).bind fun t300 => (if t300 = true then (impl_FitsPattern.j0 k a0 a1 ((a0.size : Int) != (a1.size : Int))) else (impl_FitsPattern.j0 k a0 a1 true))) else (impl_FitsPattern.j0 k a0 a1 true)) = some r := H
  have A4 := Aside0.mk A40
  clear A40
  by_cases c5 : t299 = true
  ·subst c5
   have H1 : ((impl_IsWord.f k a1).bind fun t300 => (if t300 = true then (impl_FitsPattern.j0 k a0 a1 ((a0.size : Int) != (a1.size : Int))) else (impl_FitsPattern.j0 k a0 a1 true))) = some r := by rw [if_pos rfl] at H; exact H
   clear H
   have H := H1
   clear H1
   replace H := Option.bind_eq_some_iff.mp H
   obtain ⟨t300, A60, H⟩ := H
   replace H : (if t300 = true then (impl_FitsPattern.j0 k a0 a1 ((a0.size : Int) != (a1.size : Int))) else (impl_FitsPattern.j0 k a0 a1 true)) = some r := H
   have A6 := Aside0.mk A60
   clear A60
   by_cases c7 : t300 = true
   ·subst c7
    have H1 : (impl_FitsPattern.j0 k a0 a1 ((a0.size : Int) != (a1.size : Int))) = some r := by rw [if_pos rfl] at H; exact H
    clear H
    have H := H1
    clear H1
    have H' := Aside0.mk H
    clear H
    go_wp2_with (first | (go_at_call 72; (with_reducible refine (impl_IsPattern.calls k a0 true _ A4.out).mono ?_); rintro e w' ⟨rfl, ⟨nd, rfl⟩⟩; (try first | exact ⟨rfl, _, World.drewN_drewN _ _ _⟩ | exact ⟨rfl, _, Eq.trans (World.drewN_drewN _ _ _) (congrArg (World.drewN _) (Nat.add_assoc _ _ _))⟩)) | (go_at_call 68; (with_reducible refine (impl_IsWord.calls k a1 true _ A6.out).mono ?_); rintro e w' ⟨rfl, ⟨nd, rfl⟩⟩; (try first | exact ⟨rfl, _, World.drewN_drewN _ _ _⟩ | exact ⟨rfl, _, Eq.trans (World.drewN_drewN _ _ _) (congrArg (World.drewN _) (Nat.add_assoc _ _ _))⟩)))
    repeat (go_quiet (first | (go_at_call 72; (with_reducible refine (impl_IsPattern.calls k a0 true _ A4.out).mono ?_); rintro e w' ⟨rfl, ⟨nd, rfl⟩⟩; (try first | exact ⟨rfl, _, World.drewN_drewN _ _ _⟩ | exact ⟨rfl, _, Eq.trans (World.drewN_drewN _ _ _) (congrArg (World.drewN _) (Nat.add_assoc _ _ _))⟩)) | (go_at_call 68; (with_reducible refine (impl_IsWord.calls k a1 true _ A6.out).mono ?_); rintro e w' ⟨rfl, ⟨nd, rfl⟩⟩; (try first | exact ⟨rfl, _, World.drewN_drewN _ _ _⟩ | exact ⟨rfl, _, Eq.trans (World.drewN_drewN _ _ _) (congrArg (World.drewN _) (Nat.add_assoc _ _ _))⟩))); try go_wp2_with (first | (go_at_call 72; (with_reducible refine (impl_IsPattern.calls k a0 true _ A4.out).mono ?_); rintro e w' ⟨rfl, ⟨nd, rfl⟩⟩; (try first | exact ⟨rfl, _, World.drewN_drewN _ _ _⟩ | exact ⟨rfl, _, Eq.trans (World.drewN_drewN _ _ _) (congrArg (World.drewN _) (Nat.add_assoc _ _ _))⟩)) | (go_at_call 68; (with_reducible refine (impl_IsWord.calls k a1 true _ A6.out).mono ?_); rintro e w' ⟨rfl, ⟨nd, rfl⟩⟩; (try first | exact ⟨rfl, _, World.drewN_drewN _ _ _⟩ | exact ⟨rfl, _, Eq.trans (World.drewN_drewN _ _ _) (congrArg (World.drewN _) (Nat.add_assoc _ _ _))⟩))))
    go_meet
    case rel => exact ⟨_, (((a0.size : Int) != (a1.size : Int))), EQ, H', ⟨by first | omega | exact Nat.le_refl _⟩, by repeat (first | exact Drawn0.refl _ | apply Drawn0.step)⟩
   ·replace c7 := Bool.eq_false_iff.mpr c7
    subst c7
    have H1 : (impl_FitsPattern.j0 k a0 a1 true) = some r := by rw [if_neg (show ¬ (false = true) by decide)] at H; exact H
    clear H
    have H := H1
    clear H1
    have H' := Aside0.mk H
    clear H
    go_wp2_with (first | (go_at_call 72; (with_reducible refine (impl_IsPattern.calls k a0 true _ A4.out).mono ?_); rintro e w' ⟨rfl, ⟨nd, rfl⟩⟩; (try first | exact ⟨rfl, _, World.drewN_drewN _ _ _⟩ | exact ⟨rfl, _, Eq.trans (World.drewN_drewN _ _ _) (congrArg (World.drewN _) (Nat.add_assoc _ _ _))⟩)) | (go_at_call 68; (with_reducible refine (impl_IsWord.calls k a1 false _ A6.out).mono ?_); rintro e w' ⟨rfl, ⟨nd, rfl⟩⟩; (try first | exact ⟨rfl, _, World.drewN_drewN _ _ _⟩ | exact ⟨rfl, _, Eq.trans (World.drewN_drewN _ _ _) (congrArg (World.drewN _) (Nat.add_assoc _ _ _))⟩)))
    repeat (go_quiet (first | (go_at_call 72; (with_reducible refine (impl_IsPattern.calls k a0 true _ A4.out).mono ?_); rintro e w' ⟨rfl, ⟨nd, rfl⟩⟩; (try first | exact ⟨rfl, _, World.drewN_drewN _ _ _⟩ | exact ⟨rfl, _, Eq.trans (World.drewN_drewN _ _ _) (congrArg (World.drewN _) (Nat.add_assoc _ _ _))⟩)) | (go_at_call 68; (with_reducible refine (impl_IsWord.calls k a1 false _ A6.out).mono ?_); rintro e w' ⟨rfl, ⟨nd, rfl⟩⟩; (try first | exact ⟨rfl, _, World.drewN_drewN _ _ _⟩ | exact ⟨rfl, _, Eq.trans (World.drewN_drewN _ _ _) (congrArg (World.drewN _) (Nat.add_assoc _ _ _))⟩))); try go_wp2_with (first | (go_at_call 72; (with_reducible refine (impl_IsPattern.calls k a0 true _ A4.out).mono ?_); rintro e w' ⟨rfl, ⟨nd, rfl⟩⟩; (try first | exact ⟨rfl, _, World.drewN_drewN _ _ _⟩ | exact ⟨rfl, _, Eq.trans (World.drewN_drewN _ _ _) (congrArg (World.drewN _) (Nat.add_assoc _ _ _))⟩)) | (go_at_call 68; (with_reducible refine (impl_IsWord.calls k a1 false _ A6.out).mono ?_); rintro e w' ⟨rfl, ⟨nd, rfl⟩⟩; (try first | exact ⟨rfl, _, World.drewN_drewN _ _ _⟩ | exact ⟨rfl, _, Eq.trans (World.drewN_drewN _ _ _) (congrArg (World.drewN _) (Nat.add_assoc _ _ _))⟩))))
    go_meet
    case rel => exact ⟨_, (true), EQ, H', ⟨by first | omega | exact Nat.le_refl _⟩, by repeat (first | exact Drawn0.refl _ | apply Drawn0.step)⟩
  ·replace c5 := Bool.eq_false_iff.mpr c5
   subst c5
   have H1 : (impl_FitsPattern.j0 k a0 a1 true) = some r := by rw [if_neg (show ¬ (false = true) by decide)] at H; exact H
   clear H
   have H := H1
   clear H1
   have H' := Aside0.mk H
   clear H
   go_wp2_with (first | (go_at_call 72; (with_reducible refine (impl_IsPattern.calls k a0 false _ A4.out).mono ?_); rintro e w' ⟨rfl, ⟨nd, rfl⟩⟩; (try first | exact ⟨rfl, _, World.drewN_drewN _ _ _⟩ | exact ⟨rfl, _, Eq.trans (World.drewN_drewN _ _ _) (congrArg (World.drewN _) (Nat.add_assoc _ _ _))⟩)))
   repeat (go_quiet (first | (go_at_call 72; (with_reducible refine (impl_IsPattern.calls k a0 false _ A4.out).mono ?_); rintro e w' ⟨rfl, ⟨nd, rfl⟩⟩; (try first | exact ⟨rfl, _, World.drewN_drewN _ _ _⟩ | exact ⟨rfl, _, Eq.trans (World.drewN_drewN _ _ _) (congrArg (World.drewN _) (Nat.add_assoc _ _ _))⟩))); try go_wp2_with (first | (go_at_call 72; (with_reducible refine (impl_IsPattern.calls k a0 false _ A4.out).mono ?_); rintro e w' ⟨rfl, ⟨nd, rfl⟩⟩; (try first | exact ⟨rfl, _, World.drewN_drewN _ _ _⟩ | exact ⟨rfl, _, Eq.trans (World.drewN_drewN _ _ _) (congrArg (World.drewN _) (Nat.add_assoc _ _ _))⟩))))
   go_meet
   case rel => exact ⟨_, (true), EQ, H', ⟨by first | omega | exact Nat.le_refl _⟩, by repeat (first | exact Drawn0.refl _ | apply Drawn0.step)⟩
 case rest =>
  clear HC3
  obtain ⟨kq, x20_2, rfl, HA, HJ2, ⟨mc2, rfl⟩⟩ := hcut
  cases kq with
  | zero => exact absurd HA.out (by simp [impl_FitsPattern.j0])
  | succ kj2 =>
   have H := HA.out
   clear HA
   simp only [impl_FitsPattern.j0] at H
   by_cases c8 : x20_2 = true
   ·subst c8
    have H1 : (some false) = some r := by rw [if_pos rfl] at H; exact H
    clear H
    have H := H1
    clear H1
    obtain rfl := Option.some.inj H
    go_wp2
    repeat (go_quiet (fail); try go_wp2)
    go_ret
    exact ⟨by first | rfl | (simp; done) | (simp [*]; done), by repeat (first | exact Drawn0.refl _ | apply Drawn0.step)⟩
   ·replace c8 := Bool.eq_false_iff.mpr c8
    subst c8
    have H1 : (impl_FitsPattern.l0 kj2 a0 a1 (a0.size : Int) 0) = some r := by rw [if_neg (show ¬ (false = true) by decide)] at H; exact H
    clear H
    have H := H1
    clear H1
    have H' := Aside0.mk H
    clear H
    go_wp2
    repeat (go_quiet (fail); try go_wp2)
    go_loopg [23] kj2 (fun kq v23 w' => ∃ (x23_2 : Int), v23 = .int .i64 x23_2 ∧ Aside0 (impl_FitsPattern.l0 kq a0 a1 (a0.size : Int) x23_2 = some r) ∧ Aside0 (kq ≤ kj2) ∧ Drawn0 w w')
    case atStart => exact ⟨(0), EQ, H', ⟨Nat.le_refl _⟩, by repeat (first | exact Drawn0.refl _ | apply Drawn0.step)⟩
    case round =>
     clear H'
     try clear c8
     obtain ⟨x23_2, rfl, HA, HK2, ⟨m2, rfl⟩⟩ := hrel
     cases gk with
     | zero => exact absurd HA.out (by simp [impl_FitsPattern.l0])
     | succ k2 =>
      have H := HA.out
      clear HA
      simp only [impl_FitsPattern.l0] at H
      by_cases c9 : x23_2 < (a0.size : Int)
      ·rw [if_pos c9] at H
       have c9b0 : decide (x23_2 < (a0.size : Int)) = true := decide_eq_true c9
       clear c9
       by_cases c10 : 0 ≤ x23_2
       ·rw [if_pos c10] at H
        have c10b0 : decide (0 ≤ x23_2) = true := decide_eq_true c10
        clear c10
        by_cases c11 : x23_2 < (a0.size : Int)
        ·rw [if_pos c11] at H
         have c11b0 : decide (x23_2 < (a0.size : Int)) = true := decide_eq_true c11
         clear c11
         by_cases c13 : (bt a0 x23_2) = 63
         ·rw [if_pos c13] at H
          have c13b0 : ((bt a0 x23_2) == 63) = true := beq_iff_eq.mpr c13
          have c13b1 : ((bt a0 x23_2) != 63) = false := bne_eq_false_iff_eq.mpr c13
          clear c13
          have H' := Aside0.mk H
          clear H
          have p12 : 0 ≤ (x23_2 : Int) := OD
          have q12 : x23_2 < (a0.size : Int) := OD
          have hx12 := bt_at a0 x23_2
          replace p12 := eq_true p12
          replace q12 := eq_true q12
          go_wp2
          repeat (go_quiet (fail); try go_wp2)
          go_roundg k2
          case measure => have := HJ2.out; have := HK2.out; omega
          case rel => exact ⟨(wrap64 (x23_2 + 1)), EQ, H', ⟨by have := HJ2.out; have := HK2.out; omega⟩, by repeat (first | exact Drawn0.refl _ | apply Drawn0.step)⟩
         ·rw [if_neg c13] at H
          have c13b0 : ((bt a0 x23_2) == 63) = false := beq_eq_false_iff_ne.mpr c13
          have c13b1 : ((bt a0 x23_2) != 63) = true := bne_iff_ne.mpr c13
          by_cases c15 : x23_2 < (a1.size : Int)
          ·rw [if_pos c15] at H
           have c15b0 : decide (x23_2 < (a1.size : Int)) = true := decide_eq_true c15
           clear c15
           by_cases c17 : (bt a0 x23_2) = (bt a1 x23_2)
           ·rw [if_pos c17] at H
            have c17b0 : ((bt a0 x23_2) == (bt a1 x23_2)) = true := beq_iff_eq.mpr c17
            have c17b1 : ((bt a0 x23_2) != (bt a1 x23_2)) = false := bne_eq_false_iff_eq.mpr c17
            clear c17
            have H' := Aside0.mk H
            clear H
            have p12 : 0 ≤ (x23_2 : Int) := OD
            have q12 : x23_2 < (a0.size : Int) := OD
            have hx12 := bt_at a0 x23_2
            replace p12 := eq_true p12
            replace q12 := eq_true q12
            have p14 : 0 ≤ (x23_2 : Int) := OD
            have q14 : x23_2 < (a0.size : Int) := OD
            have hx14 := bt_at a0 x23_2
            replace p14 := eq_true p14
            replace q14 := eq_true q14
            have p16 : 0 ≤ (x23_2 : Int) := OD
            have q16 : x23_2 < (a1.size : Int) := OD
            have hx16 := bt_at a1 x23_2
            replace p16 := eq_true p16
            replace q16 := eq_true q16
            go_wp2
            repeat (go_quiet (fail); try go_wp2)
            go_roundg k2
            case measure => have := HJ2.out; have := HK2.out; omega
            case rel => exact ⟨(wrap64 (x23_2 + 1)), EQ, H', ⟨by have := HJ2.out; have := HK2.out; omega⟩, by repeat (first | exact Drawn0.refl _ | apply Drawn0.step)⟩
           ·rw [if_neg c17] at H
            have c17b0 : ((bt a0 x23_2) == (bt a1 x23_2)) = false := beq_eq_false_iff_ne.mpr c17
            have c17b1 : ((bt a0 x23_2) != (bt a1 x23_2)) = true := bne_iff_ne.mpr c17
            obtain rfl := Option.some.inj H
            have p12 : 0 ≤ (x23_2 : Int) := OD
            have q12 : x23_2 < (a0.size : Int) := OD
            have hx12 := bt_at a0 x23_2
            replace p12 := eq_true p12
            replace q12 := eq_true q12
            have p14 : 0 ≤ (x23_2 : Int) := OD
            have q14 : x23_2 < (a0.size : Int) := OD
            have hx14 := bt_at a0 x23_2
            replace p14 := eq_true p14
            replace q14 := eq_true q14
            have p16 : 0 ≤ (x23_2 : Int) := OD
            have q16 : x23_2 < (a1.size : Int) := OD
            have hx16 := bt_at a1 x23_2
            replace p16 := eq_true p16
            replace q16 := eq_true q16
            go_wp2
            repeat (go_quiet (fail); try go_wp2)
            go_ret
            exact ⟨by first | rfl | (simp; done) | (simp [*]; done), by repeat (first | exact Drawn0.refl _ | apply Drawn0.step)⟩
          ·rw [if_neg c15] at H
           exact absurd H (by simp)
        ·rw [if_neg c11] at H
         exact absurd H (by simp)
       ·rw [if_neg c10] at H
        exact absurd H (by simp)
      ·rw [if_neg c9] at H
       have c9b0 : decide (x23_2 < (a0.size : Int)) = false := decide_eq_false c9
       clear c9
       obtain rfl := Option.some.inj H
       go_wp2
       repeat (go_quiet (fail); try go_wp2)
       go_ret
       exact ⟨by first | rfl | (simp; done) | (simp [*]; done), by repeat (first | exact Drawn0.refl _ | apply Drawn0.step)⟩
def impl_GuessesFor.g0 (j : Nat) (a0_0 : Int) (l0_1 : List (S73)) (l1 : List (S54)) (a3 : ByteArray) (s : ByteArray) : Option Bool := (impl_FitsPattern.f j a3 s).bind fun p => if p = true then (some true) else some false
def impl_GuessesFor.g1 (j : Nat) (a0_0 : Int) (l0_1 : List (S73)) (l1 : List (S54)) (a3 : ByteArray) (s : ByteArray) : Option Bool := (impl_FitsPattern.f j a3 s).bind fun p => if p = true then (((impl_HasSense.f j l1 s a0_0).bind fun h => if h = true then (some true) else some false)) else some false
def impl_GuessesFor.g2 (j : Nat) (a0_0 : Int) (l0_1 : List (S73)) (l1 : List (S54)) (a3 : ByteArray) (s : ByteArray) : Option Bool := (impl_FitsPattern.f j a3 s).bind fun p => if p = true then ((impl_Makes.f j l0_1 s).bind fun m => some m) else some false
def impl_GuessesFor.g3 (j : Nat) (a0_0 : Int) (l0_1 : List (S73)) (l1 : List (S54)) (a3 : ByteArray) (s : ByteArray) : Option Bool := (impl_FitsPattern.f j a3 s).bind fun p => if p = true then (((impl_HasSense.f j l1 s a0_0).bind fun h => if h = true then ((impl_Makes.f j l0_1 s).bind fun m => some m) else some false)) else some false
def impl_GuessesFor.g (how : Int) (j : Nat) (a0_0 : Int) (l0_1 : List (S73)) (l1 : List (S54)) (a3 : ByteArray) (s : ByteArray) : Option Bool := if how = 0 then impl_GuessesFor.g0 j a0_0 l0_1 l1 a3 s else if how = 1 then impl_GuessesFor.g1 j a0_0 l0_1 l1 a3 s else if how = 2 then impl_GuessesFor.g2 j a0_0 l0_1 l1 a3 s else impl_GuessesFor.g3 j a0_0 l0_1 l1 a3 s
def impl_GuessesFor.f (k : Nat) (a0_0 : Int) (l0_1 : List (S73)) (l1 : List (S54)) (l2 : List ByteArray) (a3 : ByteArray) (a4 : Int) : Option (List ByteArray) := (impl_InRange.f a4 0 3).bind fun q => if q = true then ((impl_those.f k l2 (fun j s => impl_GuessesFor.g a4 j a0_0 l0_1 l1 a3 s)).bind fun t => impl_once.f k t) else some []
theorem run_mk0 (P : Program) (fn : Fn) (first cap : Array Value) (w : World) : (Instr.makeFunc fn first cap).run P w = .ok (.func fn first cap) w := rfl
attribute [local go_sem] run_mk0
set_option maxHeartbeats 8000000 in
set_option maxRecDepth 100000 in
theorem impl_GuessesFor.closure0 (j : Nat) (a0_0 : Int) (A0_1 : Option Addr) (c0_1 : Nat) (l0_1 : List (S73)) (A1 : Option Addr) (c1 : Nat) (l1 : List (S54)) (a3 : ByteArray) (s : ByteArray) (b : Bool) (W : World) (g0 : Nat) (g1 : Nat) (g2 : Nat) (g3 : Nat) (h0 : W.heap[g0]? = some (.cells #[.string a3] 9 (0, 0))) (h1 : W.heap[g1]? = some (.cells #[.int .i64 0] 3 (0, 0))) (h2 : W.heap[g2]? = some (.cells #[.slice A1 l1.length c1] 35 (0, 0))) (h3 : W.heap[g3]? = some (.cells #[.int .i64 a0_0, .slice A0_1 l0_1.length c0_1] 33 (0, 0))) (hr0_1 : Kd.C k73 W A0_1 l0_1.length l0_1) (hc0_1 : l0_1.length ≤ c0_1) (hr1 : Kd.C k54 W A1 l1.length l1) (hc1 : l1.length ≤ c1) (h : impl_GuessesFor.g0 j a0_0 l0_1 l1 a3 s = some b) :
  Calls Try.prog 58 #[.string s, .pointer (some ⟨g0, 0, none⟩), .pointer (some ⟨g1, 0, none⟩), .pointer (some ⟨g2, 0, none⟩), .pointer (some ⟨g3, 0, none⟩)] W fun e w' => e = .returned (.bool b) ∧ Below W.heap.size W w' := by
 have BK0 := Aside0.mk h0
 have BK1 := Aside0.mk h1
 have BK2 := Aside0.mk h2
 have BK3 := Aside0.mk h3
 have HB := Aside0.mk (Below.refl W.heap.size W)
 have HR0 := Aside0.mk hr0_1
 have HC0 := Aside0.mk hc0_1
 have HR1 := Aside0.mk hr1
 have HC1 := Aside0.mk hc1
 clear h0 h1 h2 h3 hr0_1 hc0_1 hr1 hc1
 have fpc : ∀ (p : Bool) (V : World), impl_FitsPattern.f j a3 s = some p → Calls Try.prog 59 #[.string a3, .string s] V fun e w' => e = .returned (.bool p) ∧ Below V.heap.size V w' := fun p V q => by first | exact impl_FitsPattern.calls j a3 s p V q | exact (impl_FitsPattern.calls j a3 s p V q).mono (fun e w' hq => ⟨hq.1, hq.2.below⟩)
 have FPC := Aside0.mk fpc
 clear fpc
 unfold impl_GuessesFor.g0 at h
 obtain ⟨p, hp1, h⟩ := Option.bind_eq_some_iff.mp h
 have HP1 := Aside0.mk hp1
 clear hp1
 cases p with
 | false =>
  rw [if_neg (by decide)] at h
  obtain rfl := Option.some.inj h
  clear h
  have hcz0i_0 : W.cell? ⟨g0, 0, none⟩ = some (.string a3) := (blk_cell BK0.out 0).trans rfl
  have hfz0i_0 := blk_frozen BK0.out 0
  have hcz1i_0 : W.cell? ⟨g1, 0, none⟩ = some (.int .i64 0) := (blk_cell BK1.out 0).trans rfl
  have hfz1i_0 := blk_frozen BK1.out 0
  have hcz2i_0 : W.cell? ⟨g2, 0, none⟩ = some (.slice A1 l1.length c1) := (blk_cell BK2.out 0).trans rfl
  have hfz2i_0 := blk_frozen BK2.out 0
  have hcz3i_0 : W.cell? ⟨g3, 0, none⟩ = some (.int .i64 a0_0) := (blk_cell BK3.out 0).trans rfl
  have hfz3i_0 := blk_frozen BK3.out 0
  have hcz3i_1 : W.cell? ⟨g3, 1, none⟩ = some (.slice A0_1 l0_1.length c0_1) := (blk_cell BK3.out 1).trans rfl
  have hfz3i_1 := blk_frozen BK3.out 1
  go_enter Try.func58, Try.ntmps58
  go_wp2_with (first | ((with_reducible refine gate_callee (f := 59) rfl ?_); refine goesL_ _ rfl rfl Try.func59 (by kernel_rfl) rfl #[.string a3, .string s] rfl (by (try simp only [List.map_toArray, List.map_cons, List.map_nil]); first | done | rfl | (simp only [List.length_drop, List.length_take]; rfl)) ?_; refine (FPC.out false _ HP1.out).mono ?_; rintro e w_ ⟨rfl, hb⟩; refine ⟨_, rfl, ?_⟩; have n0_ := BS (w := W) hb; have m0_ := Aside0.mk (blk_below (g := g0) (o := .cells #[.string a3] 9 (0, 0)) BK hb); have m1_ := Aside0.mk (blk_below (g := g1) (o := .cells #[.int .i64 0] 3 (0, 0)) BK hb); have m2_ := Aside0.mk (blk_below (g := g2) (o := .cells #[.slice A1 l1.length c1] 35 (0, 0)) BK hb); have m3_ := Aside0.mk (blk_below (g := g3) (o := .cells #[.int .i64 a0_0, .slice A0_1 l0_1.length c0_1] 33 (0, 0)) BK hb); clear HB BK0 BK1 BK2 BK3; have HB := n0_; have BK0 := m0_; have BK1 := m1_; have BK2 := m2_; have BK3 := m3_; clear n0_ m0_ m1_ m2_ m3_; have hcz0u0_0 : w_.cell? ⟨g0, 0, none⟩ = some (.string a3) := (blk_cell BK0.out 0).trans rfl; have hfz0u0_0 := blk_frozen BK0.out 0; have hcz1u0_0 : w_.cell? ⟨g1, 0, none⟩ = some (.int .i64 0) := (blk_cell BK1.out 0).trans rfl; have hfz1u0_0 := blk_frozen BK1.out 0; have hcz2u0_0 : w_.cell? ⟨g2, 0, none⟩ = some (.slice A1 l1.length c1) := (blk_cell BK2.out 0).trans rfl; have hfz2u0_0 := blk_frozen BK2.out 0; have hcz3u0_0 : w_.cell? ⟨g3, 0, none⟩ = some (.int .i64 a0_0) := (blk_cell BK3.out 0).trans rfl; have hfz3u0_0 := blk_frozen BK3.out 0; have hcz3u0_1 : w_.cell? ⟨g3, 1, none⟩ = some (.slice A0_1 l0_1.length c0_1) := (blk_cell BK3.out 1).trans rfl; have hfz3u0_1 := blk_frozen BK3.out 1; clear hb))
  go_ret
  exact ⟨rfl, BL⟩
 | true =>
  rw [if_pos rfl] at h
  obtain rfl := Option.some.inj h
  clear h
  have hcz0i_0 : W.cell? ⟨g0, 0, none⟩ = some (.string a3) := (blk_cell BK0.out 0).trans rfl
  have hfz0i_0 := blk_frozen BK0.out 0
  have hcz1i_0 : W.cell? ⟨g1, 0, none⟩ = some (.int .i64 0) := (blk_cell BK1.out 0).trans rfl
  have hfz1i_0 := blk_frozen BK1.out 0
  have hcz2i_0 : W.cell? ⟨g2, 0, none⟩ = some (.slice A1 l1.length c1) := (blk_cell BK2.out 0).trans rfl
  have hfz2i_0 := blk_frozen BK2.out 0
  have hcz3i_0 : W.cell? ⟨g3, 0, none⟩ = some (.int .i64 a0_0) := (blk_cell BK3.out 0).trans rfl
  have hfz3i_0 := blk_frozen BK3.out 0
  have hcz3i_1 : W.cell? ⟨g3, 1, none⟩ = some (.slice A0_1 l0_1.length c0_1) := (blk_cell BK3.out 1).trans rfl
  have hfz3i_1 := blk_frozen BK3.out 1
  go_enter Try.func58, Try.ntmps58
  go_wp2_with (first | ((with_reducible refine gate_callee (f := 59) rfl ?_); refine goesL_ _ rfl rfl Try.func59 (by kernel_rfl) rfl #[.string a3, .string s] rfl (by (try simp only [List.map_toArray, List.map_cons, List.map_nil]); first | done | rfl | (simp only [List.length_drop, List.length_take]; rfl)) ?_; refine (FPC.out true _ HP1.out).mono ?_; rintro e w_ ⟨rfl, hb⟩; refine ⟨_, rfl, ?_⟩; have n0_ := BS (w := W) hb; have m0_ := Aside0.mk (blk_below (g := g0) (o := .cells #[.string a3] 9 (0, 0)) BK hb); have m1_ := Aside0.mk (blk_below (g := g1) (o := .cells #[.int .i64 0] 3 (0, 0)) BK hb); have m2_ := Aside0.mk (blk_below (g := g2) (o := .cells #[.slice A1 l1.length c1] 35 (0, 0)) BK hb); have m3_ := Aside0.mk (blk_below (g := g3) (o := .cells #[.int .i64 a0_0, .slice A0_1 l0_1.length c0_1] 33 (0, 0)) BK hb); clear HB BK0 BK1 BK2 BK3; have HB := n0_; have BK0 := m0_; have BK1 := m1_; have BK2 := m2_; have BK3 := m3_; clear n0_ m0_ m1_ m2_ m3_; have hcz0u0_0 : w_.cell? ⟨g0, 0, none⟩ = some (.string a3) := (blk_cell BK0.out 0).trans rfl; have hfz0u0_0 := blk_frozen BK0.out 0; have hcz1u0_0 : w_.cell? ⟨g1, 0, none⟩ = some (.int .i64 0) := (blk_cell BK1.out 0).trans rfl; have hfz1u0_0 := blk_frozen BK1.out 0; have hcz2u0_0 : w_.cell? ⟨g2, 0, none⟩ = some (.slice A1 l1.length c1) := (blk_cell BK2.out 0).trans rfl; have hfz2u0_0 := blk_frozen BK2.out 0; have hcz3u0_0 : w_.cell? ⟨g3, 0, none⟩ = some (.int .i64 a0_0) := (blk_cell BK3.out 0).trans rfl; have hfz3u0_0 := blk_frozen BK3.out 0; have hcz3u0_1 : w_.cell? ⟨g3, 1, none⟩ = some (.slice A0_1 l0_1.length c0_1) := (blk_cell BK3.out 1).trans rfl; have hfz3u0_1 := blk_frozen BK3.out 1; clear hb))
  go_ret
  exact ⟨rfl, BL⟩
set_option maxHeartbeats 8000000 in
set_option maxRecDepth 100000 in
theorem impl_GuessesFor.closure1 (j : Nat) (a0_0 : Int) (A0_1 : Option Addr) (c0_1 : Nat) (l0_1 : List (S73)) (A1 : Option Addr) (c1 : Nat) (l1 : List (S54)) (a3 : ByteArray) (s : ByteArray) (b : Bool) (W : World) (g0 : Nat) (g1 : Nat) (g2 : Nat) (g3 : Nat) (h0 : W.heap[g0]? = some (.cells #[.string a3] 9 (0, 0))) (h1 : W.heap[g1]? = some (.cells #[.int .i64 1] 3 (0, 0))) (h2 : W.heap[g2]? = some (.cells #[.slice A1 l1.length c1] 35 (0, 0))) (h3 : W.heap[g3]? = some (.cells #[.int .i64 a0_0, .slice A0_1 l0_1.length c0_1] 33 (0, 0))) (hr0_1 : Kd.C k73 W A0_1 l0_1.length l0_1) (hc0_1 : l0_1.length ≤ c0_1) (hr1 : Kd.C k54 W A1 l1.length l1) (hc1 : l1.length ≤ c1) (h : impl_GuessesFor.g1 j a0_0 l0_1 l1 a3 s = some b) :
  Calls Try.prog 58 #[.string s, .pointer (some ⟨g0, 0, none⟩), .pointer (some ⟨g1, 0, none⟩), .pointer (some ⟨g2, 0, none⟩), .pointer (some ⟨g3, 0, none⟩)] W fun e w' => e = .returned (.bool b) ∧ Below W.heap.size W w' := by
 have BK0 := Aside0.mk h0
 have BK1 := Aside0.mk h1
 have BK2 := Aside0.mk h2
 have BK3 := Aside0.mk h3
 have HB := Aside0.mk (Below.refl W.heap.size W)
 have HR0 := Aside0.mk hr0_1
 have HC0 := Aside0.mk hc0_1
 have HR1 := Aside0.mk hr1
 have HC1 := Aside0.mk hc1
 clear h0 h1 h2 h3 hr0_1 hc0_1 hr1 hc1
 have fpc : ∀ (p : Bool) (V : World), impl_FitsPattern.f j a3 s = some p → Calls Try.prog 59 #[.string a3, .string s] V fun e w' => e = .returned (.bool p) ∧ Below V.heap.size V w' := fun p V q => by first | exact impl_FitsPattern.calls j a3 s p V q | exact (impl_FitsPattern.calls j a3 s p V q).mono (fun e w' hq => ⟨hq.1, hq.2.below⟩)
 have hsc : ∀ (p : Bool) (V : World), Below W.heap.size W V → impl_HasSense.f j l1 s a0_0 = some p → Calls Try.prog 50 #[.slice A1 l1.length c1, .string s, .int .i64 a0_0] V fun e w' => e = .returned (.bool p) ∧ Below V.heap.size V w' := fun p V hv q => by first | exact impl_HasSense.calls j _ _ l1 s a0_0 p V (Kd.C_below HR1.out hv) HC1.out q | exact (impl_HasSense.calls j _ _ l1 s a0_0 p V (Kd.C_below HR1.out hv) HC1.out q).mono (fun e w' hq => ⟨hq.1, hq.2.below⟩)
 have FPC := Aside0.mk fpc
 clear fpc
 have HSC := Aside0.mk hsc
 clear hsc
 unfold impl_GuessesFor.g1 at h
 obtain ⟨p, hp1, h⟩ := Option.bind_eq_some_iff.mp h
 have HP1 := Aside0.mk hp1
 clear hp1
 cases p with
 | false =>
  rw [if_neg (by decide)] at h
  obtain rfl := Option.some.inj h
  clear h
  have hcz0i_0 : W.cell? ⟨g0, 0, none⟩ = some (.string a3) := (blk_cell BK0.out 0).trans rfl
  have hfz0i_0 := blk_frozen BK0.out 0
  have hcz1i_0 : W.cell? ⟨g1, 0, none⟩ = some (.int .i64 1) := (blk_cell BK1.out 0).trans rfl
  have hfz1i_0 := blk_frozen BK1.out 0
  have hcz2i_0 : W.cell? ⟨g2, 0, none⟩ = some (.slice A1 l1.length c1) := (blk_cell BK2.out 0).trans rfl
  have hfz2i_0 := blk_frozen BK2.out 0
  have hcz3i_0 : W.cell? ⟨g3, 0, none⟩ = some (.int .i64 a0_0) := (blk_cell BK3.out 0).trans rfl
  have hfz3i_0 := blk_frozen BK3.out 0
  have hcz3i_1 : W.cell? ⟨g3, 1, none⟩ = some (.slice A0_1 l0_1.length c0_1) := (blk_cell BK3.out 1).trans rfl
  have hfz3i_1 := blk_frozen BK3.out 1
  go_enter Try.func58, Try.ntmps58
  go_wp2_with (first | ((with_reducible refine gate_callee (f := 59) rfl ?_); refine goesL_ _ rfl rfl Try.func59 (by kernel_rfl) rfl #[.string a3, .string s] rfl (by (try simp only [List.map_toArray, List.map_cons, List.map_nil]); first | done | rfl | (simp only [List.length_drop, List.length_take]; rfl)) ?_; refine (FPC.out false _ HP1.out).mono ?_; rintro e w_ ⟨rfl, hb⟩; refine ⟨_, rfl, ?_⟩; have n0_ := BS (w := W) hb; have m0_ := Aside0.mk (blk_below (g := g0) (o := .cells #[.string a3] 9 (0, 0)) BK hb); have m1_ := Aside0.mk (blk_below (g := g1) (o := .cells #[.int .i64 1] 3 (0, 0)) BK hb); have m2_ := Aside0.mk (blk_below (g := g2) (o := .cells #[.slice A1 l1.length c1] 35 (0, 0)) BK hb); have m3_ := Aside0.mk (blk_below (g := g3) (o := .cells #[.int .i64 a0_0, .slice A0_1 l0_1.length c0_1] 33 (0, 0)) BK hb); clear HB BK0 BK1 BK2 BK3; have HB := n0_; have BK0 := m0_; have BK1 := m1_; have BK2 := m2_; have BK3 := m3_; clear n0_ m0_ m1_ m2_ m3_; have hcz0u0_0 : w_.cell? ⟨g0, 0, none⟩ = some (.string a3) := (blk_cell BK0.out 0).trans rfl; have hfz0u0_0 := blk_frozen BK0.out 0; have hcz1u0_0 : w_.cell? ⟨g1, 0, none⟩ = some (.int .i64 1) := (blk_cell BK1.out 0).trans rfl; have hfz1u0_0 := blk_frozen BK1.out 0; have hcz2u0_0 : w_.cell? ⟨g2, 0, none⟩ = some (.slice A1 l1.length c1) := (blk_cell BK2.out 0).trans rfl; have hfz2u0_0 := blk_frozen BK2.out 0; have hcz3u0_0 : w_.cell? ⟨g3, 0, none⟩ = some (.int .i64 a0_0) := (blk_cell BK3.out 0).trans rfl; have hfz3u0_0 := blk_frozen BK3.out 0; have hcz3u0_1 : w_.cell? ⟨g3, 1, none⟩ = some (.slice A0_1 l0_1.length c0_1) := (blk_cell BK3.out 1).trans rfl; have hfz3u0_1 := blk_frozen BK3.out 1; clear hb))
  go_ret
  exact ⟨rfl, BL⟩
 | true =>
  rw [if_pos rfl] at h
  obtain ⟨v, hp2, h⟩ := Option.bind_eq_some_iff.mp h
  have HP2 := Aside0.mk hp2
  clear hp2
  cases v with
  | false =>
   rw [if_neg (by decide)] at h
   obtain rfl := Option.some.inj h
   clear h
   have hcz0i_0 : W.cell? ⟨g0, 0, none⟩ = some (.string a3) := (blk_cell BK0.out 0).trans rfl
   have hfz0i_0 := blk_frozen BK0.out 0
   have hcz1i_0 : W.cell? ⟨g1, 0, none⟩ = some (.int .i64 1) := (blk_cell BK1.out 0).trans rfl
   have hfz1i_0 := blk_frozen BK1.out 0
   have hcz2i_0 : W.cell? ⟨g2, 0, none⟩ = some (.slice A1 l1.length c1) := (blk_cell BK2.out 0).trans rfl
   have hfz2i_0 := blk_frozen BK2.out 0
   have hcz3i_0 : W.cell? ⟨g3, 0, none⟩ = some (.int .i64 a0_0) := (blk_cell BK3.out 0).trans rfl
   have hfz3i_0 := blk_frozen BK3.out 0
   have hcz3i_1 : W.cell? ⟨g3, 1, none⟩ = some (.slice A0_1 l0_1.length c0_1) := (blk_cell BK3.out 1).trans rfl
   have hfz3i_1 := blk_frozen BK3.out 1
   go_enter Try.func58, Try.ntmps58
   go_wp2_with (first | ((with_reducible refine gate_callee (f := 59) rfl ?_); refine goesL_ _ rfl rfl Try.func59 (by kernel_rfl) rfl #[.string a3, .string s] rfl (by (try simp only [List.map_toArray, List.map_cons, List.map_nil]); first | done | rfl | (simp only [List.length_drop, List.length_take]; rfl)) ?_; refine (FPC.out true _ HP1.out).mono ?_; rintro e w_ ⟨rfl, hb⟩; refine ⟨_, rfl, ?_⟩; have n0_ := BS (w := W) hb; have m0_ := Aside0.mk (blk_below (g := g0) (o := .cells #[.string a3] 9 (0, 0)) BK hb); have m1_ := Aside0.mk (blk_below (g := g1) (o := .cells #[.int .i64 1] 3 (0, 0)) BK hb); have m2_ := Aside0.mk (blk_below (g := g2) (o := .cells #[.slice A1 l1.length c1] 35 (0, 0)) BK hb); have m3_ := Aside0.mk (blk_below (g := g3) (o := .cells #[.int .i64 a0_0, .slice A0_1 l0_1.length c0_1] 33 (0, 0)) BK hb); clear HB BK0 BK1 BK2 BK3; have HB := n0_; have BK0 := m0_; have BK1 := m1_; have BK2 := m2_; have BK3 := m3_; clear n0_ m0_ m1_ m2_ m3_; have hcz0u0_0 : w_.cell? ⟨g0, 0, none⟩ = some (.string a3) := (blk_cell BK0.out 0).trans rfl; have hfz0u0_0 := blk_frozen BK0.out 0; have hcz1u0_0 : w_.cell? ⟨g1, 0, none⟩ = some (.int .i64 1) := (blk_cell BK1.out 0).trans rfl; have hfz1u0_0 := blk_frozen BK1.out 0; have hcz2u0_0 : w_.cell? ⟨g2, 0, none⟩ = some (.slice A1 l1.length c1) := (blk_cell BK2.out 0).trans rfl; have hfz2u0_0 := blk_frozen BK2.out 0; have hcz3u0_0 : w_.cell? ⟨g3, 0, none⟩ = some (.int .i64 a0_0) := (blk_cell BK3.out 0).trans rfl; have hfz3u0_0 := blk_frozen BK3.out 0; have hcz3u0_1 : w_.cell? ⟨g3, 1, none⟩ = some (.slice A0_1 l0_1.length c0_1) := (blk_cell BK3.out 1).trans rfl; have hfz3u0_1 := blk_frozen BK3.out 1; clear hb) | (go_at_call 50; refine (HSC.out false _ BL HP2.out).mono ?_; rintro e w_ ⟨rfl, hb⟩; have n0_ := BS (w := W) hb; have m0_ := Aside0.mk (blk_below (g := g0) (o := .cells #[.string a3] 9 (0, 0)) BK hb); have m1_ := Aside0.mk (blk_below (g := g1) (o := .cells #[.int .i64 1] 3 (0, 0)) BK hb); have m2_ := Aside0.mk (blk_below (g := g2) (o := .cells #[.slice A1 l1.length c1] 35 (0, 0)) BK hb); have m3_ := Aside0.mk (blk_below (g := g3) (o := .cells #[.int .i64 a0_0, .slice A0_1 l0_1.length c0_1] 33 (0, 0)) BK hb); clear HB BK0 BK1 BK2 BK3; have HB := n0_; have BK0 := m0_; have BK1 := m1_; have BK2 := m2_; have BK3 := m3_; clear n0_ m0_ m1_ m2_ m3_; have hcz0u1_0 : w_.cell? ⟨g0, 0, none⟩ = some (.string a3) := (blk_cell BK0.out 0).trans rfl; have hfz0u1_0 := blk_frozen BK0.out 0; have hcz1u1_0 : w_.cell? ⟨g1, 0, none⟩ = some (.int .i64 1) := (blk_cell BK1.out 0).trans rfl; have hfz1u1_0 := blk_frozen BK1.out 0; have hcz2u1_0 : w_.cell? ⟨g2, 0, none⟩ = some (.slice A1 l1.length c1) := (blk_cell BK2.out 0).trans rfl; have hfz2u1_0 := blk_frozen BK2.out 0; have hcz3u1_0 : w_.cell? ⟨g3, 0, none⟩ = some (.int .i64 a0_0) := (blk_cell BK3.out 0).trans rfl; have hfz3u1_0 := blk_frozen BK3.out 0; have hcz3u1_1 : w_.cell? ⟨g3, 1, none⟩ = some (.slice A0_1 l0_1.length c0_1) := (blk_cell BK3.out 1).trans rfl; have hfz3u1_1 := blk_frozen BK3.out 1; clear hb))
   go_ret
   exact ⟨rfl, BL⟩
  | true =>
   rw [if_pos rfl] at h
   obtain rfl := Option.some.inj h
   clear h
   have hcz0i_0 : W.cell? ⟨g0, 0, none⟩ = some (.string a3) := (blk_cell BK0.out 0).trans rfl
   have hfz0i_0 := blk_frozen BK0.out 0
   have hcz1i_0 : W.cell? ⟨g1, 0, none⟩ = some (.int .i64 1) := (blk_cell BK1.out 0).trans rfl
   have hfz1i_0 := blk_frozen BK1.out 0
   have hcz2i_0 : W.cell? ⟨g2, 0, none⟩ = some (.slice A1 l1.length c1) := (blk_cell BK2.out 0).trans rfl
   have hfz2i_0 := blk_frozen BK2.out 0
   have hcz3i_0 : W.cell? ⟨g3, 0, none⟩ = some (.int .i64 a0_0) := (blk_cell BK3.out 0).trans rfl
   have hfz3i_0 := blk_frozen BK3.out 0
   have hcz3i_1 : W.cell? ⟨g3, 1, none⟩ = some (.slice A0_1 l0_1.length c0_1) := (blk_cell BK3.out 1).trans rfl
   have hfz3i_1 := blk_frozen BK3.out 1
   go_enter Try.func58, Try.ntmps58
   go_wp2_with (first | ((with_reducible refine gate_callee (f := 59) rfl ?_); refine goesL_ _ rfl rfl Try.func59 (by kernel_rfl) rfl #[.string a3, .string s] rfl (by (try simp only [List.map_toArray, List.map_cons, List.map_nil]); first | done | rfl | (simp only [List.length_drop, List.length_take]; rfl)) ?_; refine (FPC.out true _ HP1.out).mono ?_; rintro e w_ ⟨rfl, hb⟩; refine ⟨_, rfl, ?_⟩; have n0_ := BS (w := W) hb; have m0_ := Aside0.mk (blk_below (g := g0) (o := .cells #[.string a3] 9 (0, 0)) BK hb); have m1_ := Aside0.mk (blk_below (g := g1) (o := .cells #[.int .i64 1] 3 (0, 0)) BK hb); have m2_ := Aside0.mk (blk_below (g := g2) (o := .cells #[.slice A1 l1.length c1] 35 (0, 0)) BK hb); have m3_ := Aside0.mk (blk_below (g := g3) (o := .cells #[.int .i64 a0_0, .slice A0_1 l0_1.length c0_1] 33 (0, 0)) BK hb); clear HB BK0 BK1 BK2 BK3; have HB := n0_; have BK0 := m0_; have BK1 := m1_; have BK2 := m2_; have BK3 := m3_; clear n0_ m0_ m1_ m2_ m3_; have hcz0u0_0 : w_.cell? ⟨g0, 0, none⟩ = some (.string a3) := (blk_cell BK0.out 0).trans rfl; have hfz0u0_0 := blk_frozen BK0.out 0; have hcz1u0_0 : w_.cell? ⟨g1, 0, none⟩ = some (.int .i64 1) := (blk_cell BK1.out 0).trans rfl; have hfz1u0_0 := blk_frozen BK1.out 0; have hcz2u0_0 : w_.cell? ⟨g2, 0, none⟩ = some (.slice A1 l1.length c1) := (blk_cell BK2.out 0).trans rfl; have hfz2u0_0 := blk_frozen BK2.out 0; have hcz3u0_0 : w_.cell? ⟨g3, 0, none⟩ = some (.int .i64 a0_0) := (blk_cell BK3.out 0).trans rfl; have hfz3u0_0 := blk_frozen BK3.out 0; have hcz3u0_1 : w_.cell? ⟨g3, 1, none⟩ = some (.slice A0_1 l0_1.length c0_1) := (blk_cell BK3.out 1).trans rfl; have hfz3u0_1 := blk_frozen BK3.out 1; clear hb) | (go_at_call 50; refine (HSC.out true _ BL HP2.out).mono ?_; rintro e w_ ⟨rfl, hb⟩; have n0_ := BS (w := W) hb; have m0_ := Aside0.mk (blk_below (g := g0) (o := .cells #[.string a3] 9 (0, 0)) BK hb); have m1_ := Aside0.mk (blk_below (g := g1) (o := .cells #[.int .i64 1] 3 (0, 0)) BK hb); have m2_ := Aside0.mk (blk_below (g := g2) (o := .cells #[.slice A1 l1.length c1] 35 (0, 0)) BK hb); have m3_ := Aside0.mk (blk_below (g := g3) (o := .cells #[.int .i64 a0_0, .slice A0_1 l0_1.length c0_1] 33 (0, 0)) BK hb); clear HB BK0 BK1 BK2 BK3; have HB := n0_; have BK0 := m0_; have BK1 := m1_; have BK2 := m2_; have BK3 := m3_; clear n0_ m0_ m1_ m2_ m3_; have hcz0u1_0 : w_.cell? ⟨g0, 0, none⟩ = some (.string a3) := (blk_cell BK0.out 0).trans rfl; have hfz0u1_0 := blk_frozen BK0.out 0; have hcz1u1_0 : w_.cell? ⟨g1, 0, none⟩ = some (.int .i64 1) := (blk_cell BK1.out 0).trans rfl; have hfz1u1_0 := blk_frozen BK1.out 0; have hcz2u1_0 : w_.cell? ⟨g2, 0, none⟩ = some (.slice A1 l1.length c1) := (blk_cell BK2.out 0).trans rfl; have hfz2u1_0 := blk_frozen BK2.out 0; have hcz3u1_0 : w_.cell? ⟨g3, 0, none⟩ = some (.int .i64 a0_0) := (blk_cell BK3.out 0).trans rfl; have hfz3u1_0 := blk_frozen BK3.out 0; have hcz3u1_1 : w_.cell? ⟨g3, 1, none⟩ = some (.slice A0_1 l0_1.length c0_1) := (blk_cell BK3.out 1).trans rfl; have hfz3u1_1 := blk_frozen BK3.out 1; clear hb))
   go_ret
   exact ⟨rfl, BL⟩
set_option maxHeartbeats 8000000 in
set_option maxRecDepth 100000 in
theorem impl_GuessesFor.closure2 (j : Nat) (a0_0 : Int) (A0_1 : Option Addr) (c0_1 : Nat) (l0_1 : List (S73)) (A1 : Option Addr) (c1 : Nat) (l1 : List (S54)) (a3 : ByteArray) (s : ByteArray) (b : Bool) (W : World) (g0 : Nat) (g1 : Nat) (g2 : Nat) (g3 : Nat) (h0 : W.heap[g0]? = some (.cells #[.string a3] 9 (0, 0))) (h1 : W.heap[g1]? = some (.cells #[.int .i64 2] 3 (0, 0))) (h2 : W.heap[g2]? = some (.cells #[.slice A1 l1.length c1] 35 (0, 0))) (h3 : W.heap[g3]? = some (.cells #[.int .i64 a0_0, .slice A0_1 l0_1.length c0_1] 33 (0, 0))) (hr0_1 : Kd.C k73 W A0_1 l0_1.length l0_1) (hc0_1 : l0_1.length ≤ c0_1) (hr1 : Kd.C k54 W A1 l1.length l1) (hc1 : l1.length ≤ c1) (h : impl_GuessesFor.g2 j a0_0 l0_1 l1 a3 s = some b) :
  Calls Try.prog 58 #[.string s, .pointer (some ⟨g0, 0, none⟩), .pointer (some ⟨g1, 0, none⟩), .pointer (some ⟨g2, 0, none⟩), .pointer (some ⟨g3, 0, none⟩)] W fun e w' => e = .returned (.bool b) ∧ Below W.heap.size W w' := by
 have BK0 := Aside0.mk h0
 have BK1 := Aside0.mk h1
 have BK2 := Aside0.mk h2
 have BK3 := Aside0.mk h3
 have HB := Aside0.mk (Below.refl W.heap.size W)
 have HR0 := Aside0.mk hr0_1
 have HC0 := Aside0.mk hc0_1
 have HR1 := Aside0.mk hr1
 have HC1 := Aside0.mk hc1
 clear h0 h1 h2 h3 hr0_1 hc0_1 hr1 hc1
 have fpc : ∀ (p : Bool) (V : World), impl_FitsPattern.f j a3 s = some p → Calls Try.prog 59 #[.string a3, .string s] V fun e w' => e = .returned (.bool p) ∧ Below V.heap.size V w' := fun p V q => by first | exact impl_FitsPattern.calls j a3 s p V q | exact (impl_FitsPattern.calls j a3 s p V q).mono (fun e w' hq => ⟨hq.1, hq.2.below⟩)
 have mkc : ∀ (p : Bool) (V : World), Below W.heap.size W V → impl_Makes.f j l0_1 s = some p → Calls Try.prog 51 #[.slice A0_1 l0_1.length c0_1, .string s] V fun e w' => e = .returned (.bool p) ∧ Below V.heap.size V w' := fun p V hv q => by first | exact impl_Makes.calls j _ _ l0_1 s p V (Kd.C_below HR0.out hv) HC0.out q | exact (impl_Makes.calls j _ _ l0_1 s p V (Kd.C_below HR0.out hv) HC0.out q).mono (fun e w' hq => ⟨hq.1, hq.2.below⟩)
 have FPC := Aside0.mk fpc
 clear fpc
 have MKC := Aside0.mk mkc
 clear mkc
 unfold impl_GuessesFor.g2 at h
 obtain ⟨p, hp1, h⟩ := Option.bind_eq_some_iff.mp h
 have HP1 := Aside0.mk hp1
 clear hp1
 cases p with
 | false =>
  rw [if_neg (by decide)] at h
  obtain rfl := Option.some.inj h
  clear h
  have hcz0i_0 : W.cell? ⟨g0, 0, none⟩ = some (.string a3) := (blk_cell BK0.out 0).trans rfl
  have hfz0i_0 := blk_frozen BK0.out 0
  have hcz1i_0 : W.cell? ⟨g1, 0, none⟩ = some (.int .i64 2) := (blk_cell BK1.out 0).trans rfl
  have hfz1i_0 := blk_frozen BK1.out 0
  have hcz2i_0 : W.cell? ⟨g2, 0, none⟩ = some (.slice A1 l1.length c1) := (blk_cell BK2.out 0).trans rfl
  have hfz2i_0 := blk_frozen BK2.out 0
  have hcz3i_0 : W.cell? ⟨g3, 0, none⟩ = some (.int .i64 a0_0) := (blk_cell BK3.out 0).trans rfl
  have hfz3i_0 := blk_frozen BK3.out 0
  have hcz3i_1 : W.cell? ⟨g3, 1, none⟩ = some (.slice A0_1 l0_1.length c0_1) := (blk_cell BK3.out 1).trans rfl
  have hfz3i_1 := blk_frozen BK3.out 1
  go_enter Try.func58, Try.ntmps58
  go_wp2_with (first | ((with_reducible refine gate_callee (f := 59) rfl ?_); refine goesL_ _ rfl rfl Try.func59 (by kernel_rfl) rfl #[.string a3, .string s] rfl (by (try simp only [List.map_toArray, List.map_cons, List.map_nil]); first | done | rfl | (simp only [List.length_drop, List.length_take]; rfl)) ?_; refine (FPC.out false _ HP1.out).mono ?_; rintro e w_ ⟨rfl, hb⟩; refine ⟨_, rfl, ?_⟩; have n0_ := BS (w := W) hb; have m0_ := Aside0.mk (blk_below (g := g0) (o := .cells #[.string a3] 9 (0, 0)) BK hb); have m1_ := Aside0.mk (blk_below (g := g1) (o := .cells #[.int .i64 2] 3 (0, 0)) BK hb); have m2_ := Aside0.mk (blk_below (g := g2) (o := .cells #[.slice A1 l1.length c1] 35 (0, 0)) BK hb); have m3_ := Aside0.mk (blk_below (g := g3) (o := .cells #[.int .i64 a0_0, .slice A0_1 l0_1.length c0_1] 33 (0, 0)) BK hb); clear HB BK0 BK1 BK2 BK3; have HB := n0_; have BK0 := m0_; have BK1 := m1_; have BK2 := m2_; have BK3 := m3_; clear n0_ m0_ m1_ m2_ m3_; have hcz0u0_0 : w_.cell? ⟨g0, 0, none⟩ = some (.string a3) := (blk_cell BK0.out 0).trans rfl; have hfz0u0_0 := blk_frozen BK0.out 0; have hcz1u0_0 : w_.cell? ⟨g1, 0, none⟩ = some (.int .i64 2) := (blk_cell BK1.out 0).trans rfl; have hfz1u0_0 := blk_frozen BK1.out 0; have hcz2u0_0 : w_.cell? ⟨g2, 0, none⟩ = some (.slice A1 l1.length c1) := (blk_cell BK2.out 0).trans rfl; have hfz2u0_0 := blk_frozen BK2.out 0; have hcz3u0_0 : w_.cell? ⟨g3, 0, none⟩ = some (.int .i64 a0_0) := (blk_cell BK3.out 0).trans rfl; have hfz3u0_0 := blk_frozen BK3.out 0; have hcz3u0_1 : w_.cell? ⟨g3, 1, none⟩ = some (.slice A0_1 l0_1.length c0_1) := (blk_cell BK3.out 1).trans rfl; have hfz3u0_1 := blk_frozen BK3.out 1; clear hb))
  go_ret
  exact ⟨rfl, BL⟩
 | true =>
  rw [if_pos rfl] at h
  obtain ⟨m, hp3, h⟩ := Option.bind_eq_some_iff.mp h
  obtain rfl := Option.some.inj h
  have HP3 := Aside0.mk hp3
  clear h hp3
  have hcz0i_0 : W.cell? ⟨g0, 0, none⟩ = some (.string a3) := (blk_cell BK0.out 0).trans rfl
  have hfz0i_0 := blk_frozen BK0.out 0
  have hcz1i_0 : W.cell? ⟨g1, 0, none⟩ = some (.int .i64 2) := (blk_cell BK1.out 0).trans rfl
  have hfz1i_0 := blk_frozen BK1.out 0
  have hcz2i_0 : W.cell? ⟨g2, 0, none⟩ = some (.slice A1 l1.length c1) := (blk_cell BK2.out 0).trans rfl
  have hfz2i_0 := blk_frozen BK2.out 0
  have hcz3i_0 : W.cell? ⟨g3, 0, none⟩ = some (.int .i64 a0_0) := (blk_cell BK3.out 0).trans rfl
  have hfz3i_0 := blk_frozen BK3.out 0
  have hcz3i_1 : W.cell? ⟨g3, 1, none⟩ = some (.slice A0_1 l0_1.length c0_1) := (blk_cell BK3.out 1).trans rfl
  have hfz3i_1 := blk_frozen BK3.out 1
  go_enter Try.func58, Try.ntmps58
  go_wp2_with (first | ((with_reducible refine gate_callee (f := 59) rfl ?_); refine goesL_ _ rfl rfl Try.func59 (by kernel_rfl) rfl #[.string a3, .string s] rfl (by (try simp only [List.map_toArray, List.map_cons, List.map_nil]); first | done | rfl | (simp only [List.length_drop, List.length_take]; rfl)) ?_; refine (FPC.out true _ HP1.out).mono ?_; rintro e w_ ⟨rfl, hb⟩; refine ⟨_, rfl, ?_⟩; have n0_ := BS (w := W) hb; have m0_ := Aside0.mk (blk_below (g := g0) (o := .cells #[.string a3] 9 (0, 0)) BK hb); have m1_ := Aside0.mk (blk_below (g := g1) (o := .cells #[.int .i64 2] 3 (0, 0)) BK hb); have m2_ := Aside0.mk (blk_below (g := g2) (o := .cells #[.slice A1 l1.length c1] 35 (0, 0)) BK hb); have m3_ := Aside0.mk (blk_below (g := g3) (o := .cells #[.int .i64 a0_0, .slice A0_1 l0_1.length c0_1] 33 (0, 0)) BK hb); clear HB BK0 BK1 BK2 BK3; have HB := n0_; have BK0 := m0_; have BK1 := m1_; have BK2 := m2_; have BK3 := m3_; clear n0_ m0_ m1_ m2_ m3_; have hcz0u0_0 : w_.cell? ⟨g0, 0, none⟩ = some (.string a3) := (blk_cell BK0.out 0).trans rfl; have hfz0u0_0 := blk_frozen BK0.out 0; have hcz1u0_0 : w_.cell? ⟨g1, 0, none⟩ = some (.int .i64 2) := (blk_cell BK1.out 0).trans rfl; have hfz1u0_0 := blk_frozen BK1.out 0; have hcz2u0_0 : w_.cell? ⟨g2, 0, none⟩ = some (.slice A1 l1.length c1) := (blk_cell BK2.out 0).trans rfl; have hfz2u0_0 := blk_frozen BK2.out 0; have hcz3u0_0 : w_.cell? ⟨g3, 0, none⟩ = some (.int .i64 a0_0) := (blk_cell BK3.out 0).trans rfl; have hfz3u0_0 := blk_frozen BK3.out 0; have hcz3u0_1 : w_.cell? ⟨g3, 1, none⟩ = some (.slice A0_1 l0_1.length c0_1) := (blk_cell BK3.out 1).trans rfl; have hfz3u0_1 := blk_frozen BK3.out 1; clear hb) | (go_at_call 51; refine (MKC.out m _ BL HP3.out).mono ?_; rintro e w_ ⟨rfl, hb⟩; have n0_ := BS (w := W) hb; have m0_ := Aside0.mk (blk_below (g := g0) (o := .cells #[.string a3] 9 (0, 0)) BK hb); have m1_ := Aside0.mk (blk_below (g := g1) (o := .cells #[.int .i64 2] 3 (0, 0)) BK hb); have m2_ := Aside0.mk (blk_below (g := g2) (o := .cells #[.slice A1 l1.length c1] 35 (0, 0)) BK hb); have m3_ := Aside0.mk (blk_below (g := g3) (o := .cells #[.int .i64 a0_0, .slice A0_1 l0_1.length c0_1] 33 (0, 0)) BK hb); clear HB BK0 BK1 BK2 BK3; have HB := n0_; have BK0 := m0_; have BK1 := m1_; have BK2 := m2_; have BK3 := m3_; clear n0_ m0_ m1_ m2_ m3_; have hcz0u1_0 : w_.cell? ⟨g0, 0, none⟩ = some (.string a3) := (blk_cell BK0.out 0).trans rfl; have hfz0u1_0 := blk_frozen BK0.out 0; have hcz1u1_0 : w_.cell? ⟨g1, 0, none⟩ = some (.int .i64 2) := (blk_cell BK1.out 0).trans rfl; have hfz1u1_0 := blk_frozen BK1.out 0; have hcz2u1_0 : w_.cell? ⟨g2, 0, none⟩ = some (.slice A1 l1.length c1) := (blk_cell BK2.out 0).trans rfl; have hfz2u1_0 := blk_frozen BK2.out 0; have hcz3u1_0 : w_.cell? ⟨g3, 0, none⟩ = some (.int .i64 a0_0) := (blk_cell BK3.out 0).trans rfl; have hfz3u1_0 := blk_frozen BK3.out 0; have hcz3u1_1 : w_.cell? ⟨g3, 1, none⟩ = some (.slice A0_1 l0_1.length c0_1) := (blk_cell BK3.out 1).trans rfl; have hfz3u1_1 := blk_frozen BK3.out 1; clear hb))
  go_ret
  exact ⟨rfl, BL⟩
set_option maxHeartbeats 8000000 in
set_option maxRecDepth 100000 in
theorem impl_GuessesFor.closure3 (j : Nat) (a0_0 : Int) (A0_1 : Option Addr) (c0_1 : Nat) (l0_1 : List (S73)) (A1 : Option Addr) (c1 : Nat) (l1 : List (S54)) (a3 : ByteArray) (s : ByteArray) (b : Bool) (W : World) (g0 : Nat) (g1 : Nat) (g2 : Nat) (g3 : Nat) (h0 : W.heap[g0]? = some (.cells #[.string a3] 9 (0, 0))) (h1 : W.heap[g1]? = some (.cells #[.int .i64 3] 3 (0, 0))) (h2 : W.heap[g2]? = some (.cells #[.slice A1 l1.length c1] 35 (0, 0))) (h3 : W.heap[g3]? = some (.cells #[.int .i64 a0_0, .slice A0_1 l0_1.length c0_1] 33 (0, 0))) (hr0_1 : Kd.C k73 W A0_1 l0_1.length l0_1) (hc0_1 : l0_1.length ≤ c0_1) (hr1 : Kd.C k54 W A1 l1.length l1) (hc1 : l1.length ≤ c1) (h : impl_GuessesFor.g3 j a0_0 l0_1 l1 a3 s = some b) :
  Calls Try.prog 58 #[.string s, .pointer (some ⟨g0, 0, none⟩), .pointer (some ⟨g1, 0, none⟩), .pointer (some ⟨g2, 0, none⟩), .pointer (some ⟨g3, 0, none⟩)] W fun e w' => e = .returned (.bool b) ∧ Below W.heap.size W w' := by
 have BK0 := Aside0.mk h0
 have BK1 := Aside0.mk h1
 have BK2 := Aside0.mk h2
 have BK3 := Aside0.mk h3
 have HB := Aside0.mk (Below.refl W.heap.size W)
 have HR0 := Aside0.mk hr0_1
 have HC0 := Aside0.mk hc0_1
 have HR1 := Aside0.mk hr1
 have HC1 := Aside0.mk hc1
 clear h0 h1 h2 h3 hr0_1 hc0_1 hr1 hc1
 have fpc : ∀ (p : Bool) (V : World), impl_FitsPattern.f j a3 s = some p → Calls Try.prog 59 #[.string a3, .string s] V fun e w' => e = .returned (.bool p) ∧ Below V.heap.size V w' := fun p V q => by first | exact impl_FitsPattern.calls j a3 s p V q | exact (impl_FitsPattern.calls j a3 s p V q).mono (fun e w' hq => ⟨hq.1, hq.2.below⟩)
 have hsc : ∀ (p : Bool) (V : World), Below W.heap.size W V → impl_HasSense.f j l1 s a0_0 = some p → Calls Try.prog 50 #[.slice A1 l1.length c1, .string s, .int .i64 a0_0] V fun e w' => e = .returned (.bool p) ∧ Below V.heap.size V w' := fun p V hv q => by first | exact impl_HasSense.calls j _ _ l1 s a0_0 p V (Kd.C_below HR1.out hv) HC1.out q | exact (impl_HasSense.calls j _ _ l1 s a0_0 p V (Kd.C_below HR1.out hv) HC1.out q).mono (fun e w' hq => ⟨hq.1, hq.2.below⟩)
 have mkc : ∀ (p : Bool) (V : World), Below W.heap.size W V → impl_Makes.f j l0_1 s = some p → Calls Try.prog 51 #[.slice A0_1 l0_1.length c0_1, .string s] V fun e w' => e = .returned (.bool p) ∧ Below V.heap.size V w' := fun p V hv q => by first | exact impl_Makes.calls j _ _ l0_1 s p V (Kd.C_below HR0.out hv) HC0.out q | exact (impl_Makes.calls j _ _ l0_1 s p V (Kd.C_below HR0.out hv) HC0.out q).mono (fun e w' hq => ⟨hq.1, hq.2.below⟩)
 have FPC := Aside0.mk fpc
 clear fpc
 have HSC := Aside0.mk hsc
 clear hsc
 have MKC := Aside0.mk mkc
 clear mkc
 unfold impl_GuessesFor.g3 at h
 obtain ⟨p, hp1, h⟩ := Option.bind_eq_some_iff.mp h
 have HP1 := Aside0.mk hp1
 clear hp1
 cases p with
 | false =>
  rw [if_neg (by decide)] at h
  obtain rfl := Option.some.inj h
  clear h
  have hcz0i_0 : W.cell? ⟨g0, 0, none⟩ = some (.string a3) := (blk_cell BK0.out 0).trans rfl
  have hfz0i_0 := blk_frozen BK0.out 0
  have hcz1i_0 : W.cell? ⟨g1, 0, none⟩ = some (.int .i64 3) := (blk_cell BK1.out 0).trans rfl
  have hfz1i_0 := blk_frozen BK1.out 0
  have hcz2i_0 : W.cell? ⟨g2, 0, none⟩ = some (.slice A1 l1.length c1) := (blk_cell BK2.out 0).trans rfl
  have hfz2i_0 := blk_frozen BK2.out 0
  have hcz3i_0 : W.cell? ⟨g3, 0, none⟩ = some (.int .i64 a0_0) := (blk_cell BK3.out 0).trans rfl
  have hfz3i_0 := blk_frozen BK3.out 0
  have hcz3i_1 : W.cell? ⟨g3, 1, none⟩ = some (.slice A0_1 l0_1.length c0_1) := (blk_cell BK3.out 1).trans rfl
  have hfz3i_1 := blk_frozen BK3.out 1
  go_enter Try.func58, Try.ntmps58
  go_wp2_with (first | ((with_reducible refine gate_callee (f := 59) rfl ?_); refine goesL_ _ rfl rfl Try.func59 (by kernel_rfl) rfl #[.string a3, .string s] rfl (by (try simp only [List.map_toArray, List.map_cons, List.map_nil]); first | done | rfl | (simp only [List.length_drop, List.length_take]; rfl)) ?_; refine (FPC.out false _ HP1.out).mono ?_; rintro e w_ ⟨rfl, hb⟩; refine ⟨_, rfl, ?_⟩; have n0_ := BS (w := W) hb; have m0_ := Aside0.mk (blk_below (g := g0) (o := .cells #[.string a3] 9 (0, 0)) BK hb); have m1_ := Aside0.mk (blk_below (g := g1) (o := .cells #[.int .i64 3] 3 (0, 0)) BK hb); have m2_ := Aside0.mk (blk_below (g := g2) (o := .cells #[.slice A1 l1.length c1] 35 (0, 0)) BK hb); have m3_ := Aside0.mk (blk_below (g := g3) (o := .cells #[.int .i64 a0_0, .slice A0_1 l0_1.length c0_1] 33 (0, 0)) BK hb); clear HB BK0 BK1 BK2 BK3; have HB := n0_; have BK0 := m0_; have BK1 := m1_; have BK2 := m2_; have BK3 := m3_; clear n0_ m0_ m1_ m2_ m3_; have hcz0u0_0 : w_.cell? ⟨g0, 0, none⟩ = some (.string a3) := (blk_cell BK0.out 0).trans rfl; have hfz0u0_0 := blk_frozen BK0.out 0; have hcz1u0_0 : w_.cell? ⟨g1, 0, none⟩ = some (.int .i64 3) := (blk_cell BK1.out 0).trans rfl; have hfz1u0_0 := blk_frozen BK1.out 0; have hcz2u0_0 : w_.cell? ⟨g2, 0, none⟩ = some (.slice A1 l1.length c1) := (blk_cell BK2.out 0).trans rfl; have hfz2u0_0 := blk_frozen BK2.out 0; have hcz3u0_0 : w_.cell? ⟨g3, 0, none⟩ = some (.int .i64 a0_0) := (blk_cell BK3.out 0).trans rfl; have hfz3u0_0 := blk_frozen BK3.out 0; have hcz3u0_1 : w_.cell? ⟨g3, 1, none⟩ = some (.slice A0_1 l0_1.length c0_1) := (blk_cell BK3.out 1).trans rfl; have hfz3u0_1 := blk_frozen BK3.out 1; clear hb))
  go_ret
  exact ⟨rfl, BL⟩
 | true =>
  rw [if_pos rfl] at h
  obtain ⟨v, hp2, h⟩ := Option.bind_eq_some_iff.mp h
  have HP2 := Aside0.mk hp2
  clear hp2
  cases v with
  | false =>
   rw [if_neg (by decide)] at h
   obtain rfl := Option.some.inj h
   clear h
   have hcz0i_0 : W.cell? ⟨g0, 0, none⟩ = some (.string a3) := (blk_cell BK0.out 0).trans rfl
   have hfz0i_0 := blk_frozen BK0.out 0
   have hcz1i_0 : W.cell? ⟨g1, 0, none⟩ = some (.int .i64 3) := (blk_cell BK1.out 0).trans rfl
   have hfz1i_0 := blk_frozen BK1.out 0
   have hcz2i_0 : W.cell? ⟨g2, 0, none⟩ = some (.slice A1 l1.length c1) := (blk_cell BK2.out 0).trans rfl
   have hfz2i_0 := blk_frozen BK2.out 0
   have hcz3i_0 : W.cell? ⟨g3, 0, none⟩ = some (.int .i64 a0_0) := (blk_cell BK3.out 0).trans rfl
   have hfz3i_0 := blk_frozen BK3.out 0
   have hcz3i_1 : W.cell? ⟨g3, 1, none⟩ = some (.slice A0_1 l0_1.length c0_1) := (blk_cell BK3.out 1).trans rfl
   have hfz3i_1 := blk_frozen BK3.out 1
   go_enter Try.func58, Try.ntmps58
   go_wp2_with (first | ((with_reducible refine gate_callee (f := 59) rfl ?_); refine goesL_ _ rfl rfl Try.func59 (by kernel_rfl) rfl #[.string a3, .string s] rfl (by (try simp only [List.map_toArray, List.map_cons, List.map_nil]); first | done | rfl | (simp only [List.length_drop, List.length_take]; rfl)) ?_; refine (FPC.out true _ HP1.out).mono ?_; rintro e w_ ⟨rfl, hb⟩; refine ⟨_, rfl, ?_⟩; have n0_ := BS (w := W) hb; have m0_ := Aside0.mk (blk_below (g := g0) (o := .cells #[.string a3] 9 (0, 0)) BK hb); have m1_ := Aside0.mk (blk_below (g := g1) (o := .cells #[.int .i64 3] 3 (0, 0)) BK hb); have m2_ := Aside0.mk (blk_below (g := g2) (o := .cells #[.slice A1 l1.length c1] 35 (0, 0)) BK hb); have m3_ := Aside0.mk (blk_below (g := g3) (o := .cells #[.int .i64 a0_0, .slice A0_1 l0_1.length c0_1] 33 (0, 0)) BK hb); clear HB BK0 BK1 BK2 BK3; have HB := n0_; have BK0 := m0_; have BK1 := m1_; have BK2 := m2_; have BK3 := m3_; clear n0_ m0_ m1_ m2_ m3_; have hcz0u0_0 : w_.cell? ⟨g0, 0, none⟩ = some (.string a3) := (blk_cell BK0.out 0).trans rfl; have hfz0u0_0 := blk_frozen BK0.out 0; have hcz1u0_0 : w_.cell? ⟨g1, 0, none⟩ = some (.int .i64 3) := (blk_cell BK1.out 0).trans rfl; have hfz1u0_0 := blk_frozen BK1.out 0; have hcz2u0_0 : w_.cell? ⟨g2, 0, none⟩ = some (.slice A1 l1.length c1) := (blk_cell BK2.out 0).trans rfl; have hfz2u0_0 := blk_frozen BK2.out 0; have hcz3u0_0 : w_.cell? ⟨g3, 0, none⟩ = some (.int .i64 a0_0) := (blk_cell BK3.out 0).trans rfl; have hfz3u0_0 := blk_frozen BK3.out 0; have hcz3u0_1 : w_.cell? ⟨g3, 1, none⟩ = some (.slice A0_1 l0_1.length c0_1) := (blk_cell BK3.out 1).trans rfl; have hfz3u0_1 := blk_frozen BK3.out 1; clear hb) | (go_at_call 50; refine (HSC.out false _ BL HP2.out).mono ?_; rintro e w_ ⟨rfl, hb⟩; have n0_ := BS (w := W) hb; have m0_ := Aside0.mk (blk_below (g := g0) (o := .cells #[.string a3] 9 (0, 0)) BK hb); have m1_ := Aside0.mk (blk_below (g := g1) (o := .cells #[.int .i64 3] 3 (0, 0)) BK hb); have m2_ := Aside0.mk (blk_below (g := g2) (o := .cells #[.slice A1 l1.length c1] 35 (0, 0)) BK hb); have m3_ := Aside0.mk (blk_below (g := g3) (o := .cells #[.int .i64 a0_0, .slice A0_1 l0_1.length c0_1] 33 (0, 0)) BK hb); clear HB BK0 BK1 BK2 BK3; have HB := n0_; have BK0 := m0_; have BK1 := m1_; have BK2 := m2_; have BK3 := m3_; clear n0_ m0_ m1_ m2_ m3_; have hcz0u1_0 : w_.cell? ⟨g0, 0, none⟩ = some (.string a3) := (blk_cell BK0.out 0).trans rfl; have hfz0u1_0 := blk_frozen BK0.out 0; have hcz1u1_0 : w_.cell? ⟨g1, 0, none⟩ = some (.int .i64 3) := (blk_cell BK1.out 0).trans rfl; have hfz1u1_0 := blk_frozen BK1.out 0; have hcz2u1_0 : w_.cell? ⟨g2, 0, none⟩ = some (.slice A1 l1.length c1) := (blk_cell BK2.out 0).trans rfl; have hfz2u1_0 := blk_frozen BK2.out 0; have hcz3u1_0 : w_.cell? ⟨g3, 0, none⟩ = some (.int .i64 a0_0) := (blk_cell BK3.out 0).trans rfl; have hfz3u1_0 := blk_frozen BK3.out 0; have hcz3u1_1 : w_.cell? ⟨g3, 1, none⟩ = some (.slice A0_1 l0_1.length c0_1) := (blk_cell BK3.out 1).trans rfl; have hfz3u1_1 := blk_frozen BK3.out 1; clear hb))
   go_ret
   exact ⟨rfl, BL⟩
  | true =>
   rw [if_pos rfl] at h
   obtain ⟨m, hp3, h⟩ := Option.bind_eq_some_iff.mp h
   obtain rfl := Option.some.inj h
   have HP3 := Aside0.mk hp3
   clear h hp3
   have hcz0i_0 : W.cell? ⟨g0, 0, none⟩ = some (.string a3) := (blk_cell BK0.out 0).trans rfl
   have hfz0i_0 := blk_frozen BK0.out 0
   have hcz1i_0 : W.cell? ⟨g1, 0, none⟩ = some (.int .i64 3) := (blk_cell BK1.out 0).trans rfl
   have hfz1i_0 := blk_frozen BK1.out 0
   have hcz2i_0 : W.cell? ⟨g2, 0, none⟩ = some (.slice A1 l1.length c1) := (blk_cell BK2.out 0).trans rfl
   have hfz2i_0 := blk_frozen BK2.out 0
   have hcz3i_0 : W.cell? ⟨g3, 0, none⟩ = some (.int .i64 a0_0) := (blk_cell BK3.out 0).trans rfl
   have hfz3i_0 := blk_frozen BK3.out 0
   have hcz3i_1 : W.cell? ⟨g3, 1, none⟩ = some (.slice A0_1 l0_1.length c0_1) := (blk_cell BK3.out 1).trans rfl
   have hfz3i_1 := blk_frozen BK3.out 1
   go_enter Try.func58, Try.ntmps58
   go_wp2_with (first | ((with_reducible refine gate_callee (f := 59) rfl ?_); refine goesL_ _ rfl rfl Try.func59 (by kernel_rfl) rfl #[.string a3, .string s] rfl (by (try simp only [List.map_toArray, List.map_cons, List.map_nil]); first | done | rfl | (simp only [List.length_drop, List.length_take]; rfl)) ?_; refine (FPC.out true _ HP1.out).mono ?_; rintro e w_ ⟨rfl, hb⟩; refine ⟨_, rfl, ?_⟩; have n0_ := BS (w := W) hb; have m0_ := Aside0.mk (blk_below (g := g0) (o := .cells #[.string a3] 9 (0, 0)) BK hb); have m1_ := Aside0.mk (blk_below (g := g1) (o := .cells #[.int .i64 3] 3 (0, 0)) BK hb); have m2_ := Aside0.mk (blk_below (g := g2) (o := .cells #[.slice A1 l1.length c1] 35 (0, 0)) BK hb); have m3_ := Aside0.mk (blk_below (g := g3) (o := .cells #[.int .i64 a0_0, .slice A0_1 l0_1.length c0_1] 33 (0, 0)) BK hb); clear HB BK0 BK1 BK2 BK3; have HB := n0_; have BK0 := m0_; have BK1 := m1_; have BK2 := m2_; have BK3 := m3_; clear n0_ m0_ m1_ m2_ m3_; have hcz0u0_0 : w_.cell? ⟨g0, 0, none⟩ = some (.string a3) := (blk_cell BK0.out 0).trans rfl; have hfz0u0_0 := blk_frozen BK0.out 0; have hcz1u0_0 : w_.cell? ⟨g1, 0, none⟩ = some (.int .i64 3) := (blk_cell BK1.out 0).trans rfl; have hfz1u0_0 := blk_frozen BK1.out 0; have hcz2u0_0 : w_.cell? ⟨g2, 0, none⟩ = some (.slice A1 l1.length c1) := (blk_cell BK2.out 0).trans rfl; have hfz2u0_0 := blk_frozen BK2.out 0; have hcz3u0_0 : w_.cell? ⟨g3, 0, none⟩ = some (.int .i64 a0_0) := (blk_cell BK3.out 0).trans rfl; have hfz3u0_0 := blk_frozen BK3.out 0; have hcz3u0_1 : w_.cell? ⟨g3, 1, none⟩ = some (.slice A0_1 l0_1.length c0_1) := (blk_cell BK3.out 1).trans rfl; have hfz3u0_1 := blk_frozen BK3.out 1; clear hb) | (go_at_call 50; refine (HSC.out true _ BL HP2.out).mono ?_; rintro e w_ ⟨rfl, hb⟩; have n0_ := BS (w := W) hb; have m0_ := Aside0.mk (blk_below (g := g0) (o := .cells #[.string a3] 9 (0, 0)) BK hb); have m1_ := Aside0.mk (blk_below (g := g1) (o := .cells #[.int .i64 3] 3 (0, 0)) BK hb); have m2_ := Aside0.mk (blk_below (g := g2) (o := .cells #[.slice A1 l1.length c1] 35 (0, 0)) BK hb); have m3_ := Aside0.mk (blk_below (g := g3) (o := .cells #[.int .i64 a0_0, .slice A0_1 l0_1.length c0_1] 33 (0, 0)) BK hb); clear HB BK0 BK1 BK2 BK3; have HB := n0_; have BK0 := m0_; have BK1 := m1_; have BK2 := m2_; have BK3 := m3_; clear n0_ m0_ m1_ m2_ m3_; have hcz0u1_0 : w_.cell? ⟨g0, 0, none⟩ = some (.string a3) := (blk_cell BK0.out 0).trans rfl; have hfz0u1_0 := blk_frozen BK0.out 0; have hcz1u1_0 : w_.cell? ⟨g1, 0, none⟩ = some (.int .i64 3) := (blk_cell BK1.out 0).trans rfl; have hfz1u1_0 := blk_frozen BK1.out 0; have hcz2u1_0 : w_.cell? ⟨g2, 0, none⟩ = some (.slice A1 l1.length c1) := (blk_cell BK2.out 0).trans rfl; have hfz2u1_0 := blk_frozen BK2.out 0; have hcz3u1_0 : w_.cell? ⟨g3, 0, none⟩ = some (.int .i64 a0_0) := (blk_cell BK3.out 0).trans rfl; have hfz3u1_0 := blk_frozen BK3.out 0; have hcz3u1_1 : w_.cell? ⟨g3, 1, none⟩ = some (.slice A0_1 l0_1.length c0_1) := (blk_cell BK3.out 1).trans rfl; have hfz3u1_1 := blk_frozen BK3.out 1; clear hb) | (go_at_call 51; refine (MKC.out m _ BL HP3.out).mono ?_; rintro e w_ ⟨rfl, hb⟩; have n0_ := BS (w := W) hb; have m0_ := Aside0.mk (blk_below (g := g0) (o := .cells #[.string a3] 9 (0, 0)) BK hb); have m1_ := Aside0.mk (blk_below (g := g1) (o := .cells #[.int .i64 3] 3 (0, 0)) BK hb); have m2_ := Aside0.mk (blk_below (g := g2) (o := .cells #[.slice A1 l1.length c1] 35 (0, 0)) BK hb); have m3_ := Aside0.mk (blk_below (g := g3) (o := .cells #[.int .i64 a0_0, .slice A0_1 l0_1.length c0_1] 33 (0, 0)) BK hb); clear HB BK0 BK1 BK2 BK3; have HB := n0_; have BK0 := m0_; have BK1 := m1_; have BK2 := m2_; have BK3 := m3_; clear n0_ m0_ m1_ m2_ m3_; have hcz0u2_0 : w_.cell? ⟨g0, 0, none⟩ = some (.string a3) := (blk_cell BK0.out 0).trans rfl; have hfz0u2_0 := blk_frozen BK0.out 0; have hcz1u2_0 : w_.cell? ⟨g1, 0, none⟩ = some (.int .i64 3) := (blk_cell BK1.out 0).trans rfl; have hfz1u2_0 := blk_frozen BK1.out 0; have hcz2u2_0 : w_.cell? ⟨g2, 0, none⟩ = some (.slice A1 l1.length c1) := (blk_cell BK2.out 0).trans rfl; have hfz2u2_0 := blk_frozen BK2.out 0; have hcz3u2_0 : w_.cell? ⟨g3, 0, none⟩ = some (.int .i64 a0_0) := (blk_cell BK3.out 0).trans rfl; have hfz3u2_0 := blk_frozen BK3.out 0; have hcz3u2_1 : w_.cell? ⟨g3, 1, none⟩ = some (.slice A0_1 l0_1.length c0_1) := (blk_cell BK3.out 1).trans rfl; have hfz3u2_1 := blk_frozen BK3.out 1; clear hb))
   go_ret
   exact ⟨rfl, BL⟩
set_option maxHeartbeats 8000000 in
set_option maxRecDepth 100000 in
theorem impl_GuessesFor.calls (k : Nat) (a0_0 : Int) (A0_1 : Option Addr) (c0_1 : Nat) (l0_1 : List (S73)) (A1 : Option Addr) (c1 : Nat) (l1 : List (S54)) (A2 : Option Addr) (c2 : Nat) (l2 : List ByteArray) (a3 : ByteArray) (a4 : Int) (r : List ByteArray) (w : World) (hr0_1 : Kd.C k73 w A0_1 l0_1.length l0_1) (hc0_1 : l0_1.length ≤ c0_1) (hr1 : Kd.C k54 w A1 l1.length l1) (hc1 : l1.length ≤ c1) (hr2 : Kd.C Kd.string w A2 l2.length l2) (hc2 : l2.length ≤ c2) (h : impl_GuessesFor.f k a0_0 l0_1 l1 l2 a3 a4 = some r) :
  Calls Try.prog 30 #[.agg #[.int .i64 a0_0, .slice A0_1 l0_1.length c0_1], .slice A1 l1.length c1, .slice A2 l2.length c2, .string a3, .int .i64 a4] w fun e w' => ∃ v0_ : Value, e = .returned (v0_) ∧ Kd.R Kd.string 9 w' w.heap.size (fun _ => True) v0_ r ∧ Below w.heap.size w w' := by
 have HR0 := Aside0.mk hr0_1
 have HC0 := Aside0.mk hc0_1
 have HR1 := Aside0.mk hr1
 have HC1 := Aside0.mk hc1
 have HR2 := Aside0.mk hr2
 have HC2 := Aside0.mk hc2
 have HB := Aside0.mk (Below.refl w.heap.size w)
 clear hr0_1 hc0_1 hr1 hc1 hr2 hc2
 unfold impl_GuessesFor.f at h
 obtain ⟨q, h0, h⟩ := Option.bind_eq_some_iff.mp h
 have irc : ∀ V : World, Calls Try.prog 57 #[.int .i64 a4, .int .i64 0, .int .i64 3] V fun e w' => e = .returned (.bool q) ∧ Below V.heap.size V w' := fun V => by first | exact impl_InRange.calls a4 0 3 q V h0 | exact (impl_InRange.calls a4 0 3 q V h0).mono (fun e w' hq => ⟨hq.1, hq.2.below⟩) | exact (impl_InRange.calls a4 0 3 q V h0).mono (fun e w' hq => ⟨hq.1, by rw [hq.2]; exact Below.refl _ _⟩)
 have IRC := Aside0.mk irc
 clear irc
 cases q with
 | false =>
  rw [if_neg (by decide)] at h
  obtain rfl := Option.some.inj h
  clear h h0
  go_enter Try.func30, Try.ntmps30
  go_wp2_with (first | ((with_reducible refine gate_dst (N := 5) rfl ?_); refine box_ev (N := 5) (cs := #[.int .i64 a0_0, .slice A0_1 l0_1.length c0_1]) (t := 33) ?_; intro gb5 hg w5 hbox hb; have n1_ := Aside0.mk (hbox); replace HB := BS (w := w) hb; have BK5 := n1_; clear n1_; clear hb hbox hg) | ((with_reducible refine gate_dst (N := 6) rfl ?_); refine box_ev (N := 6) (cs := #[.slice A1 l1.length c1]) (t := 35) ?_; intro gb6 hg w6 hbox hb; have n0_ := BS (w := w) hb; have n1_ := Aside0.mk (hbox); have n2_ := KB BK5 hb; clear HB; have HB := n0_; have BK6 := n1_; clear n0_ n1_; clear BK5; have BK5 := n2_; clear n2_; clear hb hbox hg) | ((with_reducible refine gate_dst (N := 8) rfl ?_); refine box_ev (N := 8) (cs := #[.string a3]) (t := 9) ?_; intro gb8 hg w8 hbox hb; have n0_ := BS (w := w) hb; have n1_ := Aside0.mk (hbox); have n2_ := KB BK5 hb; have n3_ := KB BK6 hb; clear HB; have HB := n0_; have BK8 := n1_; clear n0_ n1_; clear BK5; have BK5 := n2_; clear n2_ BK6; have BK6 := n3_; clear n3_; clear hb hbox hg) | ((with_reducible refine gate_dst (N := 9) rfl ?_); refine box_ev (N := 9) (cs := #[.int .i64 a4]) (t := 3) ?_; intro gb9 hg w9 hbox hb; have n0_ := BS (w := w) hb; have n1_ := Aside0.mk (hbox); have n2_ := KB BK5 hb; have n3_ := KB BK6 hb; have n4_ := KB BK8 hb; clear HB; have HB := n0_; have BK9 := n1_; clear n0_ n1_; clear BK5; have BK5 := n2_; clear n2_ BK6; have BK6 := n3_; clear n3_ BK8; have BK8 := n4_; clear n4_; clear hb hbox hg; have hcz9 : w9.cell? ⟨gb9, 0, none⟩ = some (.int .i64 a4) := (blk_cell BK9.out 0).trans rfl; have hfz9 := blk_frozen BK9.out 0) | ((with_reducible refine gate_callee (f := 57) rfl ?_); refine goesL_ _ rfl rfl Try.func57 (by kernel_rfl) rfl #[.int .i64 a4, .int .i64 0, .int .i64 3] rfl (by (try simp only [List.map_toArray, List.map_cons, List.map_nil]); first | done | rfl | (simp only [List.length_drop, List.length_take]; rfl)) ?_; refine (IRC.out _).mono ?_; rintro e w_ ⟨rfl, hb⟩; refine ⟨_, rfl, ?_⟩; have n0_ := BS (w := w) hb; have m5_ := KB BK5 hb; have m6_ := KB BK6 hb; have m8_ := KB BK8 hb; have m9_ := KB BK9 hb; clear HB BK5 BK6 BK8 BK9; have HB := n0_; have BK5 := m5_; have BK6 := m6_; have BK8 := m8_; have BK9 := m9_; clear n0_ m5_ m6_ m8_ m9_ hb))
  go_ret
  exact ⟨_, rfl, Kd.R_nil _ _ _ _ _, BL⟩
 | true =>
  rw [if_pos rfl] at h
  obtain ⟨t, h1, h2⟩ := Option.bind_eq_some_iff.mp h
  have h4 : a4 = 0 ∨ a4 = 1 ∨ a4 = 2 ∨ a4 = 3 := by
   unfold impl_InRange.f at h0
   by_cases x1 : (0 : Int) ≤ a4
   ·rw [if_pos x1] at h0
    have x2 : a4 ≤ 3 := of_decide_eq_true (Option.some.inj h0)
    omega
   ·rw [if_neg x1] at h0
    cases h0
  clear h h0
  rcases h4 with rfl | rfl | rfl | rfl
  ·have h1' : impl_those.f k l2 (fun j s => impl_GuessesFor.g0 j a0_0 l0_1 l1 a3 s) = some t := by
    rw [← h1]
    congr 1
   have H1 := Aside0.mk h1'
   have H2 := Aside0.mk h2
   clear h1 h1' h2
   go_enter Try.func30, Try.ntmps30
   go_wp2_with (first | ((with_reducible refine gate_dst (N := 5) rfl ?_); refine box_ev (N := 5) (cs := #[.int .i64 a0_0, .slice A0_1 l0_1.length c0_1]) (t := 33) ?_; intro gb5 hg w5 hbox hb; have n1_ := Aside0.mk (hbox); replace HB := BS (w := w) hb; have BK5 := n1_; clear n1_; clear hb hbox hg) | ((with_reducible refine gate_dst (N := 6) rfl ?_); refine box_ev (N := 6) (cs := #[.slice A1 l1.length c1]) (t := 35) ?_; intro gb6 hg w6 hbox hb; have n0_ := BS (w := w) hb; have n1_ := Aside0.mk (hbox); have n2_ := KB BK5 hb; clear HB; have HB := n0_; have BK6 := n1_; clear n0_ n1_; clear BK5; have BK5 := n2_; clear n2_; clear hb hbox hg) | ((with_reducible refine gate_dst (N := 8) rfl ?_); refine box_ev (N := 8) (cs := #[.string a3]) (t := 9) ?_; intro gb8 hg w8 hbox hb; have n0_ := BS (w := w) hb; have n1_ := Aside0.mk (hbox); have n2_ := KB BK5 hb; have n3_ := KB BK6 hb; clear HB; have HB := n0_; have BK8 := n1_; clear n0_ n1_; clear BK5; have BK5 := n2_; clear n2_ BK6; have BK6 := n3_; clear n3_; clear hb hbox hg) | ((with_reducible refine gate_dst (N := 9) rfl ?_); refine box_ev (N := 9) (cs := #[.int .i64 0]) (t := 3) ?_; intro gb9 hg w9 hbox hb; have n0_ := BS (w := w) hb; have n1_ := Aside0.mk (hbox); have n2_ := KB BK5 hb; have n3_ := KB BK6 hb; have n4_ := KB BK8 hb; clear HB; have HB := n0_; have BK9 := n1_; have hcz9 : w9.cell? ⟨gb9, 0, none⟩ = some (.int .i64 0) := (blk_cell BK9.out 0).trans rfl; have hfz9 := blk_frozen BK9.out 0; clear n0_ n1_; clear BK5; have BK5 := n2_; clear n2_ BK6; have BK6 := n3_; clear n3_ BK8; have BK8 := n4_; clear n4_; clear hb hbox hg) | ((with_reducible refine gate_callee (f := 57) rfl ?_); refine goesL_ _ rfl rfl Try.func57 (by kernel_rfl) rfl #[.int .i64 0, .int .i64 0, .int .i64 3] rfl (by (try simp only [List.map_toArray, List.map_cons, List.map_nil]); first | done | rfl | (simp only [List.length_drop, List.length_take]; rfl)) ?_; refine (IRC.out _).mono ?_; rintro e w_ ⟨rfl, hb⟩; refine ⟨_, rfl, ?_⟩; have n0_ := BS (w := w) hb; have m5_ := KB BK5 hb; have m6_ := KB BK6 hb; have m8_ := KB BK8 hb; have m9_ := KB BK9 hb; clear HB BK5 BK6 BK8 BK9; have HB := n0_; have BK5 := m5_; have BK6 := m6_; have BK8 := m8_; have BK9 := m9_; clear n0_ m5_ m6_ m8_ m9_ hb) | ((with_reducible refine gate_callee (f := 40) rfl ?_); refine goesL_ _ rfl rfl Try.func40 (by kernel_rfl) rfl #[.slice A2 l2.length c2, .func (.func 58) #[] #[.pointer (some ⟨gb8, 0, none⟩), .pointer (some ⟨gb9, 0, none⟩), .pointer (some ⟨gb6, 0, none⟩), .pointer (some ⟨gb5, 0, none⟩)]] rfl (by (try simp only [List.map_toArray, List.map_cons, List.map_nil]); first | done | rfl | (simp only [List.length_drop, List.length_take]; rfl)) ?_; refine (impl_those.calls k _ _ l2 (fun j s => impl_GuessesFor.g0 j a0_0 l0_1 l1 a3 s) t _ (Kd.C_below HR2.out BL) HC2.out H1.out 58 #[.pointer (some ⟨gb8, 0, none⟩), .pointer (some ⟨gb9, 0, none⟩), .pointer (some ⟨gb6, 0, none⟩), .pointer (some ⟨gb5, 0, none⟩)] (fun args w => enters_ Try.func58 (by kernel_rfl) rfl args w) (fun j s b W hb_ h_ => impl_GuessesFor.closure0 j a0_0 A0_1 c0_1 l0_1 A1 c1 l1 a3 s b W gb8 gb9 gb6 gb5 (blk_below (g := gb8) (o := .cells #[.string a3] 9 (0, 0)) BK hb_) (blk_below (g := gb9) (o := .cells #[.int .i64 0] 3 (0, 0)) BK hb_) (blk_below (g := gb6) (o := .cells #[.slice A1 l1.length c1] 35 (0, 0)) BK hb_) (blk_below (g := gb5) (o := .cells #[.int .i64 a0_0, .slice A0_1 l0_1.length c0_1] 33 (0, 0)) BK hb_) (Kd.C_below HR0.out (below_step BL hb_)) HC0.out (Kd.C_below HR1.out (below_step BL hb_)) HC1.out h_)).mono ?_; rintro e w_ ⟨v_, rfl, ho0, hb⟩; refine ⟨_, rfl, ?_⟩; have n0_ := Aside0.mk (Kd.R_lower ho0 (below_size BL)); replace HB := BS (w := w) hb; have HO1 := n0_; clear n0_ hb ho0; obtain ⟨Ao, co, eo⟩ := Kd.R_slice HO1.out; subst eo) | ((with_reducible refine gate_callee (f := 39) rfl ?_); refine goesL_ _ rfl rfl Try.func39 (by kernel_rfl) rfl #[.slice Ao t.length co] rfl (by (try simp only [List.map_toArray, List.map_cons, List.map_nil]); first | done | rfl | (simp only [List.length_drop, List.length_take]; rfl)) ?_; refine (impl_once.calls k _ _ t r _ ((Kd.R_reads' (RR HO1)).2.2) ((Kd.R_reads' HO1.out).2.1) H2.out).mono ?_; rintro e w_ ⟨v_, rfl, ho0, hb⟩; refine ⟨_, rfl, ?_⟩; have n0_ := Aside0.mk (Kd.R_lower ho0 (below_size BL)); replace HB := BS (w := w) hb; clear HO1; have HO2 := n0_; clear n0_ hb ho0))
   go_ret
   exact ⟨_, rfl, (RR HO2), BL⟩
  ·have h1' : impl_those.f k l2 (fun j s => impl_GuessesFor.g1 j a0_0 l0_1 l1 a3 s) = some t := by
    rw [← h1]
    congr 1
   have H1 := Aside0.mk h1'
   have H2 := Aside0.mk h2
   clear h1 h1' h2
   go_enter Try.func30, Try.ntmps30
   go_wp2_with (first | ((with_reducible refine gate_dst (N := 5) rfl ?_); refine box_ev (N := 5) (cs := #[.int .i64 a0_0, .slice A0_1 l0_1.length c0_1]) (t := 33) ?_; intro gb5 hg w5 hbox hb; have n1_ := Aside0.mk (hbox); replace HB := BS (w := w) hb; have BK5 := n1_; clear n1_; clear hb hbox hg) | ((with_reducible refine gate_dst (N := 6) rfl ?_); refine box_ev (N := 6) (cs := #[.slice A1 l1.length c1]) (t := 35) ?_; intro gb6 hg w6 hbox hb; have n0_ := BS (w := w) hb; have n1_ := Aside0.mk (hbox); have n2_ := KB BK5 hb; clear HB; have HB := n0_; have BK6 := n1_; clear n0_ n1_; clear BK5; have BK5 := n2_; clear n2_; clear hb hbox hg) | ((with_reducible refine gate_dst (N := 8) rfl ?_); refine box_ev (N := 8) (cs := #[.string a3]) (t := 9) ?_; intro gb8 hg w8 hbox hb; have n0_ := BS (w := w) hb; have n1_ := Aside0.mk (hbox); have n2_ := KB BK5 hb; have n3_ := KB BK6 hb; clear HB; have HB := n0_; have BK8 := n1_; clear n0_ n1_; clear BK5; have BK5 := n2_; clear n2_ BK6; have BK6 := n3_; clear n3_; clear hb hbox hg) | ((with_reducible refine gate_dst (N := 9) rfl ?_); refine box_ev (N := 9) (cs := #[.int .i64 1]) (t := 3) ?_; intro gb9 hg w9 hbox hb; have n0_ := BS (w := w) hb; have n1_ := Aside0.mk (hbox); have n2_ := KB BK5 hb; have n3_ := KB BK6 hb; have n4_ := KB BK8 hb; clear HB; have HB := n0_; have BK9 := n1_; have hcz9 : w9.cell? ⟨gb9, 0, none⟩ = some (.int .i64 1) := (blk_cell BK9.out 0).trans rfl; have hfz9 := blk_frozen BK9.out 0; clear n0_ n1_; clear BK5; have BK5 := n2_; clear n2_ BK6; have BK6 := n3_; clear n3_ BK8; have BK8 := n4_; clear n4_; clear hb hbox hg) | ((with_reducible refine gate_callee (f := 57) rfl ?_); refine goesL_ _ rfl rfl Try.func57 (by kernel_rfl) rfl #[.int .i64 1, .int .i64 0, .int .i64 3] rfl (by (try simp only [List.map_toArray, List.map_cons, List.map_nil]); first | done | rfl | (simp only [List.length_drop, List.length_take]; rfl)) ?_; refine (IRC.out _).mono ?_; rintro e w_ ⟨rfl, hb⟩; refine ⟨_, rfl, ?_⟩; have n0_ := BS (w := w) hb; have m5_ := KB BK5 hb; have m6_ := KB BK6 hb; have m8_ := KB BK8 hb; have m9_ := KB BK9 hb; clear HB BK5 BK6 BK8 BK9; have HB := n0_; have BK5 := m5_; have BK6 := m6_; have BK8 := m8_; have BK9 := m9_; clear n0_ m5_ m6_ m8_ m9_ hb) | ((with_reducible refine gate_callee (f := 40) rfl ?_); refine goesL_ _ rfl rfl Try.func40 (by kernel_rfl) rfl #[.slice A2 l2.length c2, .func (.func 58) #[] #[.pointer (some ⟨gb8, 0, none⟩), .pointer (some ⟨gb9, 0, none⟩), .pointer (some ⟨gb6, 0, none⟩), .pointer (some ⟨gb5, 0, none⟩)]] rfl (by (try simp only [List.map_toArray, List.map_cons, List.map_nil]); first | done | rfl | (simp only [List.length_drop, List.length_take]; rfl)) ?_; refine (impl_those.calls k _ _ l2 (fun j s => impl_GuessesFor.g1 j a0_0 l0_1 l1 a3 s) t _ (Kd.C_below HR2.out BL) HC2.out H1.out 58 #[.pointer (some ⟨gb8, 0, none⟩), .pointer (some ⟨gb9, 0, none⟩), .pointer (some ⟨gb6, 0, none⟩), .pointer (some ⟨gb5, 0, none⟩)] (fun args w => enters_ Try.func58 (by kernel_rfl) rfl args w) (fun j s b W hb_ h_ => impl_GuessesFor.closure1 j a0_0 A0_1 c0_1 l0_1 A1 c1 l1 a3 s b W gb8 gb9 gb6 gb5 (blk_below (g := gb8) (o := .cells #[.string a3] 9 (0, 0)) BK hb_) (blk_below (g := gb9) (o := .cells #[.int .i64 1] 3 (0, 0)) BK hb_) (blk_below (g := gb6) (o := .cells #[.slice A1 l1.length c1] 35 (0, 0)) BK hb_) (blk_below (g := gb5) (o := .cells #[.int .i64 a0_0, .slice A0_1 l0_1.length c0_1] 33 (0, 0)) BK hb_) (Kd.C_below HR0.out (below_step BL hb_)) HC0.out (Kd.C_below HR1.out (below_step BL hb_)) HC1.out h_)).mono ?_; rintro e w_ ⟨v_, rfl, ho0, hb⟩; refine ⟨_, rfl, ?_⟩; have n0_ := Aside0.mk (Kd.R_lower ho0 (below_size BL)); replace HB := BS (w := w) hb; have HO1 := n0_; clear n0_ hb ho0; obtain ⟨Ao, co, eo⟩ := Kd.R_slice HO1.out; subst eo) | ((with_reducible refine gate_callee (f := 39) rfl ?_); refine goesL_ _ rfl rfl Try.func39 (by kernel_rfl) rfl #[.slice Ao t.length co] rfl (by (try simp only [List.map_toArray, List.map_cons, List.map_nil]); first | done | rfl | (simp only [List.length_drop, List.length_take]; rfl)) ?_; refine (impl_once.calls k _ _ t r _ ((Kd.R_reads' (RR HO1)).2.2) ((Kd.R_reads' HO1.out).2.1) H2.out).mono ?_; rintro e w_ ⟨v_, rfl, ho0, hb⟩; refine ⟨_, rfl, ?_⟩; have n0_ := Aside0.mk (Kd.R_lower ho0 (below_size BL)); replace HB := BS (w := w) hb; clear HO1; have HO2 := n0_; clear n0_ hb ho0))
   go_ret
   exact ⟨_, rfl, (RR HO2), BL⟩
  ·have h1' : impl_those.f k l2 (fun j s => impl_GuessesFor.g2 j a0_0 l0_1 l1 a3 s) = some t := by
    rw [← h1]
    congr 1
   have H1 := Aside0.mk h1'
   have H2 := Aside0.mk h2
   clear h1 h1' h2
   go_enter Try.func30, Try.ntmps30
   go_wp2_with (first | ((with_reducible refine gate_dst (N := 5) rfl ?_); refine box_ev (N := 5) (cs := #[.int .i64 a0_0, .slice A0_1 l0_1.length c0_1]) (t := 33) ?_; intro gb5 hg w5 hbox hb; have n1_ := Aside0.mk (hbox); replace HB := BS (w := w) hb; have BK5 := n1_; clear n1_; clear hb hbox hg) | ((with_reducible refine gate_dst (N := 6) rfl ?_); refine box_ev (N := 6) (cs := #[.slice A1 l1.length c1]) (t := 35) ?_; intro gb6 hg w6 hbox hb; have n0_ := BS (w := w) hb; have n1_ := Aside0.mk (hbox); have n2_ := KB BK5 hb; clear HB; have HB := n0_; have BK6 := n1_; clear n0_ n1_; clear BK5; have BK5 := n2_; clear n2_; clear hb hbox hg) | ((with_reducible refine gate_dst (N := 8) rfl ?_); refine box_ev (N := 8) (cs := #[.string a3]) (t := 9) ?_; intro gb8 hg w8 hbox hb; have n0_ := BS (w := w) hb; have n1_ := Aside0.mk (hbox); have n2_ := KB BK5 hb; have n3_ := KB BK6 hb; clear HB; have HB := n0_; have BK8 := n1_; clear n0_ n1_; clear BK5; have BK5 := n2_; clear n2_ BK6; have BK6 := n3_; clear n3_; clear hb hbox hg) | ((with_reducible refine gate_dst (N := 9) rfl ?_); refine box_ev (N := 9) (cs := #[.int .i64 2]) (t := 3) ?_; intro gb9 hg w9 hbox hb; have n0_ := BS (w := w) hb; have n1_ := Aside0.mk (hbox); have n2_ := KB BK5 hb; have n3_ := KB BK6 hb; have n4_ := KB BK8 hb; clear HB; have HB := n0_; have BK9 := n1_; have hcz9 : w9.cell? ⟨gb9, 0, none⟩ = some (.int .i64 2) := (blk_cell BK9.out 0).trans rfl; have hfz9 := blk_frozen BK9.out 0; clear n0_ n1_; clear BK5; have BK5 := n2_; clear n2_ BK6; have BK6 := n3_; clear n3_ BK8; have BK8 := n4_; clear n4_; clear hb hbox hg) | ((with_reducible refine gate_callee (f := 57) rfl ?_); refine goesL_ _ rfl rfl Try.func57 (by kernel_rfl) rfl #[.int .i64 2, .int .i64 0, .int .i64 3] rfl (by (try simp only [List.map_toArray, List.map_cons, List.map_nil]); first | done | rfl | (simp only [List.length_drop, List.length_take]; rfl)) ?_; refine (IRC.out _).mono ?_; rintro e w_ ⟨rfl, hb⟩; refine ⟨_, rfl, ?_⟩; have n0_ := BS (w := w) hb; have m5_ := KB BK5 hb; have m6_ := KB BK6 hb; have m8_ := KB BK8 hb; have m9_ := KB BK9 hb; clear HB BK5 BK6 BK8 BK9; have HB := n0_; have BK5 := m5_; have BK6 := m6_; have BK8 := m8_; have BK9 := m9_; clear n0_ m5_ m6_ m8_ m9_ hb) | ((with_reducible refine gate_callee (f := 40) rfl ?_); refine goesL_ _ rfl rfl Try.func40 (by kernel_rfl) rfl #[.slice A2 l2.length c2, .func (.func 58) #[] #[.pointer (some ⟨gb8, 0, none⟩), .pointer (some ⟨gb9, 0, none⟩), .pointer (some ⟨gb6, 0, none⟩), .pointer (some ⟨gb5, 0, none⟩)]] rfl (by (try simp only [List.map_toArray, List.map_cons, List.map_nil]); first | done | rfl | (simp only [List.length_drop, List.length_take]; rfl)) ?_; refine (impl_those.calls k _ _ l2 (fun j s => impl_GuessesFor.g2 j a0_0 l0_1 l1 a3 s) t _ (Kd.C_below HR2.out BL) HC2.out H1.out 58 #[.pointer (some ⟨gb8, 0, none⟩), .pointer (some ⟨gb9, 0, none⟩), .pointer (some ⟨gb6, 0, none⟩), .pointer (some ⟨gb5, 0, none⟩)] (fun args w => enters_ Try.func58 (by kernel_rfl) rfl args w) (fun j s b W hb_ h_ => impl_GuessesFor.closure2 j a0_0 A0_1 c0_1 l0_1 A1 c1 l1 a3 s b W gb8 gb9 gb6 gb5 (blk_below (g := gb8) (o := .cells #[.string a3] 9 (0, 0)) BK hb_) (blk_below (g := gb9) (o := .cells #[.int .i64 2] 3 (0, 0)) BK hb_) (blk_below (g := gb6) (o := .cells #[.slice A1 l1.length c1] 35 (0, 0)) BK hb_) (blk_below (g := gb5) (o := .cells #[.int .i64 a0_0, .slice A0_1 l0_1.length c0_1] 33 (0, 0)) BK hb_) (Kd.C_below HR0.out (below_step BL hb_)) HC0.out (Kd.C_below HR1.out (below_step BL hb_)) HC1.out h_)).mono ?_; rintro e w_ ⟨v_, rfl, ho0, hb⟩; refine ⟨_, rfl, ?_⟩; have n0_ := Aside0.mk (Kd.R_lower ho0 (below_size BL)); replace HB := BS (w := w) hb; have HO1 := n0_; clear n0_ hb ho0; obtain ⟨Ao, co, eo⟩ := Kd.R_slice HO1.out; subst eo) | ((with_reducible refine gate_callee (f := 39) rfl ?_); refine goesL_ _ rfl rfl Try.func39 (by kernel_rfl) rfl #[.slice Ao t.length co] rfl (by (try simp only [List.map_toArray, List.map_cons, List.map_nil]); first | done | rfl | (simp only [List.length_drop, List.length_take]; rfl)) ?_; refine (impl_once.calls k _ _ t r _ ((Kd.R_reads' (RR HO1)).2.2) ((Kd.R_reads' HO1.out).2.1) H2.out).mono ?_; rintro e w_ ⟨v_, rfl, ho0, hb⟩; refine ⟨_, rfl, ?_⟩; have n0_ := Aside0.mk (Kd.R_lower ho0 (below_size BL)); replace HB := BS (w := w) hb; clear HO1; have HO2 := n0_; clear n0_ hb ho0))
   go_ret
   exact ⟨_, rfl, (RR HO2), BL⟩
  ·have h1' : impl_those.f k l2 (fun j s => impl_GuessesFor.g3 j a0_0 l0_1 l1 a3 s) = some t := by
    rw [← h1]
    congr 1
   have H1 := Aside0.mk h1'
   have H2 := Aside0.mk h2
   clear h1 h1' h2
   go_enter Try.func30, Try.ntmps30
   go_wp2_with (first | ((with_reducible refine gate_dst (N := 5) rfl ?_); refine box_ev (N := 5) (cs := #[.int .i64 a0_0, .slice A0_1 l0_1.length c0_1]) (t := 33) ?_; intro gb5 hg w5 hbox hb; have n1_ := Aside0.mk (hbox); replace HB := BS (w := w) hb; have BK5 := n1_; clear n1_; clear hb hbox hg) | ((with_reducible refine gate_dst (N := 6) rfl ?_); refine box_ev (N := 6) (cs := #[.slice A1 l1.length c1]) (t := 35) ?_; intro gb6 hg w6 hbox hb; have n0_ := BS (w := w) hb; have n1_ := Aside0.mk (hbox); have n2_ := KB BK5 hb; clear HB; have HB := n0_; have BK6 := n1_; clear n0_ n1_; clear BK5; have BK5 := n2_; clear n2_; clear hb hbox hg) | ((with_reducible refine gate_dst (N := 8) rfl ?_); refine box_ev (N := 8) (cs := #[.string a3]) (t := 9) ?_; intro gb8 hg w8 hbox hb; have n0_ := BS (w := w) hb; have n1_ := Aside0.mk (hbox); have n2_ := KB BK5 hb; have n3_ := KB BK6 hb; clear HB; have HB := n0_; have BK8 := n1_; clear n0_ n1_; clear BK5; have BK5 := n2_; clear n2_ BK6; have BK6 := n3_; clear n3_; clear hb hbox hg) | ((with_reducible refine gate_dst (N := 9) rfl ?_); refine box_ev (N := 9) (cs := #[.int .i64 3]) (t := 3) ?_; intro gb9 hg w9 hbox hb; have n0_ := BS (w := w) hb; have n1_ := Aside0.mk (hbox); have n2_ := KB BK5 hb; have n3_ := KB BK6 hb; have n4_ := KB BK8 hb; clear HB; have HB := n0_; have BK9 := n1_; have hcz9 : w9.cell? ⟨gb9, 0, none⟩ = some (.int .i64 3) := (blk_cell BK9.out 0).trans rfl; have hfz9 := blk_frozen BK9.out 0; clear n0_ n1_; clear BK5; have BK5 := n2_; clear n2_ BK6; have BK6 := n3_; clear n3_ BK8; have BK8 := n4_; clear n4_; clear hb hbox hg) | ((with_reducible refine gate_callee (f := 57) rfl ?_); refine goesL_ _ rfl rfl Try.func57 (by kernel_rfl) rfl #[.int .i64 3, .int .i64 0, .int .i64 3] rfl (by (try simp only [List.map_toArray, List.map_cons, List.map_nil]); first | done | rfl | (simp only [List.length_drop, List.length_take]; rfl)) ?_; refine (IRC.out _).mono ?_; rintro e w_ ⟨rfl, hb⟩; refine ⟨_, rfl, ?_⟩; have n0_ := BS (w := w) hb; have m5_ := KB BK5 hb; have m6_ := KB BK6 hb; have m8_ := KB BK8 hb; have m9_ := KB BK9 hb; clear HB BK5 BK6 BK8 BK9; have HB := n0_; have BK5 := m5_; have BK6 := m6_; have BK8 := m8_; have BK9 := m9_; clear n0_ m5_ m6_ m8_ m9_ hb) | ((with_reducible refine gate_callee (f := 40) rfl ?_); refine goesL_ _ rfl rfl Try.func40 (by kernel_rfl) rfl #[.slice A2 l2.length c2, .func (.func 58) #[] #[.pointer (some ⟨gb8, 0, none⟩), .pointer (some ⟨gb9, 0, none⟩), .pointer (some ⟨gb6, 0, none⟩), .pointer (some ⟨gb5, 0, none⟩)]] rfl (by (try simp only [List.map_toArray, List.map_cons, List.map_nil]); first | done | rfl | (simp only [List.length_drop, List.length_take]; rfl)) ?_; refine (impl_those.calls k _ _ l2 (fun j s => impl_GuessesFor.g3 j a0_0 l0_1 l1 a3 s) t _ (Kd.C_below HR2.out BL) HC2.out H1.out 58 #[.pointer (some ⟨gb8, 0, none⟩), .pointer (some ⟨gb9, 0, none⟩), .pointer (some ⟨gb6, 0, none⟩), .pointer (some ⟨gb5, 0, none⟩)] (fun args w => enters_ Try.func58 (by kernel_rfl) rfl args w) (fun j s b W hb_ h_ => impl_GuessesFor.closure3 j a0_0 A0_1 c0_1 l0_1 A1 c1 l1 a3 s b W gb8 gb9 gb6 gb5 (blk_below (g := gb8) (o := .cells #[.string a3] 9 (0, 0)) BK hb_) (blk_below (g := gb9) (o := .cells #[.int .i64 3] 3 (0, 0)) BK hb_) (blk_below (g := gb6) (o := .cells #[.slice A1 l1.length c1] 35 (0, 0)) BK hb_) (blk_below (g := gb5) (o := .cells #[.int .i64 a0_0, .slice A0_1 l0_1.length c0_1] 33 (0, 0)) BK hb_) (Kd.C_below HR0.out (below_step BL hb_)) HC0.out (Kd.C_below HR1.out (below_step BL hb_)) HC1.out h_)).mono ?_; rintro e w_ ⟨v_, rfl, ho0, hb⟩; refine ⟨_, rfl, ?_⟩; have n0_ := Aside0.mk (Kd.R_lower ho0 (below_size BL)); replace HB := BS (w := w) hb; have HO1 := n0_; clear n0_ hb ho0; obtain ⟨Ao, co, eo⟩ := Kd.R_slice HO1.out; subst eo) | ((with_reducible refine gate_callee (f := 39) rfl ?_); refine goesL_ _ rfl rfl Try.func39 (by kernel_rfl) rfl #[.slice Ao t.length co] rfl (by (try simp only [List.map_toArray, List.map_cons, List.map_nil]); first | done | rfl | (simp only [List.length_drop, List.length_take]; rfl)) ?_; refine (impl_once.calls k _ _ t r _ ((Kd.R_reads' (RR HO1)).2.2) ((Kd.R_reads' HO1.out).2.1) H2.out).mono ?_; rintro e w_ ⟨v_, rfl, ho0, hb⟩; refine ⟨_, rfl, ?_⟩; have n0_ := Aside0.mk (Kd.R_lower ho0 (below_size BL)); replace HB := BS (w := w) hb; clear HO1; have HO2 := n0_; clear n0_ hb ho0))
   go_ret
   exact ⟨_, rfl, (RR HO2), BL⟩
end Go.Proofs.Ythincoghppaegaa.PFnExactGuessesFor
