/- Walks of functions: what each computes. -/
import Derived.Test.YthincoghppaegaaZGainP0
import Derived.Test.YthincoghppaegaaZGainP2
import Derived.Test.YthincoghppaegaaZGainP6
import Derived.Test.YthincoghppaegaaZGainW
import Derived.Test.YthincoghppaegaaZGainShelf
import Derived.Test.YthincoghppaegaaZGainHandSort
namespace Go.Proofs.Ythincoghppaegaa.PFnExactGain
open Go.RowKit Go.Proofs.YthincoghppaegaaW.PrintWords Go.Proofs.YthincoghppaegaaW.PrintLast Go.Proofs.YthincoghppaegaaW.PrintMore Go.Proofs.Ythincoghppaegaa.Sq
attribute [local go_sem] max2_int min2_int max_two min_two max_three min_three max_four min_four
set_option linter.unusedVariables false
set_option linter.unusedSimpArgs false
mutual
def spec_FitsPattern.j0 : Nat → ByteArray → ByteArray → Bool → Option (Bool)
 | 0, _, _, _ => none
 | k + 1, x0, x1, x20 => if x20 = true then (some false) else (spec_FitsPattern.l0 k x0 x1 0)
def spec_FitsPattern.l0 : Nat → ByteArray → ByteArray → Int → Option (Bool)
 | 0, _, _, _ => none
 | k + 1, x0, x1, x5 => if x5 < (x0.size : Int) then (if 0 ≤ x5 then (if (bt x0 x5) = 63 then (spec_FitsPattern.l0 k x0 x1 (wrap64 (x5 + 1))) else (if x5 < (x1.size : Int) then (if (bt x0 x5) = (bt x1 x5) then (spec_FitsPattern.l0 k x0 x1 (wrap64 (x5 + 1))) else (some false)) else (none))) else (none)) else (some true)
end
def spec_FitsPattern.f (k : Nat) (a0 : ByteArray) (a1 : ByteArray) : Option (Bool) := (spec_IsPattern.f k a0).bind fun t159 => (if t159 = true then ((spec_IsWord.f k a1).bind fun t160 => (if t160 = true then (spec_FitsPattern.j0 k a0 a1 ((a0.size : Int) != (a1.size : Int))) else (spec_FitsPattern.j0 k a0 a1 true))) else (spec_FitsPattern.j0 k a0 a1 true))
set_option maxHeartbeats 8000000 in
set_option maxRecDepth 100000 in
theorem spec_FitsPattern.calls (k : Nat) (a0 : ByteArray) (a1 : ByteArray) (r : Bool) (w : World) (h : spec_FitsPattern.f k a0 a1 = some r) :
  Calls Try.prog 56 #[.string a0, .string a1] w fun e w' => e = .returned (.bool r) ∧ Drawn0 w w' := by
 have H : ((spec_IsPattern.f k a0).bind fun t159 => (if t159 = true then ((spec_IsWord.f k a1).bind fun t160 => (if t160 = true then (spec_FitsPattern.j0 k a0 a1 ((a0.size : Int) != (a1.size : Int))) else (spec_FitsPattern.j0 k a0 a1 true))) else (spec_FitsPattern.j0 k a0 a1 true))) = some r := h
 clear h
 have HC3 := Aside0.mk H
 clear H
 go_enter Try.func56, Try.ntmps56
 go_upto_region 1 with (fail)
 repeat (go_quiet (fail); go_upto_region 1 with (fail))
 go_cut [20] (fun v20 wc => ∃ (kq : Nat) (x20_2 : Bool), v20 = .bool x20_2 ∧ Aside0 (spec_FitsPattern.j0 kq a0 a1 x20_2 = some r) ∧ Aside0 (kq ≤ k) ∧ Drawn0 w wc)
 case first =>
  have H := HC3.out
  clear HC3
  replace H := Option.bind_eq_some_iff.mp H
  obtain ⟨t159, A40, H⟩ := H
  replace H : (if t159 = true then ((spec_IsWord.f k a1).bind fun t160 => (if t160 = true then (spec_FitsPattern.j0 k a0 a1 ((a0.size : Int) != (a1.size : Int))) else (spec_FitsPattern.j0 k a0 a1 true))) else (spec_FitsPattern.j0 k a0 a1 true)) = some r := H
  have A4 := Aside0.mk A40
  clear A40
  by_cases c5 : t159 = true
  ·subst c5
   have H1 : ((spec_IsWord.f k a1).bind fun t160 => (if t160 = true then (spec_FitsPattern.j0 k a0 a1 ((a0.size : Int) != (a1.size : Int))) else (spec_FitsPattern.j0 k a0 a1 true))) = some r := by rw [if_pos rfl] at H; exact H
   clear H
   have H := H1
   clear H1
   replace H := Option.bind_eq_some_iff.mp H
   obtain ⟨t160, A60, H⟩ := H
   replace H : (if t160 = true then (spec_FitsPattern.j0 k a0 a1 ((a0.size : Int) != (a1.size : Int))) else (spec_FitsPattern.j0 k a0 a1 true)) = some r := H
   have A6 := Aside0.mk A60
   clear A60
   by_cases c7 : t160 = true
   ·subst c7
    have H1 : (spec_FitsPattern.j0 k a0 a1 ((a0.size : Int) != (a1.size : Int))) = some r := by rw [if_pos rfl] at H; exact H
    clear H
    have H := H1
    clear H1
    have H' := Aside0.mk H
    clear H
    go_wp2_with (first | (go_at_call 71; (with_reducible refine (spec_IsPattern.calls k a0 true _ A4.out).mono ?_); rintro e w' ⟨rfl, ⟨nd, rfl⟩⟩; (try first | exact ⟨rfl, _, World.drewN_drewN _ _ _⟩ | exact ⟨rfl, _, Eq.trans (World.drewN_drewN _ _ _) (congrArg (World.drewN _) (Nat.add_assoc _ _ _))⟩)) | (go_at_call 64; (with_reducible refine (spec_IsWord.calls k a1 true _ A6.out).mono ?_); rintro e w' ⟨rfl, ⟨nd, rfl⟩⟩; (try first | exact ⟨rfl, _, World.drewN_drewN _ _ _⟩ | exact ⟨rfl, _, Eq.trans (World.drewN_drewN _ _ _) (congrArg (World.drewN _) (Nat.add_assoc _ _ _))⟩)))
    repeat (go_quiet (first | (go_at_call 71; (with_reducible refine (spec_IsPattern.calls k a0 true _ A4.out).mono ?_); rintro e w' ⟨rfl, ⟨nd, rfl⟩⟩; (try first | exact ⟨rfl, _, World.drewN_drewN _ _ _⟩ | exact ⟨rfl, _, Eq.trans (World.drewN_drewN _ _ _) (congrArg (World.drewN _) (Nat.add_assoc _ _ _))⟩)) | (go_at_call 64; (with_reducible refine (spec_IsWord.calls k a1 true _ A6.out).mono ?_); rintro e w' ⟨rfl, ⟨nd, rfl⟩⟩; (try first | exact ⟨rfl, _, World.drewN_drewN _ _ _⟩ | exact ⟨rfl, _, Eq.trans (World.drewN_drewN _ _ _) (congrArg (World.drewN _) (Nat.add_assoc _ _ _))⟩))); try go_wp2_with (first | (go_at_call 71; (with_reducible refine (spec_IsPattern.calls k a0 true _ A4.out).mono ?_); rintro e w' ⟨rfl, ⟨nd, rfl⟩⟩; (try first | exact ⟨rfl, _, World.drewN_drewN _ _ _⟩ | exact ⟨rfl, _, Eq.trans (World.drewN_drewN _ _ _) (congrArg (World.drewN _) (Nat.add_assoc _ _ _))⟩)) | (go_at_call 64; (with_reducible refine (spec_IsWord.calls k a1 true _ A6.out).mono ?_); rintro e w' ⟨rfl, ⟨nd, rfl⟩⟩; (try first | exact ⟨rfl, _, World.drewN_drewN _ _ _⟩ | exact ⟨rfl, _, Eq.trans (World.drewN_drewN _ _ _) (congrArg (World.drewN _) (Nat.add_assoc _ _ _))⟩))))
    go_meet
    case rel => exact ⟨_, (((a0.size : Int) != (a1.size : Int))), EQ, H', ⟨by first | omega | exact Nat.le_refl _⟩, by repeat (first | exact Drawn0.refl _ | apply Drawn0.step)⟩
   ·replace c7 := Bool.eq_false_iff.mpr c7
    subst c7
    have H1 : (spec_FitsPattern.j0 k a0 a1 true) = some r := by rw [if_neg (show ¬ (false = true) by decide)] at H; exact H
    clear H
    have H := H1
    clear H1
    have H' := Aside0.mk H
    clear H
    go_wp2_with (first | (go_at_call 71; (with_reducible refine (spec_IsPattern.calls k a0 true _ A4.out).mono ?_); rintro e w' ⟨rfl, ⟨nd, rfl⟩⟩; (try first | exact ⟨rfl, _, World.drewN_drewN _ _ _⟩ | exact ⟨rfl, _, Eq.trans (World.drewN_drewN _ _ _) (congrArg (World.drewN _) (Nat.add_assoc _ _ _))⟩)) | (go_at_call 64; (with_reducible refine (spec_IsWord.calls k a1 false _ A6.out).mono ?_); rintro e w' ⟨rfl, ⟨nd, rfl⟩⟩; (try first | exact ⟨rfl, _, World.drewN_drewN _ _ _⟩ | exact ⟨rfl, _, Eq.trans (World.drewN_drewN _ _ _) (congrArg (World.drewN _) (Nat.add_assoc _ _ _))⟩)))
    repeat (go_quiet (first | (go_at_call 71; (with_reducible refine (spec_IsPattern.calls k a0 true _ A4.out).mono ?_); rintro e w' ⟨rfl, ⟨nd, rfl⟩⟩; (try first | exact ⟨rfl, _, World.drewN_drewN _ _ _⟩ | exact ⟨rfl, _, Eq.trans (World.drewN_drewN _ _ _) (congrArg (World.drewN _) (Nat.add_assoc _ _ _))⟩)) | (go_at_call 64; (with_reducible refine (spec_IsWord.calls k a1 false _ A6.out).mono ?_); rintro e w' ⟨rfl, ⟨nd, rfl⟩⟩; (try first | exact ⟨rfl, _, World.drewN_drewN _ _ _⟩ | exact ⟨rfl, _, Eq.trans (World.drewN_drewN _ _ _) (congrArg (World.drewN _) (Nat.add_assoc _ _ _))⟩))); try go_wp2_with (first | (go_at_call 71; (with_reducible refine (spec_IsPattern.calls k a0 true _ A4.out).mono ?_); rintro e w' ⟨rfl, ⟨nd, rfl⟩⟩; (try first | exact ⟨rfl, _, World.drewN_drewN _ _ _⟩ | exact ⟨rfl, _, Eq.trans (World.drewN_drewN _ _ _) (congrArg (World.drewN _) (Nat.add_assoc _ _ _))⟩)) | (go_at_call 64; (with_reducible refine (spec_IsWord.calls k a1 false _ A6.out).mono ?_); rintro e w' ⟨rfl, ⟨nd, rfl⟩⟩; (try first | exact ⟨rfl, _, World.drewN_drewN _ _ _⟩ | exact ⟨rfl, _, Eq.trans (World.drewN_drewN _ _ _) (congrArg (World.drewN _) (Nat.add_assoc _ _ _))⟩))))
    go_meet
    case rel => exact ⟨_, (true), EQ, H', ⟨by first | omega | exact Nat.le_refl _⟩, by repeat (first | exact Drawn0.refl _ | apply Drawn0.step)⟩
  ·replace c5 := Bool.eq_false_iff.mpr c5
   subst c5
   have H1 : (spec_FitsPattern.j0 k a0 a1 true) = some r := by rw [if_neg (show ¬ (false = true) by decide)] at H; exact H
   clear H
   have H := H1
   clear H1
   have H' := Aside0.mk H
   clear H
   go_wp2_with (first | (go_at_call 71; (with_reducible refine (spec_IsPattern.calls k a0 false _ A4.out).mono ?_); rintro e w' ⟨rfl, ⟨nd, rfl⟩⟩; (try first | exact ⟨rfl, _, World.drewN_drewN _ _ _⟩ | exact ⟨rfl, _, Eq.trans (World.drewN_drewN _ _ _) (congrArg (World.drewN _) (Nat.add_assoc _ _ _))⟩)))
   repeat (go_quiet (first | (go_at_call 71; (with_reducible refine (spec_IsPattern.calls k a0 false _ A4.out).mono ?_); rintro e w' ⟨rfl, ⟨nd, rfl⟩⟩; (try first | exact ⟨rfl, _, World.drewN_drewN _ _ _⟩ | exact ⟨rfl, _, Eq.trans (World.drewN_drewN _ _ _) (congrArg (World.drewN _) (Nat.add_assoc _ _ _))⟩))); try go_wp2_with (first | (go_at_call 71; (with_reducible refine (spec_IsPattern.calls k a0 false _ A4.out).mono ?_); rintro e w' ⟨rfl, ⟨nd, rfl⟩⟩; (try first | exact ⟨rfl, _, World.drewN_drewN _ _ _⟩ | exact ⟨rfl, _, Eq.trans (World.drewN_drewN _ _ _) (congrArg (World.drewN _) (Nat.add_assoc _ _ _))⟩))))
   go_meet
   case rel => exact ⟨_, (true), EQ, H', ⟨by first | omega | exact Nat.le_refl _⟩, by repeat (first | exact Drawn0.refl _ | apply Drawn0.step)⟩
 case rest =>
  clear HC3
  obtain ⟨kq, x20_2, rfl, HA, HJ2, ⟨mc2, rfl⟩⟩ := hcut
  cases kq with
  | zero => exact absurd HA.out (by simp [spec_FitsPattern.j0])
  | succ kj2 =>
   have H := HA.out
   clear HA
   simp only [spec_FitsPattern.j0] at H
   by_cases c8 : x20_2 = true
   ·subst c8
    have H1 : (some false) = some r := by rw [if_pos rfl] at H; exact H
    clear H
    have H := H1
    clear H1
    obtain rfl := Option.some.inj H
    go_wp2
    repeat (go_quiet (fail); try go_wp2)
    go_ret
    exact ⟨by first | rfl | (simp; done) | (simp [*]; done), by repeat (first | exact Drawn0.refl _ | apply Drawn0.step)⟩
   ·replace c8 := Bool.eq_false_iff.mpr c8
    subst c8
    have H1 : (spec_FitsPattern.l0 kj2 a0 a1 0) = some r := by rw [if_neg (show ¬ (false = true) by decide)] at H; exact H
    clear H
    have H := H1
    clear H1
    have H' := Aside0.mk H
    clear H
    go_wp2
    repeat (go_quiet (fail); try go_wp2)
    go_loopg [5] kj2 (fun kq v5 w' => ∃ (x5_2 : Int), v5 = .int .i64 x5_2 ∧ Aside0 (spec_FitsPattern.l0 kq a0 a1 x5_2 = some r) ∧ Aside0 (kq ≤ kj2) ∧ Drawn0 w w')
    case atStart => exact ⟨(0), EQ, H', ⟨Nat.le_refl _⟩, by repeat (first | exact Drawn0.refl _ | apply Drawn0.step)⟩
    case round =>
     clear H'
     try clear c8
     obtain ⟨x5_2, rfl, HA, HK2, ⟨m2, rfl⟩⟩ := hrel
     cases gk with
     | zero => exact absurd HA.out (by simp [spec_FitsPattern.l0])
     | succ k2 =>
      have H := HA.out
      clear HA
      simp only [spec_FitsPattern.l0] at H
      by_cases c9 : x5_2 < (a0.size : Int)
      ·rw [if_pos c9] at H
       have c9b0 : decide (x5_2 < (a0.size : Int)) = true := decide_eq_true c9
       clear c9
       by_cases c10 : 0 ≤ x5_2
       ·rw [if_pos c10] at H
        have c10b0 : decide (0 ≤ x5_2) = true := decide_eq_true c10
        clear c10
        by_cases c12 : (bt a0 x5_2) = 63
        ·rw [if_pos c12] at H
         have c12b0 : ((bt a0 x5_2) == 63) = true := beq_iff_eq.mpr c12
         have c12b1 : ((bt a0 x5_2) != 63) = false := bne_eq_false_iff_eq.mpr c12
         clear c12
         have H' := Aside0.mk H
         clear H
         have p11 : 0 ≤ (x5_2 : Int) := OD
         have q11 : x5_2 < (a0.size : Int) := OD
         have hx11 := bt_at a0 x5_2
         replace p11 := eq_true p11
         replace q11 := eq_true q11
         go_wp2
         repeat (go_quiet (fail); try go_wp2)
         go_roundg k2
         case measure => have := HJ2.out; have := HK2.out; omega
         case rel => exact ⟨(wrap64 (x5_2 + 1)), EQ, H', ⟨by have := HJ2.out; have := HK2.out; omega⟩, by repeat (first | exact Drawn0.refl _ | apply Drawn0.step)⟩
        ·rw [if_neg c12] at H
         have c12b0 : ((bt a0 x5_2) == 63) = false := beq_eq_false_iff_ne.mpr c12
         have c12b1 : ((bt a0 x5_2) != 63) = true := bne_iff_ne.mpr c12
         by_cases c14 : x5_2 < (a1.size : Int)
         ·rw [if_pos c14] at H
          have c14b0 : decide (x5_2 < (a1.size : Int)) = true := decide_eq_true c14
          clear c14
          by_cases c16 : (bt a0 x5_2) = (bt a1 x5_2)
          ·rw [if_pos c16] at H
           have c16b0 : ((bt a0 x5_2) == (bt a1 x5_2)) = true := beq_iff_eq.mpr c16
           have c16b1 : ((bt a0 x5_2) != (bt a1 x5_2)) = false := bne_eq_false_iff_eq.mpr c16
           clear c16
           have H' := Aside0.mk H
           clear H
           have p11 : 0 ≤ (x5_2 : Int) := OD
           have q11 : x5_2 < (a0.size : Int) := OD
           have hx11 := bt_at a0 x5_2
           replace p11 := eq_true p11
           replace q11 := eq_true q11
           have p13 : 0 ≤ (x5_2 : Int) := OD
           have q13 : x5_2 < (a0.size : Int) := OD
           have hx13 := bt_at a0 x5_2
           replace p13 := eq_true p13
           replace q13 := eq_true q13
           have p15 : 0 ≤ (x5_2 : Int) := OD
           have q15 : x5_2 < (a1.size : Int) := OD
           have hx15 := bt_at a1 x5_2
           replace p15 := eq_true p15
           replace q15 := eq_true q15
           go_wp2
           repeat (go_quiet (fail); try go_wp2)
           go_roundg k2
           case measure => have := HJ2.out; have := HK2.out; omega
           case rel => exact ⟨(wrap64 (x5_2 + 1)), EQ, H', ⟨by have := HJ2.out; have := HK2.out; omega⟩, by repeat (first | exact Drawn0.refl _ | apply Drawn0.step)⟩
          ·rw [if_neg c16] at H
           have c16b0 : ((bt a0 x5_2) == (bt a1 x5_2)) = false := beq_eq_false_iff_ne.mpr c16
           have c16b1 : ((bt a0 x5_2) != (bt a1 x5_2)) = true := bne_iff_ne.mpr c16
           obtain rfl := Option.some.inj H
           have p11 : 0 ≤ (x5_2 : Int) := OD
           have q11 : x5_2 < (a0.size : Int) := OD
           have hx11 := bt_at a0 x5_2
           replace p11 := eq_true p11
           replace q11 := eq_true q11
           have p13 : 0 ≤ (x5_2 : Int) := OD
           have q13 : x5_2 < (a0.size : Int) := OD
           have hx13 := bt_at a0 x5_2
           replace p13 := eq_true p13
           replace q13 := eq_true q13
           have p15 : 0 ≤ (x5_2 : Int) := OD
           have q15 : x5_2 < (a1.size : Int) := OD
           have hx15 := bt_at a1 x5_2
           replace p15 := eq_true p15
           replace q15 := eq_true q15
           go_wp2
           repeat (go_quiet (fail); try go_wp2)
           go_ret
           exact ⟨by first | rfl | (simp; done) | (simp [*]; done), by repeat (first | exact Drawn0.refl _ | apply Drawn0.step)⟩
         ·rw [if_neg c14] at H
          exact absurd H (by simp)
       ·rw [if_neg c10] at H
        exact absurd H (by simp)
      ·rw [if_neg c9] at H
       have c9b0 : decide (x5_2 < (a0.size : Int)) = false := decide_eq_false c9
       clear c9
       obtain rfl := Option.some.inj H
       go_wp2
       repeat (go_quiet (fail); try go_wp2)
       go_ret
       exact ⟨by first | rfl | (simp; done) | (simp [*]; done), by repeat (first | exact Drawn0.refl _ | apply Drawn0.step)⟩
mutual
def spec_GuessesFor.l0 : Nat → List (S54) → List ByteArray → ByteArray → Int → List ByteArray → Int → Int → List (S73) → Option (List ByteArray)
 | 0, _, _, _, _, _, _, _, _ => none
 | k + 1, x1, x2, x3, x4, x11, x12, x162000, x162001 => if x12 < (x2.length : Int) then ((spec_l1In.f x4 0 3).bind fun t165 => (spec_GuessesFor.j1 k x1 x2 x3 x4 x11 x12 t165 x162000 x162001)) else (spec_GuessesFor.j1 k x1 x2 x3 x4 x11 x12 false x162000 x162001)
def spec_GuessesFor.j1 : Nat → List (S54) → List ByteArray → ByteArray → Int → List ByteArray → Int → Bool → Int → List (S73) → Option (List ByteArray)
 | 0, _, _, _, _, _, _, _, _, _ => none
 | k + 1, x1, x2, x3, x4, x11, x12, x24, x162000, x162001 => if x24 = true then (if 0 ≤ x12 then (if x12 < (x2.length : Int) then (if (Int.tmod x4 2) = 0 then (spec_GuessesFor.j2 k x1 x2 x3 x4 x11 x12 (rdOf ByteArray.empty x2 x12) true x162000 x162001) else ((spec_HasSense.f k x1 (rdOf ByteArray.empty x2 x12) x162000).bind fun t167 => (spec_GuessesFor.j2 k x1 x2 x3 x4 x11 x12 (rdOf ByteArray.empty x2 x12) t167 x162000 x162001))) else (none)) else (none)) else (some x11)
def spec_GuessesFor.j2 : Nat → List (S54) → List ByteArray → ByteArray → Int → List ByteArray → Int → ByteArray → Bool → Int → List (S73) → Option (List ByteArray)
 | 0, _, _, _, _, _, _, _, _, _, _ => none
 | k + 1, x1, x2, x3, x4, x11, x12, x13, x14, x162000, x162001 => if x4 < 2 then (spec_GuessesFor.j3 k x1 x2 x3 x4 x11 x12 x13 x14 true x162000 x162001) else ((spec_Makes.f k x162001 x13).bind fun t168 => (spec_GuessesFor.j3 k x1 x2 x3 x4 x11 x12 x13 x14 t168 x162000 x162001))
def spec_GuessesFor.j3 : Nat → List (S54) → List ByteArray → ByteArray → Int → List ByteArray → Int → ByteArray → Bool → Bool → Int → List (S73) → Option (List ByteArray)
 | 0, _, _, _, _, _, _, _, _, _, _, _ => none
 | k + 1, x1, x2, x3, x4, x11, x12, x13, x14, x15, x162000, x162001 => (spec_FitsPattern.f k x3 x13).bind fun t169 => (if t169 = true then (if x14 = true then (if x15 = true then ((spec_HasWord.f k x11 x13).bind fun t170 => (if t170 = true then (spec_GuessesFor.l0 k x1 x2 x3 x4 x11 (wrap64 (x12 + 1)) x162000 x162001) else (if x11.length < 8796093022208 then (spec_GuessesFor.l0 k x1 x2 x3 x4 (x11 ++ [x13]) (wrap64 (x12 + 1)) x162000 x162001) else (none)))) else (spec_GuessesFor.l0 k x1 x2 x3 x4 x11 (wrap64 (x12 + 1)) x162000 x162001)) else (spec_GuessesFor.l0 k x1 x2 x3 x4 x11 (wrap64 (x12 + 1)) x162000 x162001)) else (spec_GuessesFor.l0 k x1 x2 x3 x4 x11 (wrap64 (x12 + 1)) x162000 x162001))
end
def spec_GuessesFor.f (k : Nat) (a0_0 : Int) (l0_1 : List (S73)) (l1 : List (S54)) (l2 : List ByteArray) (a3 : ByteArray) (a4 : Int) : Option (List ByteArray) := spec_GuessesFor.l0 k l1 l2 a3 a4 (([] : List ByteArray)) 0 a0_0 l0_1
set_option maxHeartbeats 8000000 in
set_option maxRecDepth 100000 in
theorem spec_GuessesFor.calls (k : Nat) (a0_0 : Int) (A0_1 : Option Addr) (c0_1 : Nat) (l0_1 : List (S73)) (A1 : Option Addr) (c1 : Nat) (l1 : List (S54)) (A2 : Option Addr) (c2 : Nat) (l2 : List ByteArray) (a3 : ByteArray) (a4 : Int) (r : List ByteArray) (w : World) (hr0_1 : Kd.C k73 w A0_1 l0_1.length l0_1) (hc0_1 : l0_1.length ≤ c0_1) (hr1 : Kd.C k54 w A1 l1.length l1) (hc1 : l1.length ≤ c1) (hr2 : Kd.C Kd.string w A2 l2.length l2) (hc2 : l2.length ≤ c2) (h : spec_GuessesFor.f k a0_0 l0_1 l1 l2 a3 a4 = some r) :
  Calls Try.prog 29 #[.agg #[.int .i64 a0_0, .slice A0_1 l0_1.length c0_1], .slice A1 l1.length c1, .slice A2 l2.length c2, .string a3, .int .i64 a4] w fun e w' => ∃ v0_ : Value, e = .returned (v0_) ∧ Kd.R Kd.string 9 w' w.heap.size (fun _ => True) v0_ r ∧ Below w.heap.size w w' := by
 have hu33 := Try.underlying33
 have HR0_1 := Aside0.mk hr0_1
 have HC0_1 := Aside0.mk hc0_1
 clear hr0_1 hc0_1
 have HR1 := Aside0.mk hr1
 have HC1 := Aside0.mk hc1
 clear hr1 hc1
 have HR2 := Aside0.mk hr2
 have HC2 := Aside0.mk hc2
 clear hr2 hc2
 have HB := Aside0.mk (Below.refl w.heap.size w)
 have H : (spec_GuessesFor.l0 k l1 l2 a3 a4 (([] : List ByteArray)) 0 a0_0 l0_1) = some r := h
 clear h
 obtain ⟨y162, hy162⟩ : ∃ y_ : List ByteArray, y_ = (([] : List ByteArray)) := ⟨_, rfl⟩
 replace H : (spec_GuessesFor.l0 k l1 l2 a3 a4 y162 0 a0_0 l0_1) = some r := by first | (rw [hy162]; with_reducible exact H) | (have H2_ := (Option.bind_some _ _).symm.trans H; rw [hy162]; with_reducible exact H2_) | (have H2_ := (Option.bind_some _ _).symm.trans H; with_reducible exact H2_) | with_reducible exact H | (rw [hy162]; exact H) | exact H
 have Ny162 := Aside0.mk hy162
 clear hy162
 have H' := Aside0.mk H
 clear H
 go_enter Try.func29, Try.ntmps29
 go_wp2_with (first | ((with_reducible refine gate_dst (N := 5) rfl ?_); refine box_ev (N := 5) (cs := #[.int .i64 a0_0, .slice A0_1 l0_1.length c0_1]) (t := 33) ?_; intro gb161 hg w6 hbox hb; have n0_ := BS (w := w) hb; have n1_ := Aside0.mk (hbox); have n2_ := SZ (w := w) hg; have n3_ := SZ (w := w) hg; clear HB; have HB := n0_; have BK161 := n1_; have GW161 := n2_; have GE161 := n3_; clear n0_ n1_ n2_ n3_; clear hb hbox hg) | ((with_reducible refine gate_dst (N := 16) rfl ?_); refine Kd.R_lit Kd.string _ 9 ?hg (N := 16) ?hd (xs := ([] : List ByteArray)) (inner := []) (ok := fun _ => True) (okp := fun _ => True) ?hr ?hp (fun _ hk => hk) trivial (Below.refl _ _) (Nat.le_refl _) (by simp) ?_; (case hd => rfl); (case hg => rfl); (case hr => first | (go_simp; done) | (go_simp; rfl)); (case hp => exact (Reps.none _ _)); intro v163 w7 ho8 hb hg_ hnew_; clear hg_ hnew_; (first | rw [← Ny162.out] at ho8 | (simp only [Int.reduceToNat] at ho8; rw [← Ny162.out] at ho8)); have n0_ := Aside0.mk (Kd.R_lower ho8 (below_size BL)); replace BK161 := KB BK161 hb; replace HB := BS (w := w) hb; have HO164 := n0_; clear n0_; clear hb ho8))
 go_loopg [11, 12] k (fun kq v11 v12 w' => ∃ (x11_1 : List ByteArray) (x12_1 : Int), v12 = .int .i64 x12_1 ∧ Aside0 (spec_GuessesFor.l0 kq l1 l2 a3 a4 x11_1 x12_1 a0_0 l0_1 = some r) ∧ Aside0 (kq ≤ k) ∧ Aside0 (Kd.R Kd.string 9 w' w.heap.size (fun _ => True) v11 x11_1) ∧ Aside0 (w'.heap[gb161]? = some (.cells #[.int .i64 a0_0, (.slice A0_1 l0_1.length c0_1)] 33 (0, 0))) ∧ Aside0 (Below w.heap.size w w'))
 case atStart => exact ⟨(y162), (0), EQ, H', ⟨Nat.le_refl _⟩, ⟨(RR HO164)⟩, ⟨BK⟩, ⟨BL⟩⟩
 case round =>
  clear H'
  try clear c1
  try clear c2
  obtain ⟨x11_1, x12_1, rfl, HA, HK1, HO_11, BK161, HB⟩ := hrel
  cases gk with
  | zero => exact absurd HA.out (by simp [spec_GuessesFor.l0])
  | succ k1 =>
   have H := HA.out
   clear HA
   simp only [spec_GuessesFor.l0] at H
   have HC9 := Aside0.mk H
   clear H
   go_upto_region 3 with (fail)
   go_cut [24] (fun v24 wc => ∃ (kq : Nat) (x24_8 : Bool), v24 = .bool x24_8 ∧ Aside0 (spec_GuessesFor.j1 kq l1 l2 a3 a4 x11_1 x12_1 x24_8 a0_0 l0_1 = some r) ∧ Aside0 (kq ≤ k1) ∧ Aside0 (Kd.R Kd.string 9 wc w.heap.size (fun _ => True) u11 x11_1) ∧ Aside0 (wc.heap[gb161]? = some (.cells #[.int .i64 a0_0, (.slice A0_1 l0_1.length c0_1)] 33 (0, 0))) ∧ Aside0 (Below w.heap.size w wc))
   case first =>
    have H := HC9.out
    clear HC9
    by_cases c10 : x12_1 < (l2.length : Int)
    ·rw [if_pos c10] at H
     have c10b0 : decide (x12_1 < (l2.length : Int)) = true := decide_eq_true c10
     clear c10
     (first | rw [c10b0] | (simp only [i64_w, i32_w]; rw [c10b0]) | skip)
     replace H := Option.bind_eq_some_iff.mp H
     obtain ⟨t165, A110, H⟩ := H
     replace H : (spec_GuessesFor.j1 k1 l1 l2 a3 a4 x11_1 x12_1 t165 a0_0 l0_1) = some r := H
     have A11 := Aside0.mk A110
     clear A110
     have H' := Aside0.mk H
     clear H
     go_wp2_with (first | (go_at_call 55; (with_reducible refine (spec_l1In.calls a4 0 3 t165 _ A11.out).mono ?_); rintro e w' ⟨rfl, ⟨nd, rfl⟩⟩))
     go_meet
     case rel => exact ⟨_, (t165), EQ, H', ⟨by have := HK1.out; first | omega | exact Nat.le_refl _⟩, ⟨(RR HO_11)⟩, ⟨BK⟩, ⟨BL⟩⟩
    ·rw [if_neg c10] at H
     have c10b0 : decide (x12_1 < (l2.length : Int)) = false := decide_eq_false c10
     clear c10
     (first | rw [c10b0] | (simp only [i64_w, i32_w]; rw [c10b0]) | skip)
     have H' := Aside0.mk H
     clear H
     go_wp2
     go_meet
     case rel => exact ⟨_, (false), EQ, H', ⟨by have := HK1.out; first | omega | exact Nat.le_refl _⟩, ⟨(RR HO_11)⟩, ⟨BK⟩, ⟨BL⟩⟩
   case rest =>
    clear HC9
    try clear c1
    try clear c2
    obtain ⟨kq, x24_8, rfl, HA, HJ8, HO_11, BK161, HB⟩ := hcut
    cases kq with
    | zero => exact absurd HA.out (by simp [spec_GuessesFor.j1])
    | succ kj8 =>
     have H := HA.out
     clear HA
     simp only [spec_GuessesFor.j1] at H
     by_cases c12 : x24_8 = true
     ·subst c12
      have H1 : (if 0 ≤ x12_1 then (if x12_1 < (l2.length : Int) then (if (Int.tmod a4 2) = 0 then (spec_GuessesFor.j2 kj8 l1 l2 a3 a4 x11_1 x12_1 (rdOf ByteArray.empty l2 x12_1) true a0_0 l0_1) else ((spec_HasSense.f kj8 l1 (rdOf ByteArray.empty l2 x12_1) a0_0).bind fun t167 => (spec_GuessesFor.j2 kj8 l1 l2 a3 a4 x11_1 x12_1 (rdOf ByteArray.empty l2 x12_1) t167 a0_0 l0_1))) else (none)) else (none)) = some r := by rw [if_pos rfl] at H; exact H
      clear H
      have H := H1
      clear H1
      by_cases c13 : 0 ≤ x12_1
      ·rw [if_pos c13] at H
       have c13b0 : decide (0 ≤ x12_1) = true := decide_eq_true c13
       clear c13
       by_cases c14 : x12_1 < (l2.length : Int)
       ·rw [if_pos c14] at H
        have c14b0 : decide (x12_1 < (l2.length : Int)) = true := decide_eq_true c14
        clear c14
        have HC15 := Aside0.mk H
        clear H
        have p166 : 0 ≤ (x12_1 : Int) := OD
        have q166 : x12_1 < (l2.length : Int) := OD
        obtain ⟨ad166, e166, hx166_0⟩ := Kd.at_string HR2.out x12_1 p166 q166
        cases e166
        replace hx166_0 := (HB.out.cell (World.block_lt_of_cell? w _ hx166_0)).trans hx166_0
        replace p166 := eq_true p166
        replace q166 := eq_true q166
        go_upto_region 6 with (fail)
        go_cut [14] (fun v14 wc => ∃ (kq : Nat) (x14_14 : Bool), v14 = .bool x14_14 ∧ Aside0 (spec_GuessesFor.j2 kq l1 l2 a3 a4 x11_1 x12_1 (rdOf ByteArray.empty l2 x12_1) x14_14 a0_0 l0_1 = some r) ∧ Aside0 (kq ≤ kj8) ∧ Aside0 (Kd.R Kd.string 9 wc w.heap.size (fun _ => True) u11 x11_1) ∧ Aside0 (wc.heap[gb161]? = some (.cells #[.int .i64 a0_0, (.slice A0_1 l0_1.length c0_1)] 33 (0, 0))) ∧ Aside0 (Below w.heap.size w wc))
        case first =>
         have H := HC15.out
         clear HC15
         by_cases c16 : (Int.tmod a4 2) = 0
         ·rw [if_pos c16] at H
          have c16b0 : ((Int.tmod a4 2) == 0) = true := beq_iff_eq.mpr c16
          have c16b1 : ((Int.tmod a4 2) != 0) = false := bne_eq_false_iff_eq.mpr c16
          clear c16
          (first | rw [c16b0] | (simp only [i64_w, i32_w]; rw [c16b0]) | skip)
          have H' := Aside0.mk H
          clear H
          go_wp2
          go_meet
          case rel => exact ⟨_, (true), EQ, H', ⟨by have := HK1.out; have := HJ8.out; first | omega | exact Nat.le_refl _⟩, ⟨(RR HO_11)⟩, ⟨BK⟩, ⟨BL⟩⟩
         ·rw [if_neg c16] at H
          have c16b0 : ((Int.tmod a4 2) == 0) = false := beq_eq_false_iff_ne.mpr c16
          have c16b1 : ((Int.tmod a4 2) != 0) = true := bne_iff_ne.mpr c16
          (first | rw [c16b0] | (simp only [i64_w, i32_w]; rw [c16b0]) | skip)
          replace H := Option.bind_eq_some_iff.mp H
          obtain ⟨t167, A170, H⟩ := H
          replace H : (spec_GuessesFor.j2 kj8 l1 l2 a3 a4 x11_1 x12_1 (rdOf ByteArray.empty l2 x12_1) t167 a0_0 l0_1) = some r := H
          have A17 := Aside0.mk A170
          clear A170
          have H' := Aside0.mk H
          clear H
          obtain ⟨hcz18_0, hcz18_1, hfz18_0, hfz18_1⟩ := cz2 BK161.out
          go_wp2_with (first | (go_at_call 46; (with_reducible refine (spec_HasSense.calls kj8 _ _ l1 (rdOf ByteArray.empty l2 x12_1) a0_0 t167 _ ?side1 ?side2 A17.out).mono ?_); (case side1 => exact CB HR1); (case side2 => exact HC1.out); rintro e w' ⟨rfl, ⟨nd, rfl⟩⟩))
          go_meet
          case rel => exact ⟨_, (t167), EQ, H', ⟨by have := HK1.out; have := HJ8.out; first | omega | exact Nat.le_refl _⟩, ⟨(RR HO_11)⟩, ⟨BK⟩, ⟨BL⟩⟩
        case rest =>
         clear HC15
         try clear c1
         try clear c2
         try clear c12
         try clear c13
         try clear c13b0
         try clear c14
         try clear c14b0
         try clear hx166_0
         try clear p166
         try clear q166
         obtain ⟨kq, x14_14, rfl, HA, HJ14, HO_11, BK161, HB⟩ := hcut
         cases kq with
         | zero => exact absurd HA.out (by simp [spec_GuessesFor.j2])
         | succ kj14 =>
          have H := HA.out
          clear HA
          simp only [spec_GuessesFor.j2] at H
          have HC19 := Aside0.mk H
          clear H
          go_upto_region 7 with (fail)
          go_cut [15] (fun v15 wc => ∃ (kq : Nat) (x15_18 : Bool), v15 = .bool x15_18 ∧ Aside0 (spec_GuessesFor.j3 kq l1 l2 a3 a4 x11_1 x12_1 (rdOf ByteArray.empty l2 x12_1) x14_14 x15_18 a0_0 l0_1 = some r) ∧ Aside0 (kq ≤ kj14) ∧ Aside0 (Kd.R Kd.string 9 wc w.heap.size (fun _ => True) u11 x11_1) ∧ Aside0 (wc.heap[gb161]? = some (.cells #[.int .i64 a0_0, (.slice A0_1 l0_1.length c0_1)] 33 (0, 0))) ∧ Aside0 (Below w.heap.size w wc))
          case first =>
           have H := HC19.out
           clear HC19
           by_cases c20 : a4 < 2
           ·rw [if_pos c20] at H
            have c20b0 : decide (a4 < 2) = true := decide_eq_true c20
            clear c20
            (first | rw [c20b0] | (simp only [i64_w, i32_w]; rw [c20b0]) | skip)
            have H' := Aside0.mk H
            clear H
            go_wp2
            go_meet
            case rel => exact ⟨_, (true), EQ, H', ⟨by have := HK1.out; have := HJ8.out; have := HJ14.out; first | omega | exact Nat.le_refl _⟩, ⟨(RR HO_11)⟩, ⟨BK⟩, ⟨BL⟩⟩
           ·rw [if_neg c20] at H
            have c20b0 : decide (a4 < 2) = false := decide_eq_false c20
            clear c20
            (first | rw [c20b0] | (simp only [i64_w, i32_w]; rw [c20b0]) | skip)
            replace H := Option.bind_eq_some_iff.mp H
            obtain ⟨t168, A210, H⟩ := H
            replace H : (spec_GuessesFor.j3 kj14 l1 l2 a3 a4 x11_1 x12_1 (rdOf ByteArray.empty l2 x12_1) x14_14 t168 a0_0 l0_1) = some r := H
            have A21 := Aside0.mk A210
            clear A210
            have H' := Aside0.mk H
            clear H
            obtain ⟨hcz22_0, hcz22_1, hfz22_0, hfz22_1⟩ := cz2 BK161.out
            go_wp2_with (first | (go_at_call 47; (with_reducible refine (spec_Makes.calls kj14 _ _ l0_1 (rdOf ByteArray.empty l2 x12_1) t168 _ ?side1 ?side2 A21.out).mono ?_); (case side1 => exact CB HR0_1); (case side2 => exact HC0_1.out); rintro e w23 ⟨rfl, hb⟩; replace HO_11 := RB HO_11 hb; replace BK161 := KB BK161 hb; replace HB := BS (w := w) hb; (try clear hb); (try clear hb2); (try clear hk); (try clear hi)))
            go_meet
            case rel => exact ⟨_, (t168), EQ, H', ⟨by have := HK1.out; have := HJ8.out; have := HJ14.out; first | omega | exact Nat.le_refl _⟩, ⟨(RR HO_11)⟩, ⟨BK⟩, ⟨BL⟩⟩
          case rest =>
           clear HC19
           try clear c1
           try clear c2
           try clear c12
           try clear c13
           try clear c13b0
           try clear c14
           try clear c14b0
           try clear hx166_0
           try clear p166
           try clear q166
           obtain ⟨kq, x15_18, rfl, HA, HJ18, HO_11, BK161, HB⟩ := hcut
           cases kq with
           | zero => exact absurd HA.out (by simp [spec_GuessesFor.j3])
           | succ kj18 =>
            have H := HA.out
            clear HA
            simp only [spec_GuessesFor.j3] at H
            replace H := Option.bind_eq_some_iff.mp H
            obtain ⟨t169, A240, H⟩ := H
            replace H : (if t169 = true then (if x14_14 = true then (if x15_18 = true then ((spec_HasWord.f kj18 x11_1 (rdOf ByteArray.empty l2 x12_1)).bind fun t170 => (if t170 = true then (spec_GuessesFor.l0 kj18 l1 l2 a3 a4 x11_1 (wrap64 (x12_1 + 1)) a0_0 l0_1) else (if x11_1.length < 8796093022208 then (spec_GuessesFor.l0 kj18 l1 l2 a3 a4 (x11_1 ++ [(rdOf ByteArray.empty l2 x12_1)]) (wrap64 (x12_1 + 1)) a0_0 l0_1) else (none)))) else (spec_GuessesFor.l0 kj18 l1 l2 a3 a4 x11_1 (wrap64 (x12_1 + 1)) a0_0 l0_1)) else (spec_GuessesFor.l0 kj18 l1 l2 a3 a4 x11_1 (wrap64 (x12_1 + 1)) a0_0 l0_1)) else (spec_GuessesFor.l0 kj18 l1 l2 a3 a4 x11_1 (wrap64 (x12_1 + 1)) a0_0 l0_1)) = some r := H
            have A24 := Aside0.mk A240
            clear A240
            by_cases c25 : t169 = true
            ·subst c25
             have H1 : (if x14_14 = true then (if x15_18 = true then ((spec_HasWord.f kj18 x11_1 (rdOf ByteArray.empty l2 x12_1)).bind fun t170 => (if t170 = true then (spec_GuessesFor.l0 kj18 l1 l2 a3 a4 x11_1 (wrap64 (x12_1 + 1)) a0_0 l0_1) else (if x11_1.length < 8796093022208 then (spec_GuessesFor.l0 kj18 l1 l2 a3 a4 (x11_1 ++ [(rdOf ByteArray.empty l2 x12_1)]) (wrap64 (x12_1 + 1)) a0_0 l0_1) else (none)))) else (spec_GuessesFor.l0 kj18 l1 l2 a3 a4 x11_1 (wrap64 (x12_1 + 1)) a0_0 l0_1)) else (spec_GuessesFor.l0 kj18 l1 l2 a3 a4 x11_1 (wrap64 (x12_1 + 1)) a0_0 l0_1)) = some r := by rw [if_pos rfl] at H; exact H
             clear H
             have H := H1
             clear H1
             by_cases c26 : x14_14 = true
             ·subst c26
              have H1 : (if x15_18 = true then ((spec_HasWord.f kj18 x11_1 (rdOf ByteArray.empty l2 x12_1)).bind fun t170 => (if t170 = true then (spec_GuessesFor.l0 kj18 l1 l2 a3 a4 x11_1 (wrap64 (x12_1 + 1)) a0_0 l0_1) else (if x11_1.length < 8796093022208 then (spec_GuessesFor.l0 kj18 l1 l2 a3 a4 (x11_1 ++ [(rdOf ByteArray.empty l2 x12_1)]) (wrap64 (x12_1 + 1)) a0_0 l0_1) else (none)))) else (spec_GuessesFor.l0 kj18 l1 l2 a3 a4 x11_1 (wrap64 (x12_1 + 1)) a0_0 l0_1)) = some r := by rw [if_pos rfl] at H; exact H
              clear H
              have H := H1
              clear H1
              by_cases c27 : x15_18 = true
              ·subst c27
               have H1 : ((spec_HasWord.f kj18 x11_1 (rdOf ByteArray.empty l2 x12_1)).bind fun t170 => (if t170 = true then (spec_GuessesFor.l0 kj18 l1 l2 a3 a4 x11_1 (wrap64 (x12_1 + 1)) a0_0 l0_1) else (if x11_1.length < 8796093022208 then (spec_GuessesFor.l0 kj18 l1 l2 a3 a4 (x11_1 ++ [(rdOf ByteArray.empty l2 x12_1)]) (wrap64 (x12_1 + 1)) a0_0 l0_1) else (none)))) = some r := by rw [if_pos rfl] at H; exact H
               clear H
               have H := H1
               clear H1
               replace H := Option.bind_eq_some_iff.mp H
               obtain ⟨t170, A280, H⟩ := H
               replace H : (if t170 = true then (spec_GuessesFor.l0 kj18 l1 l2 a3 a4 x11_1 (wrap64 (x12_1 + 1)) a0_0 l0_1) else (if x11_1.length < 8796093022208 then (spec_GuessesFor.l0 kj18 l1 l2 a3 a4 (x11_1 ++ [(rdOf ByteArray.empty l2 x12_1)]) (wrap64 (x12_1 + 1)) a0_0 l0_1) else (none))) = some r := H
               have A28 := Aside0.mk A280
               clear A280
               by_cases c29 : t170 = true
               ·subst c29
                have H1 : (spec_GuessesFor.l0 kj18 l1 l2 a3 a4 x11_1 (wrap64 (x12_1 + 1)) a0_0 l0_1) = some r := by rw [if_pos rfl] at H; exact H
                clear H
                have H := H1
                clear H1
                have H' := Aside0.mk H
                clear H
                go_wp2_with (first | ((with_reducible refine gate_callee (f := 56) rfl ?_); refine goesS (some 51) Try.func56 #[.string a3, .string (rdOf ByteArray.empty l2 x12_1)] ?_; (with_reducible refine (spec_FitsPattern.calls kj18 a3 (rdOf ByteArray.empty l2 x12_1) true _ A24.out).mono ?_); rintro e w' ⟨rfl, ⟨nd, rfl⟩⟩; refine ⟨_, rfl, ?_⟩; obtain ⟨Ao30, co30, eo30⟩ := Kd.R_slice HO_11.out; subst eo30) | (go_at_call 38; (with_reducible refine (spec_HasWord.calls kj18 _ _ x11_1 (rdOf ByteArray.empty l2 x12_1) true _ ?side1 ?side2 A28.out).mono ?_); (case side1 => exact CR2 HO_11); (case side2 => exact (Kd.R_reads' HO_11.out).2.1); rintro e w' ⟨rfl, ⟨nd, rfl⟩⟩))
                go_roundg kj18
                case measure => have := HK1.out; have := HJ8.out; have := HJ14.out; have := HJ18.out; omega
                case rel => exact ⟨(x11_1), (wrap64 (x12_1 + 1)), EQ, H', ⟨by have := HK1.out; have := HJ8.out; have := HJ14.out; have := HJ18.out; omega⟩, ⟨(RR HO_11)⟩, ⟨BK⟩, ⟨BL⟩⟩
               ·replace c29 := Bool.eq_false_iff.mpr c29
                subst c29
                have H1 : (if x11_1.length < 8796093022208 then (spec_GuessesFor.l0 kj18 l1 l2 a3 a4 (x11_1 ++ [(rdOf ByteArray.empty l2 x12_1)]) (wrap64 (x12_1 + 1)) a0_0 l0_1) else (none)) = some r := by rw [if_neg (show ¬ (false = true) by decide)] at H; exact H
                clear H
                have H := H1
                clear H1
                by_cases c31 : x11_1.length < 8796093022208
                ·rw [if_pos c31] at H
                 have LMc31 := Aside0.mk c31
                 clear c31
                 obtain ⟨y171, hy171⟩ : ∃ y_ : List ByteArray, y_ = (x11_1 ++ [(rdOf ByteArray.empty l2 x12_1)]) := ⟨_, rfl⟩
                 replace H : (spec_GuessesFor.l0 kj18 l1 l2 a3 a4 y171 (wrap64 (x12_1 + 1)) a0_0 l0_1) = some r := by first | (rw [hy171]; with_reducible exact H) | (have H2_ := (Option.bind_some _ _).symm.trans H; rw [hy171]; with_reducible exact H2_) | (have H2_ := (Option.bind_some _ _).symm.trans H; with_reducible exact H2_) | with_reducible exact H | (rw [hy171]; exact H) | exact H
                 have Ny171 := Aside0.mk hy171
                 clear hy171
                 have H' := Aside0.mk H
                 clear H
                 go_wp2_with (first | ((with_reducible refine gate_callee (f := 56) rfl ?_); refine goesS (some 51) Try.func56 #[.string a3, .string (rdOf ByteArray.empty l2 x12_1)] ?_; (with_reducible refine (spec_FitsPattern.calls kj18 a3 (rdOf ByteArray.empty l2 x12_1) true _ A24.out).mono ?_); rintro e w' ⟨rfl, ⟨nd, rfl⟩⟩; refine ⟨_, rfl, ?_⟩; obtain ⟨Ao32, co32, eo32⟩ := Kd.R_slice HO_11.out; subst eo32) | (go_at_call 38; (with_reducible refine (spec_HasWord.calls kj18 _ _ x11_1 (rdOf ByteArray.empty l2 x12_1) false _ ?side1 ?side2 A28.out).mono ?_); (case side1 => exact CR2 HO_11); (case side2 => exact (Kd.R_reads' HO_11.out).2.1); rintro e w' ⟨rfl, ⟨nd, rfl⟩⟩) | ((with_reducible refine gate_builtin (b := .append) (xs := #[.tmp 64, .tmp 66]) rfl ?_); at_builtin; refine Kd.R_append Kd.string (w0 := w) w.heap.size rfl (.tmp 64) (.tmp 66) 26 9 (.string ⟨#[]⟩) 16 rfl Try.underlying26 info9 rfl (by decide) (by omega) (.slice Ao32 x11_1.length co32) x11_1 (rdOf ByteArray.empty l2 x12_1) [.string (rdOf ByteArray.empty l2 x12_1)] (fun _ => True) (fun _ => False) rfl rfl ?aP (fun _ hk => hk.elim) ?aF ?aO ?aB ?aS ?aL ?_; (case aP => exact rfl); (case aB => exact BL); (case aF => exact (fun _ _ => trivial)); (case aO => exact (RR HO_11)); (case aS => exact (below_size BL)); (case aL => have := LMc31.out; omega); intro v172 w33 ho hb hg hat; rw [← Ny171.out] at ho; have n0_ := Aside0.mk (blk_grown (g := gb161) (o := .cells #[.int .i64 a0_0, .slice A0_1 l0_1.length c0_1] 33 (0, 0)) BK hg (Kd.R_ne HO_11.out BK161.out (by decide))); have n1_ := Aside0.mk (hb); have n2_ := Aside0.mk (ho); clear BK161 HB HO_11; have BK161 := n0_; have HB := n1_; have HO173 := n2_; clear n0_ n1_ n2_; clear ho hb hg hat))
                 go_roundg kj18
                 case measure => have := HK1.out; have := HJ8.out; have := HJ14.out; have := HJ18.out; omega
                 case rel => exact ⟨(y171), (wrap64 (x12_1 + 1)), EQ, H', ⟨by have := HK1.out; have := HJ8.out; have := HJ14.out; have := HJ18.out; omega⟩, ⟨(RR HO173)⟩, ⟨BK⟩, ⟨BL⟩⟩
                ·rw [if_neg c31] at H
                 exact absurd H (by simp)
              ·replace c27 := Bool.eq_false_iff.mpr c27
               subst c27
               have H1 : (spec_GuessesFor.l0 kj18 l1 l2 a3 a4 x11_1 (wrap64 (x12_1 + 1)) a0_0 l0_1) = some r := by rw [if_neg (show ¬ (false = true) by decide)] at H; exact H
               clear H
               have H := H1
               clear H1
               have H' := Aside0.mk H
               clear H
               go_wp2_with (first | ((with_reducible refine gate_callee (f := 56) rfl ?_); refine goesS (some 51) Try.func56 #[.string a3, .string (rdOf ByteArray.empty l2 x12_1)] ?_; (with_reducible refine (spec_FitsPattern.calls kj18 a3 (rdOf ByteArray.empty l2 x12_1) true _ A24.out).mono ?_); rintro e w' ⟨rfl, ⟨nd, rfl⟩⟩; refine ⟨_, rfl, ?_⟩))
               go_roundg kj18
               case measure => have := HK1.out; have := HJ8.out; have := HJ14.out; have := HJ18.out; omega
               case rel => exact ⟨(x11_1), (wrap64 (x12_1 + 1)), EQ, H', ⟨by have := HK1.out; have := HJ8.out; have := HJ14.out; have := HJ18.out; omega⟩, ⟨(RR HO_11)⟩, ⟨BK⟩, ⟨BL⟩⟩
             ·replace c26 := Bool.eq_false_iff.mpr c26
              subst c26
              have H1 : (spec_GuessesFor.l0 kj18 l1 l2 a3 a4 x11_1 (wrap64 (x12_1 + 1)) a0_0 l0_1) = some r := by rw [if_neg (show ¬ (false = true) by decide)] at H; exact H
              clear H
              have H := H1
              clear H1
              have H' := Aside0.mk H
              clear H
              go_wp2_with (first | ((with_reducible refine gate_callee (f := 56) rfl ?_); refine goesS (some 51) Try.func56 #[.string a3, .string (rdOf ByteArray.empty l2 x12_1)] ?_; (with_reducible refine (spec_FitsPattern.calls kj18 a3 (rdOf ByteArray.empty l2 x12_1) true _ A24.out).mono ?_); rintro e w' ⟨rfl, ⟨nd, rfl⟩⟩; refine ⟨_, rfl, ?_⟩))
              go_roundg kj18
              case measure => have := HK1.out; have := HJ8.out; have := HJ14.out; have := HJ18.out; omega
              case rel => exact ⟨(x11_1), (wrap64 (x12_1 + 1)), EQ, H', ⟨by have := HK1.out; have := HJ8.out; have := HJ14.out; have := HJ18.out; omega⟩, ⟨(RR HO_11)⟩, ⟨BK⟩, ⟨BL⟩⟩
            ·replace c25 := Bool.eq_false_iff.mpr c25
             subst c25
             have H1 : (spec_GuessesFor.l0 kj18 l1 l2 a3 a4 x11_1 (wrap64 (x12_1 + 1)) a0_0 l0_1) = some r := by rw [if_neg (show ¬ (false = true) by decide)] at H; exact H
             clear H
             have H := H1
             clear H1
             have H' := Aside0.mk H
             clear H
             go_wp2_with (first | ((with_reducible refine gate_callee (f := 56) rfl ?_); refine goesS (some 51) Try.func56 #[.string a3, .string (rdOf ByteArray.empty l2 x12_1)] ?_; (with_reducible refine (spec_FitsPattern.calls kj18 a3 (rdOf ByteArray.empty l2 x12_1) false _ A24.out).mono ?_); rintro e w' ⟨rfl, ⟨nd, rfl⟩⟩; refine ⟨_, rfl, ?_⟩))
             go_roundg kj18
             case measure => have := HK1.out; have := HJ8.out; have := HJ14.out; have := HJ18.out; omega
             case rel => exact ⟨(x11_1), (wrap64 (x12_1 + 1)), EQ, H', ⟨by have := HK1.out; have := HJ8.out; have := HJ14.out; have := HJ18.out; omega⟩, ⟨(RR HO_11)⟩, ⟨BK⟩, ⟨BL⟩⟩
       ·rw [if_neg c14] at H
        exact absurd H (by simp)
      ·rw [if_neg c13] at H
       exact absurd H (by simp)
     ·replace c12 := Bool.eq_false_iff.mpr c12
      subst c12
      have H1 : (some x11_1) = some r := by rw [if_neg (show ¬ (false = true) by decide)] at H; exact H
      clear H
      have H := H1
      clear H1
      obtain rfl := Option.some.inj H
      go_wp2
      go_ret
      exact ⟨_, EWW, (RR HO_11), BL⟩
def spec_Gain.f (k : Nat) (a0_0 : Int) (l0_1 : List (S73)) (l1 : List (S54)) (l2 : List ByteArray) (a3 : ByteArray) : Option (Int) := (spec_GuessesFor.f k a0_0 l0_1 l1 l2 a3 0).bind fun t175 => ((spec_GuessesFor.f k a0_0 l0_1 l1 l2 a3 3).bind fun t178 => (some (wrap64 ((t175.length : Int) - (t178.length : Int)))))
def spec_Gain.T1 : Bool × List (List Nat × List Nat) := (true, [([], []), ([], []), ([], []), ([], []), ([0, 1, 2, 3], [0, 1, 2, 3]), ([4], [4]), ([], []), ([], []), ([], []), ([], []), ([6, 7, 8, 9, 4], [6, 7, 8, 9]), ([10], [10]), ([5, 11], [5, 11]), ([12, 10, 0, 1, 2, 3, 4, 5, 6, 7, 8, 9, 10, 11, 12], [12])])
def spec_Gain.B1 : List Nat := [0, 0, 0, 0, 15, 31, 0, 0, 0, 0, 991, 2015, 4095, 8191]
theorem spec_Gain.tab1 : rtab .any (opsOf Try.f11 1) = spec_Gain.T1 := by kernel_rfl
theorem spec_Gain.bits1 : waitsOk spec_Gain.T1.2 spec_Gain.B1 = true := by kernel_rfl
set_option maxHeartbeats 8000000 in
set_option maxRecDepth 100000 in
theorem spec_Gain.calls (k : Nat) (a0_0 : Int) (A0_1 : Option Addr) (c0_1 : Nat) (l0_1 : List (S73)) (A1 : Option Addr) (c1 : Nat) (l1 : List (S54)) (A2 : Option Addr) (c2 : Nat) (l2 : List ByteArray) (a3 : ByteArray) (r : Int) (w : World) (hr0_1 : Kd.C k73 w A0_1 l0_1.length l0_1) (hc0_1 : l0_1.length ≤ c0_1) (hr1 : Kd.C k54 w A1 l1.length l1) (hc1 : l1.length ≤ c1) (hr2 : Kd.C Kd.string w A2 l2.length l2) (hc2 : l2.length ≤ c2) (h : spec_Gain.f k a0_0 l0_1 l1 l2 a3 = some r) :
  Calls Try.prog 11 #[.agg #[.int .i64 a0_0, .slice A0_1 l0_1.length c0_1], .slice A1 l1.length c1, .slice A2 l2.length c2, .string a3] w fun e w' => e = .returned (.int .i64 r) ∧ Below w.heap.size w w' := by
 have hu33 := Try.underlying33
 have HR0_1 := Aside0.mk hr0_1
 have HC0_1 := Aside0.mk hc0_1
 clear hr0_1 hc0_1
 have HR1 := Aside0.mk hr1
 have HC1 := Aside0.mk hc1
 clear hr1 hc1
 have HR2 := Aside0.mk hr2
 have HC2 := Aside0.mk hc2
 clear hr2 hc2
 have HB := Aside0.mk (Below.refl w.heap.size w)
 have H : ((spec_GuessesFor.f k a0_0 l0_1 l1 l2 a3 0).bind fun t175 => ((spec_GuessesFor.f k a0_0 l0_1 l1 l2 a3 3).bind fun t178 => (some (wrap64 ((t175.length : Int) - (t178.length : Int)))))) = some r := h
 clear h
 replace H := Option.bind_eq_some_iff.mp H
 obtain ⟨t175, A50, H⟩ := H
 replace H : ((spec_GuessesFor.f k a0_0 l0_1 l1 l2 a3 3).bind fun t178 => (some (wrap64 ((t175.length : Int) - (t178.length : Int))))) = some r := H
 have A5 := Aside0.mk A50
 clear A50
 replace H := Option.bind_eq_some_iff.mp H
 obtain ⟨t178, A60, H⟩ := H
 replace H : (some (wrap64 ((t175.length : Int) - (t178.length : Int)))) = some r := H
 have A6 := Aside0.mk A60
 clear A60
 obtain rfl := Option.some.inj H
 go_enter Try.func11, Try.ntmps11
 try go_wp2_with (first | ((with_reducible refine gate_dst (N := 4) rfl ?_); refine box_ev (N := 4) (cs := #[.int .i64 a0_0, .slice A0_1 l0_1.length c0_1]) (t := 33) ?_; intro gb174 hg w7 hbox hb; have n0_ := BS (w := w) hb; have n1_ := Aside0.mk (hbox); have n2_ := SZ (w := w) hg; have n3_ := SZ (w := w) hg; clear HB; have HB := n0_; have BK174 := n1_; have GW174 := n2_; have GE174 := n3_; clear n0_ n1_ n2_ n3_; clear hb hbox hg))
 have n0_ := Aside0.mk (blk_drew BK174.out)
 have n1_ := Aside0.mk (below_drew1 HB.out)
 clear BK174
 clear HB
 have BK174 := n0_
 have HB := n1_
 clear n0_ n1_
 refine start_ (n := 14) (S := fun w' => w'.cell? ⟨gb174, 0, none⟩ = some (.int .i64 a0_0) ∧ w'.cell? ⟨gb174, 1, none⟩ = some (.slice A0_1 l0_1.length c0_1)) (ds := []) #[false, false, false, false, false, false, false, false, false, false, false, false, false, false] (by kernel_rfl) rfl rfl ⟨(blk_cell BK174.out 0).trans rfl, (blk_cell BK174.out 1).trans rfl⟩ (fun hHeld => ?_); refine with_tabW spec_Gain.tab1 spec_Gain.bits1 (fun HT_ HW_ => ?_)
 generalize w7.drew = w8 at BK174 HB hHeld ⊢
 refine puS (i := 1) (N := some 10) #[false, true, false, false, false, false, false, false, false, false, false, false, false, false] (any_of HT_.out (by kernel_rfl)) ?_
 refine puS (i := 2) (N := some 11) #[false, true, true, false, false, false, false, false, false, false, false, false, false, false] (any_of HT_.out (by kernel_rfl)) ?_
 refine puS (i := 3) (N := some 12) #[false, true, true, true, false, false, false, false, false, false, false, false, false, false] (any_of HT_.out (by kernel_rfl)) ?_
 refine puS (i := 7) (N := some 16) #[false, true, true, true, false, false, false, true, false, false, false, false, false, false] (any_of HT_.out (by kernel_rfl)) ?_
 refine puS (i := 8) (N := some 17) #[false, true, true, true, false, false, false, true, true, false, false, false, false, false] (any_of HT_.out (by kernel_rfl)) ?_
 refine puS (i := 9) (N := some 18) #[false, true, true, true, false, false, false, true, true, true, false, false, false, false] (any_of HT_.out (by kernel_rfl)) ?_
 refine take_ (i := 0) (N := some 9) (v := ?_) (a' := ?_) #[true, true, true, true, false, false, false, true, true, true, false, false, false, false] rfl rfl (take_ofW HT_.out HW_.out (by kernel_rfl)) (fun _ _ _ h => h) (Or.inl ⟨by rfl, ?_⟩) hHeld ?_ ?_
 rotate_left
 ·rintro w' ⟨s0, s1⟩
  go_simp
  with_reducible rfl
 rotate_left
 ·simp only [Act.put, PT, i64_w, i32_w]
  rfl
 refine take_ (i := 6) (N := some 15) (v := ?_) (a' := ?_) #[true, true, true, true, false, false, true, true, true, true, false, false, false, false] rfl rfl (take_ofW HT_.out HW_.out (by kernel_rfl)) (fun _ _ _ h => h) (Or.inl ⟨by rfl, ?_⟩) hHeld ?_ ?_
 rotate_left
 ·rintro w' ⟨s0, s1⟩
  go_simp
  with_reducible rfl
 rotate_left
 ·simp only [Act.put, PT, i64_w, i32_w]
  rfl
 refine one_ (i := 4) (N := some 13) #[true, true, true, true, true, false, true, true, true, true, false, false, false, false] rfl rfl (one_of HT_.out (by kernel_rfl)) (by decide) (fun K hK => ?_)
 refine goes_ Try.func29 (by kernel_rfl) rfl #[.agg #[.int .i64 a0_0, .slice A0_1 l0_1.length c0_1], .slice A1 l1.length c1, .slice A2 l2.length c2, .string a3, .int .i64 0] (by rfl) rfl rfl (by (try simp only [List.map_toArray, List.map_cons, List.map_nil]); first | done | rfl | (simp only [List.length_drop, List.length_take]; rfl)) ?_
 with_reducible refine (spec_GuessesFor.calls k a0_0 _ _ l0_1 _ _ l1 _ _ l2 a3 0 t175 _ ?side1 ?side2 ?side3 ?side4 ?side5 ?side6 A5.out).mono ?_
 (case side1 => exact CB HR0_1)
 (case side2 => exact HC0_1.out)
 (case side3 => exact CB HR1)
 (case side4 => exact HC1.out)
 (case side5 => exact CB HR2)
 (case side6 => exact HC2.out)
 rintro e w9 ⟨v176, rfl, ho0, hb⟩
 refine ⟨_, rfl, ?_⟩
 have n0_ := Aside0.mk (Kd.R_lower ho0 (below_size BL))
 have n1_ := KB BK174 hb
 have n2_ := BS (w := w) hb
 clear BK174
 clear HB
 have HO177 := n0_
 have BK174 := n1_
 have HB := n2_
 clear n0_ n1_ n2_
 (try clear hb)
 (try clear hb2)
 (try clear hk)
 (try clear hi)
 (try clear ho0)
 obtain ⟨Ao10, co10, eo10⟩ := Kd.R_slice HO177.out
 (first | subst eo10 | (injection eo10 with f1_ f2_ f3_; have f4_ := f1_.symm; have f5_ := f3_.symm; clear f1_ f2_ f3_; subst f4_; subst f5_))
 refine hK.out _ _ ⟨(blk_cell BK174.out 0).trans rfl, (blk_cell BK174.out 1).trans rfl⟩ (fun hHeld => ?_)
 clear hK K
 refine norm_ (a' := ?_) ?_ ?_
 rotate_left
 ·show Act.put _ (some 13) _ = _
  simp only [Act.put, PT, i64_w, i32_w]
  rfl
 refine puS (i := 5) (N := some 14) #[true, true, true, true, true, true, true, true, true, true, false, false, false, false] (any_of HT_.out (by kernel_rfl)) ?_
 refine one_ (i := 10) (N := some 19) #[true, true, true, true, true, true, true, true, true, true, true, false, false, false] rfl rfl (one_of HT_.out (by kernel_rfl)) (by decide) (fun K hK => ?_)
 refine goes_ Try.func29 (by kernel_rfl) rfl #[.agg #[.int .i64 a0_0, .slice A0_1 l0_1.length c0_1], .slice A1 l1.length c1, .slice A2 l2.length c2, .string a3, .int .i64 3] (by rfl) rfl rfl (by (try simp only [List.map_toArray, List.map_cons, List.map_nil]); first | done | rfl | (simp only [List.length_drop, List.length_take]; rfl)) ?_
 with_reducible refine (spec_GuessesFor.calls k a0_0 _ _ l0_1 _ _ l1 _ _ l2 a3 3 t178 _ ?side1 ?side2 ?side3 ?side4 ?side5 ?side6 A6.out).mono ?_
 (case side1 => exact CB HR0_1)
 (case side2 => exact HC0_1.out)
 (case side3 => exact CB HR1)
 (case side4 => exact HC1.out)
 (case side5 => exact CB HR2)
 (case side6 => exact HC2.out)
 rintro e w11 ⟨v179, rfl, ho0, hb⟩
 refine ⟨_, rfl, ?_⟩
 have n0_ := Aside0.mk (Kd.R_elder' (RR HO177) (Kd.R_base ho0) hb)
 have n1_ := Aside0.mk (Kd.R_lower (Kd.R_new' ho0 (Kd.R_lt (RR HO177))) (below_size BL))
 have n2_ := KB BK174 hb
 have n3_ := BS (w := w) hb
 clear HO177
 clear BK174
 clear HB
 have HO177 := n0_
 have HO180 := n1_
 have BK174 := n2_
 have HB := n3_
 clear n0_ n1_ n2_ n3_
 (try clear hb)
 (try clear hb2)
 (try clear hk)
 (try clear hi)
 (try clear ho0)
 obtain ⟨Ao12, co12, eo12⟩ := Kd.R_slice HO180.out
 (first | subst eo12 | (injection eo12 with f1_ f2_ f3_; have f4_ := f1_.symm; have f5_ := f3_.symm; clear f1_ f2_ f3_; subst f4_; subst f5_))
 refine hK.out _ _ ⟨(blk_cell BK174.out 0).trans rfl, (blk_cell BK174.out 1).trans rfl⟩ (fun hHeld => ?_)
 clear hK K
 refine norm_ (a' := ?_) ?_ ?_
 rotate_left
 ·show Act.put _ (some 19) _ = _
  simp only [Act.put, PT, i64_w, i32_w]
  rfl
 refine puS (i := 11) (N := some 20) #[true, true, true, true, true, true, true, true, true, true, true, true, false, false] (any_of HT_.out (by kernel_rfl)) ?_
 refine puS (i := 12) (N := some 21) #[true, true, true, true, true, true, true, true, true, true, true, true, true, false] (any_of HT_.out (by kernel_rfl)) ?_
 refine puS (i := 13) (N := some 8) #[true, true, true, true, true, true, true, true, true, true, true, true, true, true] (any_of HT_.out (by kernel_rfl)) ?_
 refine done_ (done_of HT_.out (by kernel_rfl)) ?_
 try go_wp2
 go_ret
 exact ⟨EWW, BL⟩
def laws_toStep.f (a0_0 : Int) (a0_1 : ByteArray) (a0_2 : Int) (a0_3 : Int) : Option (Int × ByteArray × Int × Int) := some (a0_0, a0_1, a0_2, a0_3)
set_option maxHeartbeats 8000000 in
set_option maxRecDepth 100000 in
theorem laws_toStep.calls (a0_0 : Int) (a0_1 : ByteArray) (a0_2 : Int) (a0_3 : Int) (r1 : Int) (r2 : ByteArray) (r3 : Int) (r4 : Int) (w : World) (h : laws_toStep.f a0_0 a0_1 a0_2 a0_3 = some (r1, r2, r3, r4)) :
  Calls Try.prog 61 #[.agg #[.int .i64 a0_0, .string a0_1, .int .i64 a0_2, .int .i64 a0_3]] w fun e w' => e = .returned (.agg #[.int .i64 r1, .string r2, .int .i64 r3, .int .i64 r4]) ∧ Below w.heap.size w w' := by
 have hu72 := Try.underlying72
 have hu73 := Try.underlying73
 have HB := Aside0.mk (Below.refl w.heap.size w)
 have H : (some (a0_0, a0_1, a0_2, a0_3)) = some (r1, r2, r3, r4) := h
 clear h
 simp only [Option.some.injEq, Prod.mk.injEq] at H
 obtain ⟨rfl, rfl, rfl, rfl⟩ := H
 go_enter Try.func61, Try.ntmps61
 go_wp2_with (first | ((with_reducible refine gate_dst (N := 1) rfl ?_); refine box_ev (N := 1) (cs := #[.int .i64 a0_0, .string a0_1, .int .i64 a0_2, .int .i64 a0_3]) (t := 72) ?_; intro gb181 hg w2 hbox hb; have n0_ := BS (w := w) hb; have n1_ := Aside0.mk (hbox); have n2_ := SZ (w := w) hg; have n3_ := SZ (w := w) hg; clear HB; have HB := n0_; have BK181 := n1_; have GW181 := n2_; have GE181 := n3_; clear n0_ n1_ n2_ n3_; clear hb hbox hg) | ((with_reducible refine gate_dst (N := 2) rfl ?_); refine box_ev (N := 2) (cs := #[.int .i64 0, .string (⟨#[]⟩ : ByteArray), .int .i64 0, .int .i64 0]) (t := 73) ?_; intro gb182 hg w3 hbox hb; have n0_ := KB BK181 hb; have n1_ := BS (w := w) hb; have n2_ := Aside0.mk (hbox); have n3_ := SZ (w := w) hg; have n4_ := SZ (w := w) hg; have n5_ := NL BK181 hg; have n6_ := NG BK181 hg; clear BK181 HB; have BK181 := n0_; have HB := n1_; have BK182 := n2_; have GW182 := n3_; have GE182 := n4_; have NB181_182 := n5_; have NB182_181 := n6_; clear n0_ n1_ n2_ n3_ n4_ n5_ n6_; clear hb hbox hg) | ((with_reducible refine gate_dst (N := 3) rfl ?_); refine box_ev (N := 3) (cs := #[.int .i64 0, .string (⟨#[]⟩ : ByteArray), .int .i64 0, .int .i64 0]) (t := 73) ?_; intro gb183 hg w4 hbox hb; have n0_ := KB BK181 hb; have n1_ := KB BK182 hb; have n2_ := BS (w := w) hb; have n3_ := Aside0.mk (hbox); have n4_ := SZ (w := w) hg; have n5_ := SZ (w := w) hg; have n6_ := NL BK181 hg; have n7_ := NG BK181 hg; have n8_ := NL BK182 hg; have n9_ := NG BK182 hg; clear BK181 BK182 HB; have BK181 := n0_; have BK182 := n1_; have HB := n2_; have BK183 := n3_; have GW183 := n4_; have GE183 := n5_; have NB181_183 := n6_; have NB183_181 := n7_; have NB182_183 := n8_; have NB183_182 := n9_; clear n0_ n1_ n2_ n3_ n4_ n5_ n6_ n7_ n8_ n9_; clear hb hbox hg; have hnb5 := NB181_182.out; have hnc5 := NB182_181.out; have hnb6 := NB181_183.out; have hnc6 := NB183_181.out; obtain ⟨hcz7_0, hcz7_1, hcz7_2, hcz7_3, hfz7_0, hfz7_1, hfz7_2, hfz7_3⟩ := cz4 BK181.out; have hnb8 := NB183_182.out; have hnc8 := NB182_183.out; obtain ⟨hcz9_0, hcz9_1, hcz9_2, hcz9_3, hfz9_0, hfz9_1, hfz9_2, hfz9_3⟩ := cz4 BK183.out; obtain ⟨hcz10_0, hcz10_1, hcz10_2, hcz10_3, hfz10_0, hfz10_1, hfz10_2, hfz10_3⟩ := cz4 BK182.out))
 refine bodyPost_ret (results_cell_row rfl _ _ gb182 73 #[.int .i64 a0_0, .string a0_1, .int .i64 a0_2, .int .i64 a0_3] (0, 0) _ rfl (by (with_reducible repeat (first | refine blk_drewN ?_ _ | refine blk_drew ?_ | refine blk_alloc ?_ _)); refine blk_put (cs := #[.int .i64 a0_0, .string a0_1, .int .i64 a0_2, .int .i64 0]) ?_ 3 _ rfl; (with_reducible repeat (first | refine blk_drewN ?_ _ | refine blk_drew ?_ | refine blk_alloc ?_ _)); refine blk_put (cs := #[.int .i64 a0_0, .string a0_1, .int .i64 0, .int .i64 0]) ?_ 2 _ rfl; (with_reducible repeat (first | refine blk_drewN ?_ _ | refine blk_drew ?_ | refine blk_alloc ?_ _)); refine blk_put (cs := #[.int .i64 a0_0, .string (⟨#[]⟩ : ByteArray), .int .i64 0, .int .i64 0]) ?_ 1 _ rfl; (with_reducible repeat (first | refine blk_drewN ?_ _ | refine blk_drew ?_ | refine blk_alloc ?_ _)); refine blk_put (cs := #[.int .i64 0, .string (⟨#[]⟩ : ByteArray), .int .i64 0, .int .i64 0]) ?_ 0 _ rfl; (with_reducible repeat (first | refine blk_drewN ?_ _ | refine blk_drew ?_ | refine blk_alloc ?_ _)); refine blk_far ?_ NB182_183.out _; (with_reducible repeat (first | refine blk_drewN ?_ _ | refine blk_drew ?_ | refine blk_alloc ?_ _)); refine blk_far ?_ NB182_183.out _; (with_reducible repeat (first | refine blk_drewN ?_ _ | refine blk_drew ?_ | refine blk_alloc ?_ _)); refine blk_far ?_ NB182_183.out _; (with_reducible repeat (first | refine blk_drewN ?_ _ | refine blk_drew ?_ | refine blk_alloc ?_ _)); refine blk_far ?_ NB182_183.out _; (with_reducible repeat (first | refine blk_drewN ?_ _ | refine blk_drew ?_ | refine blk_alloc ?_ _)); exact BK182.out) Try.underlying73 rfl (by kernel_rfl)) rfl ?_
 exact ⟨EWW, BL⟩
end Go.Proofs.Ythincoghppaegaa.PFnExactGain
