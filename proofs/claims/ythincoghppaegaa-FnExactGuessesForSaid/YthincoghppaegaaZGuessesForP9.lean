/- Walks of functions: what each computes. -/
import Derived.Test.YthincoghppaegaaZGuessesForP0
import Derived.Test.YthincoghppaegaaZGuessesForP5
import Derived.Test.YthincoghppaegaaZGuessesForP6
import Derived.Test.YthincoghppaegaaZGuessesForP7
import Derived.Test.YthincoghppaegaaZGuessesForP8
import Derived.Test.YthincoghppaegaaZGuessesForW
import Derived.Test.YthincoghppaegaaZGuessesForShelf
import Derived.Test.YthincoghppaegaaZGuessesForHandSort
namespace Go.Proofs.Ythincoghppaegaa.PFnExactGuessesFor
open Go.RowKit Go.Proofs.YthincoghppaegaaW.PrintWords Go.Proofs.YthincoghppaegaaW.PrintLast Go.Proofs.YthincoghppaegaaW.PrintMore Go.Proofs.Ythincoghppaegaa.Sq
attribute [local go_sem] max2_int min2_int max_two min_two max_three min_three max_four min_four
set_option linter.unusedVariables false
set_option linter.unusedSimpArgs false
def spec_WithoutTail.f (k : Nat) (a0 : ByteArray) : Option (ByteArray) := (spec_IsWord.f k a0).bind fun t202 => (if t202 = true then (if 0 ≤ (wrap64 ((a0.size : Int) - 1)) then (if (wrap64 ((a0.size : Int) - 1)) ≤ (a0.size : Int) then (some (a0.extract 0 ((wrap64 ((a0.size : Int) - 1)) : Int).toNat)) else (none)) else (none)) else (some (⟨#[]⟩ : ByteArray)))
set_option maxHeartbeats 8000000 in
set_option maxRecDepth 100000 in
theorem spec_WithoutTail.calls (k : Nat) (a0 : ByteArray) (r : ByteArray) (w : World) (h : spec_WithoutTail.f k a0 = some r) :
  Calls Try.prog 80 #[.string a0] w fun e w' => e = .returned (.string r) ∧ Drawn0 w w' := by
 have H : ((spec_IsWord.f k a0).bind fun t202 => (if t202 = true then (if 0 ≤ (wrap64 ((a0.size : Int) - 1)) then (if (wrap64 ((a0.size : Int) - 1)) ≤ (a0.size : Int) then (some (a0.extract 0 ((wrap64 ((a0.size : Int) - 1)) : Int).toNat)) else (none)) else (none)) else (some (⟨#[]⟩ : ByteArray)))) = some r := h
 clear h
 replace H := Option.bind_eq_some_iff.mp H
 obtain ⟨t202, A20, H⟩ := H
 replace H : (if t202 = true then (if 0 ≤ (wrap64 ((a0.size : Int) - 1)) then (if (wrap64 ((a0.size : Int) - 1)) ≤ (a0.size : Int) then (some (a0.extract 0 ((wrap64 ((a0.size : Int) - 1)) : Int).toNat)) else (none)) else (none)) else (some (⟨#[]⟩ : ByteArray))) = some r := H
 have A2 := Aside0.mk A20
 clear A20
 by_cases c3 : t202 = true
 ·subst c3
  have H1 : (if 0 ≤ (wrap64 ((a0.size : Int) - 1)) then (if (wrap64 ((a0.size : Int) - 1)) ≤ (a0.size : Int) then (some (a0.extract 0 ((wrap64 ((a0.size : Int) - 1)) : Int).toNat)) else (none)) else (none)) = some r := by rw [if_pos rfl] at H; exact H
  clear H
  have H := H1
  clear H1
  obtain ⟨ji4, hji4⟩ : ∃ j_ : Int, (wrap64 ((a0.size : Int) - 1)) = j_ := ⟨_, rfl⟩
  replace H : (if 0 ≤ (ji4) then (if (ji4) ≤ (a0.size : Int) then (some (a0.extract 0 ((ji4) : Int).toNat)) else (none)) else (none)) = some r := by first | (rw [hji4] at H; exact H) | (simp only [hji4] at H ⊢; exact H)
  (try rw [hji4] at A2)
  have hji4w : (IntKind.i64.wrap ((a0.size : Int) - 1)) = ji4 := (i64_w _).trans hji4
  by_cases c5 : 0 ≤ (ji4)
  ·rw [if_pos c5] at H
   have c5b0 := eq_true c5
   have c5b1 : decide (0 ≤ (ji4)) = true := decide_eq_true c5
   clear c5
   by_cases c6 : (ji4) ≤ (a0.size : Int)
   ·rw [if_pos c6] at H
    have c6b0 := eq_true c6
    have c6b1 : decide ((ji4) ≤ (a0.size : Int)) = true := decide_eq_true c6
    clear c6
    obtain rfl := Option.some.inj H
    go_enter Try.func80, Try.ntmps80
    go_wp2_with (first | ((with_reducible refine gate_callee (f := 64) rfl ?_); refine goesS (some 4) Try.func64 #[.string a0] ?_; (with_reducible refine (spec_IsWord.calls k a0 true _ A2.out).mono ?_); rintro e w' ⟨rfl, ⟨nd, rfl⟩⟩; refine ⟨_, rfl, ?_⟩))
    go_ret
    exact ⟨by first | rfl | (simp; done) | (simp only [← hji4] <;> (first | rfl | simp)) | (simp [*]; done), by repeat (first | exact Drawn0.refl _ | apply Drawn0.step)⟩
   ·rw [if_neg c6] at H
    exact absurd H (by simp)
  ·rw [if_neg c5] at H
   exact absurd H (by simp)
 ·replace c3 := Bool.eq_false_iff.mpr c3
  subst c3
  have H1 : (some (⟨#[]⟩ : ByteArray)) = some r := by rw [if_neg (show ¬ (false = true) by decide)] at H; exact H
  clear H
  have H := H1
  clear H1
  obtain rfl := Option.some.inj H
  go_enter Try.func80, Try.ntmps80
  go_wp2_with (first | ((with_reducible refine gate_callee (f := 64) rfl ?_); refine goesS (some 4) Try.func64 #[.string a0] ?_; (with_reducible refine (spec_IsWord.calls k a0 false _ A2.out).mono ?_); rintro e w' ⟨rfl, ⟨nd, rfl⟩⟩; refine ⟨_, rfl, ?_⟩))
  go_ret
  exact ⟨by first | rfl | (simp; done) | (simp [*]; done), by repeat (first | exact Drawn0.refl _ | apply Drawn0.step)⟩
mutual
def spec_IsInside.j0 : Nat → ByteArray → ByteArray → Bool → Option (Bool)
 | 0, _, _, _ => none
 | k + 1, x0, x1, x13 => if x13 = true then (some false) else (spec_IsInside.l0 k x0 x1 1)
def spec_IsInside.l0 : Nat → ByteArray → ByteArray → Int → Option (Bool)
 | 0, _, _, _ => none
 | k + 1, x0, x1, x5 => if (wrap64 (x5 + (x0.size : Int))) < (x1.size : Int) then (if 0 ≤ x5 then (if x5 ≤ (wrap64 (x5 + (x0.size : Int))) then (if (wrap64 (x5 + (x0.size : Int))) ≤ (x1.size : Int) then (if (x1.extract (x5 : Int).toNat ((wrap64 (x5 + (x0.size : Int))) : Int).toNat).toList = x0.toList then (some true) else (spec_IsInside.l0 k x0 x1 (wrap64 (x5 + 1)))) else (none)) else (none)) else (none)) else (some false)
end
def spec_IsInside.f (k : Nat) (a0 : ByteArray) (a1 : ByteArray) : Option (Bool) := (spec_IsWord.f k a0).bind fun t203 => (if t203 = true then ((spec_IsWord.f k a1).bind fun t204 => (spec_IsInside.j0 k a0 a1 (!t204))) else (spec_IsInside.j0 k a0 a1 true))
set_option maxHeartbeats 8000000 in
set_option maxRecDepth 100000 in
theorem spec_IsInside.calls (k : Nat) (a0 : ByteArray) (a1 : ByteArray) (r : Bool) (w : World) (h : spec_IsInside.f k a0 a1 = some r) :
  Calls Try.prog 81 #[.string a0, .string a1] w fun e w' => e = .returned (.bool r) ∧ Drawn0 w w' := by
 have H : ((spec_IsWord.f k a0).bind fun t203 => (if t203 = true then ((spec_IsWord.f k a1).bind fun t204 => (spec_IsInside.j0 k a0 a1 (!t204))) else (spec_IsInside.j0 k a0 a1 true))) = some r := h
 clear h
 have HC3 := Aside0.mk H
 clear H
 go_enter Try.func81, Try.ntmps81
 go_upto_region 1 with (fail)
 go_cut [13] (fun v13 wc => ∃ (kq : Nat) (x13_2 : Bool), v13 = .bool x13_2 ∧ Aside0 (spec_IsInside.j0 kq a0 a1 x13_2 = some r) ∧ Aside0 (kq ≤ k) ∧ Drawn0 w wc)
 case first =>
  have H := HC3.out
  clear HC3
  replace H := Option.bind_eq_some_iff.mp H
  obtain ⟨t203, A40, H⟩ := H
  replace H : (if t203 = true then ((spec_IsWord.f k a1).bind fun t204 => (spec_IsInside.j0 k a0 a1 (!t204))) else (spec_IsInside.j0 k a0 a1 true)) = some r := H
  have A4 := Aside0.mk A40
  clear A40
  by_cases c5 : t203 = true
  ·subst c5
   have H1 : ((spec_IsWord.f k a1).bind fun t204 => (spec_IsInside.j0 k a0 a1 (!t204))) = some r := by rw [if_pos rfl] at H; exact H
   clear H
   have H := H1
   clear H1
   replace H := Option.bind_eq_some_iff.mp H
   obtain ⟨t204, A60, H⟩ := H
   replace H : (spec_IsInside.j0 k a0 a1 (!t204)) = some r := H
   have A6 := Aside0.mk A60
   clear A60
   have H' := Aside0.mk H
   clear H
   go_wp2_with (first | ((with_reducible refine gate_callee (f := 64) rfl ?_); refine goesS (some 7) Try.func64 #[.string a0] ?_; (with_reducible refine (spec_IsWord.calls k a0 true _ A4.out).mono ?_); rintro e w' ⟨rfl, ⟨nd, rfl⟩⟩; refine ⟨_, rfl, ?_⟩) | (go_at_call 64; (with_reducible refine (spec_IsWord.calls k a1 t204 _ A6.out).mono ?_); rintro e w' ⟨rfl, ⟨nd, rfl⟩⟩))
   go_meet
   case rel => exact ⟨_, (!t204), EQ, H', ⟨by first | omega | exact Nat.le_refl _⟩, by repeat (first | exact Drawn0.refl _ | apply Drawn0.step)⟩
  ·replace c5 := Bool.eq_false_iff.mpr c5
   subst c5
   have H1 : (spec_IsInside.j0 k a0 a1 true) = some r := by rw [if_neg (show ¬ (false = true) by decide)] at H; exact H
   clear H
   have H := H1
   clear H1
   have H' := Aside0.mk H
   clear H
   go_wp2_with (first | ((with_reducible refine gate_callee (f := 64) rfl ?_); refine goesS (some 7) Try.func64 #[.string a0] ?_; (with_reducible refine (spec_IsWord.calls k a0 false _ A4.out).mono ?_); rintro e w' ⟨rfl, ⟨nd, rfl⟩⟩; refine ⟨_, rfl, ?_⟩))
   go_meet
   case rel => exact ⟨_, (true), EQ, H', ⟨by first | omega | exact Nat.le_refl _⟩, by repeat (first | exact Drawn0.refl _ | apply Drawn0.step)⟩
 case rest =>
  clear HC3
  obtain ⟨kq, x13_2, rfl, HA, HJ2, ⟨mc2, rfl⟩⟩ := hcut
  cases kq with
  | zero => exact absurd HA.out (by simp [spec_IsInside.j0])
  | succ kj2 =>
   have H := HA.out
   clear HA
   simp only [spec_IsInside.j0] at H
   by_cases c7 : x13_2 = true
   ·subst c7
    have H1 : (some false) = some r := by rw [if_pos rfl] at H; exact H
    clear H
    have H := H1
    clear H1
    obtain rfl := Option.some.inj H
    go_wp2
    go_ret
    exact ⟨by first | rfl | (simp; done) | (simp [*]; done), by repeat (first | exact Drawn0.refl _ | apply Drawn0.step)⟩
   ·replace c7 := Bool.eq_false_iff.mpr c7
    subst c7
    have H1 : (spec_IsInside.l0 kj2 a0 a1 1) = some r := by rw [if_neg (show ¬ (false = true) by decide)] at H; exact H
    clear H
    have H := H1
    clear H1
    have H' := Aside0.mk H
    clear H
    go_wp2
    go_loopg [5] kj2 (fun kq v5 w' => ∃ (x5_2 : Int), v5 = .int .i64 x5_2 ∧ Aside0 (spec_IsInside.l0 kq a0 a1 x5_2 = some r) ∧ Aside0 (kq ≤ kj2) ∧ Drawn0 w w')
    case atStart => exact ⟨(1), EQ, H', ⟨Nat.le_refl _⟩, by repeat (first | exact Drawn0.refl _ | apply Drawn0.step)⟩
    case round =>
     clear H'
     try clear c7
     obtain ⟨x5_2, rfl, HA, HK2, ⟨m2, rfl⟩⟩ := hrel
     cases gk with
     | zero => exact absurd HA.out (by simp [spec_IsInside.l0])
     | succ k2 =>
      have H := HA.out
      clear HA
      simp only [spec_IsInside.l0] at H
      by_cases c8 : (wrap64 (x5_2 + (a0.size : Int))) < (a1.size : Int)
      ·rw [if_pos c8] at H
       have c8b0 : decide ((wrap64 (x5_2 + (a0.size : Int))) < (a1.size : Int)) = true := decide_eq_true c8
       clear c8
       by_cases c9 : 0 ≤ x5_2
       ·rw [if_pos c9] at H
        have c9b0 := eq_true c9
        have c9b1 : decide (0 ≤ x5_2) = true := decide_eq_true c9
        clear c9
        by_cases c10 : x5_2 ≤ (wrap64 (x5_2 + (a0.size : Int)))
        ·rw [if_pos c10] at H
         have c10b0 := eq_true c10
         have c10b1 : decide (x5_2 ≤ (wrap64 (x5_2 + (a0.size : Int)))) = true := decide_eq_true c10
         by_cases c11 : (wrap64 (x5_2 + (a0.size : Int))) ≤ (a1.size : Int)
         ·rw [if_pos c11] at H
          have c11b0 := eq_true c11
          have c11b1 : decide ((wrap64 (x5_2 + (a0.size : Int))) ≤ (a1.size : Int)) = true := decide_eq_true c11
          by_cases c12 : (a1.extract (x5_2 : Int).toNat ((wrap64 (x5_2 + (a0.size : Int))) : Int).toNat).toList = a0.toList
          ·rw [if_pos c12] at H
           have c12b0 : ((a1.extract (x5_2 : Int).toNat ((wrap64 (x5_2 + (a0.size : Int))) : Int).toNat).toList == a0.toList) = true := beq_iff_eq.mpr c12
           have c12b1 : ((a1.extract (x5_2 : Int).toNat ((wrap64 (x5_2 + (a0.size : Int))) : Int).toNat).toList != a0.toList) = false := bne_eq_false_iff_eq.mpr c12
           clear c12
           obtain rfl := Option.some.inj H
           go_wp2
           go_ret
           exact ⟨by first | rfl | (simp; done) | (simp [*]; done), by repeat (first | exact Drawn0.refl _ | apply Drawn0.step)⟩
          ·rw [if_neg c12] at H
           have c12b0 : ((a1.extract (x5_2 : Int).toNat ((wrap64 (x5_2 + (a0.size : Int))) : Int).toNat).toList == a0.toList) = false := beq_eq_false_iff_ne.mpr c12
           have c12b1 : ((a1.extract (x5_2 : Int).toNat ((wrap64 (x5_2 + (a0.size : Int))) : Int).toNat).toList != a0.toList) = true := bne_iff_ne.mpr c12
           have H' := Aside0.mk H
           clear H
           go_wp2
           go_roundg k2
           case measure => have := HJ2.out; have := HK2.out; omega
           case rel => exact ⟨(wrap64 (x5_2 + 1)), EQ, H', ⟨by have := HJ2.out; have := HK2.out; omega⟩, by repeat (first | exact Drawn0.refl _ | apply Drawn0.step)⟩
         ·rw [if_neg c11] at H
          exact absurd H (by simp)
        ·rw [if_neg c10] at H
         exact absurd H (by simp)
       ·rw [if_neg c9] at H
        exact absurd H (by simp)
      ·rw [if_neg c8] at H
       have c8b0 : decide ((wrap64 (x5_2 + (a0.size : Int))) < (a1.size : Int)) = false := decide_eq_false c8
       clear c8
       obtain rfl := Option.some.inj H
       go_wp2
       go_ret
       exact ⟨by first | rfl | (simp; done) | (simp [*]; done), by repeat (first | exact Drawn0.refl _ | apply Drawn0.step)⟩
def spec_l15Makes.f : Nat → List (S73) → Int → ByteArray → Option (Bool)
 | 0, _, _, _ => none
 | k + 1, l0, a1, a2 => if 0 ≤ a1 then (if a1 < (l0.length : Int) then (if ((rd_T73 l0 a1).f0) = 1 then (some (((rd_T73 l0 a1).f1).toList == a2.toList)) else (if ((rd_T73 l0 a1).f0) = 2 then ((spec_Backwards.f k a2).bind fun t207 => ((spec_l15Makes.f k l0 ((rd_T73 l0 a1).f2) t207).bind fun t208 => (some t208))) else (if ((rd_T73 l0 a1).f0) = 3 then (if 0 ≤ ((rd_T73 l0 a1).f2) then (if ((rd_T73 l0 a1).f2) < (l0.length : Int) then ((spec_IsRearranged.f k ((rd_T73 l0 ((rd_T73 l0 a1).f2)).f1) a2).bind fun t210 => (some t210)) else (none)) else (none)) else (if ((rd_T73 l0 a1).f0) = 4 then ((spec_l15Join.f (fun _ => spec_l15Makes.f k) k l0 ((rd_T73 l0 a1).f0) ((rd_T73 l0 a1).f1) ((rd_T73 l0 a1).f2) ((rd_T73 l0 a1).f3) a2).bind fun t211 => (some t211)) else (if ((rd_T73 l0 a1).f0) = 5 then ((spec_l15In.f (fun _ => spec_l15Makes.f k) k l0 ((rd_T73 l0 a1).f0) ((rd_T73 l0 a1).f1) ((rd_T73 l0 a1).f2) ((rd_T73 l0 a1).f3) a2).bind fun t212 => (some t212)) else (if ((rd_T73 l0 a1).f0) = 6 then (if 0 ≤ ((rd_T73 l0 a1).f2) then (if ((rd_T73 l0 a1).f2) < (l0.length : Int) then ((spec_HeadOf.f k ((rd_T73 l0 ((rd_T73 l0 a1).f2)).f1)).bind fun t214 => (some (t214.toList == a2.toList))) else (none)) else (none)) else (if ((rd_T73 l0 a1).f0) = 7 then (if 0 ≤ ((rd_T73 l0 a1).f2) then (if ((rd_T73 l0 a1).f2) < (l0.length : Int) then ((spec_WithoutHead.f k ((rd_T73 l0 ((rd_T73 l0 a1).f2)).f1)).bind fun t216 => (some (t216.toList == a2.toList))) else (none)) else (none)) else (if ((rd_T73 l0 a1).f0) = 8 then (if 0 ≤ ((rd_T73 l0 a1).f2) then (if ((rd_T73 l0 a1).f2) < (l0.length : Int) then ((spec_WithoutTail.f k ((rd_T73 l0 ((rd_T73 l0 a1).f2)).f1)).bind fun t218 => (some (t218.toList == a2.toList))) else (none)) else (none)) else (if 0 ≤ ((rd_T73 l0 a1).f2) then (if ((rd_T73 l0 a1).f2) < (l0.length : Int) then ((spec_IsInside.f k a2 ((rd_T73 l0 ((rd_T73 l0 a1).f2)).f1)).bind fun t220 => (some t220)) else (none)) else (none)))))))))) else (none)) else (none)
set_option maxHeartbeats 8000000 in
set_option maxRecDepth 100000 in
theorem spec_l15Makes.calls (k : Nat) : ∀ (A0 : Option Addr) (c0 : Nat) (l0 : List (S73)) (a1 : Int) (a2 : ByteArray) (r : Bool) (w : World) (hr0 : Kd.C k73 w A0 l0.length l0) (hc0 : l0.length ≤ c0) (h : spec_l15Makes.f k l0 a1 a2 = some r),
  Calls Try.prog 65 #[.slice A0 l0.length c0, .int .i64 a1, .string a2] w fun e w' => e = .returned (.bool r) ∧ Below w.heap.size w w' := by
 induction k using Nat.strongRecOn with
 | _ k ih =>
 intro A0 c0 l0 a1 a2 r w hr0 hc0 h
 cases k with
 | zero => exact absurd h (by simp [spec_l15Makes.f])
 | succ k =>
 simp only [spec_l15Makes.f] at h
 have hu73 := Try.underlying73
 have HR0 := Aside0.mk hr0
 have HC0 := Aside0.mk hc0
 clear hr0 hc0
 have HB := Aside0.mk (Below.refl w.heap.size w)
 have H : (if 0 ≤ a1 then (if a1 < (l0.length : Int) then (if ((rd_T73 l0 a1).f0) = 1 then (some (((rd_T73 l0 a1).f1).toList == a2.toList)) else (if ((rd_T73 l0 a1).f0) = 2 then ((spec_Backwards.f k a2).bind fun t207 => ((spec_l15Makes.f k l0 ((rd_T73 l0 a1).f2) t207).bind fun t208 => (some t208))) else (if ((rd_T73 l0 a1).f0) = 3 then (if 0 ≤ ((rd_T73 l0 a1).f2) then (if ((rd_T73 l0 a1).f2) < (l0.length : Int) then ((spec_IsRearranged.f k ((rd_T73 l0 ((rd_T73 l0 a1).f2)).f1) a2).bind fun t210 => (some t210)) else (none)) else (none)) else (if ((rd_T73 l0 a1).f0) = 4 then ((spec_l15Join.f (fun _ => spec_l15Makes.f k) k l0 ((rd_T73 l0 a1).f0) ((rd_T73 l0 a1).f1) ((rd_T73 l0 a1).f2) ((rd_T73 l0 a1).f3) a2).bind fun t211 => (some t211)) else (if ((rd_T73 l0 a1).f0) = 5 then ((spec_l15In.f (fun _ => spec_l15Makes.f k) k l0 ((rd_T73 l0 a1).f0) ((rd_T73 l0 a1).f1) ((rd_T73 l0 a1).f2) ((rd_T73 l0 a1).f3) a2).bind fun t212 => (some t212)) else (if ((rd_T73 l0 a1).f0) = 6 then (if 0 ≤ ((rd_T73 l0 a1).f2) then (if ((rd_T73 l0 a1).f2) < (l0.length : Int) then ((spec_HeadOf.f k ((rd_T73 l0 ((rd_T73 l0 a1).f2)).f1)).bind fun t214 => (some (t214.toList == a2.toList))) else (none)) else (none)) else (if ((rd_T73 l0 a1).f0) = 7 then (if 0 ≤ ((rd_T73 l0 a1).f2) then (if ((rd_T73 l0 a1).f2) < (l0.length : Int) then ((spec_WithoutHead.f k ((rd_T73 l0 ((rd_T73 l0 a1).f2)).f1)).bind fun t216 => (some (t216.toList == a2.toList))) else (none)) else (none)) else (if ((rd_T73 l0 a1).f0) = 8 then (if 0 ≤ ((rd_T73 l0 a1).f2) then (if ((rd_T73 l0 a1).f2) < (l0.length : Int) then ((spec_WithoutTail.f k ((rd_T73 l0 ((rd_T73 l0 a1).f2)).f1)).bind fun t218 => (some (t218.toList == a2.toList))) else (none)) else (none)) else (if 0 ≤ ((rd_T73 l0 a1).f2) then (if ((rd_T73 l0 a1).f2) < (l0.length : Int) then ((spec_IsInside.f k a2 ((rd_T73 l0 ((rd_T73 l0 a1).f2)).f1)).bind fun t220 => (some t220)) else (none)) else (none)))))))))) else (none)) else (none)) = some r := h
 clear h
 by_cases c4 : 0 ≤ a1
 ·rw [if_pos c4] at H
  have c4b0 : decide (0 ≤ a1) = true := decide_eq_true c4
  clear c4
  by_cases c5 : a1 < (l0.length : Int)
  ·rw [if_pos c5] at H
   have c5b0 : decide (a1 < (l0.length : Int)) = true := decide_eq_true c5
   clear c5
   by_cases c6 : ((rd_T73 l0 a1).f0) = 1
   ·rw [if_pos c6] at H
    have c6b0 : (((rd_T73 l0 a1).f0) == 1) = true := beq_iff_eq.mpr c6
    have c6b1 : (((rd_T73 l0 a1).f0) != 1) = false := bne_eq_false_iff_eq.mpr c6
    clear c6
    obtain rfl := Option.some.inj H
    have p205 : 0 ≤ (a1 : Int) := OD
    have q205 : a1 < (l0.length : Int) := OD
    obtain ⟨ad205, e205, hx205_0, hx205_1, hx205_2, hx205_3⟩ := at_T73 HR0.out a1 p205 q205
    cases e205
    replace p205 := eq_true p205
    replace q205 := eq_true q205
    go_enter Try.func65, Try.ntmps65
    go_wp2_with (first | ((with_reducible refine gate_dst (N := 7) rfl ?_); refine box_ev (N := 7) (cs := #[.int .i64 0, .string (⟨#[]⟩ : ByteArray), .int .i64 0, .int .i64 0]) (t := 73) ?_; intro gb206 hg w7 hbox hb; have n0_ := BS (w := w) hb; have n1_ := Aside0.mk (hbox); have n2_ := SZ (w := w) hg; have n3_ := SZ (w := w) hg; clear HB; have HB := n0_; have BK206 := n1_; have GW206 := n2_; have GE206 := n3_; clear n0_ n1_ n2_ n3_; clear hb hbox hg; obtain ⟨hcz8_0, hcz8_1, hcz8_2, hcz8_3, hfz8_0, hfz8_1, hfz8_2, hfz8_3⟩ := cz4 BK206.out))
    go_ret
    exact ⟨EWW, BL⟩
   ·rw [if_neg c6] at H
    have c6b0 : (((rd_T73 l0 a1).f0) == 1) = false := beq_eq_false_iff_ne.mpr c6
    have c6b1 : (((rd_T73 l0 a1).f0) != 1) = true := bne_iff_ne.mpr c6
    by_cases c9 : ((rd_T73 l0 a1).f0) = 2
    ·rw [if_pos c9] at H
     have c9b0 : (((rd_T73 l0 a1).f0) == 2) = true := beq_iff_eq.mpr c9
     have c9b1 : (((rd_T73 l0 a1).f0) != 2) = false := bne_eq_false_iff_eq.mpr c9
     clear c9
     replace H := Option.bind_eq_some_iff.mp H
     obtain ⟨t207, A100, H⟩ := H
     replace H : ((spec_l15Makes.f k l0 ((rd_T73 l0 a1).f2) t207).bind fun t208 => (some t208)) = some r := H
     have A10 := Aside0.mk A100
     clear A100
     replace H := Option.bind_eq_some_iff.mp H
     obtain ⟨t208, A110, H⟩ := H
     replace H : (some t208) = some r := H
     have A11 := Aside0.mk A110
     clear A110
     obtain rfl := Option.some.inj H
     have p205 : 0 ≤ (a1 : Int) := OD
     have q205 : a1 < (l0.length : Int) := OD
     obtain ⟨ad205, e205, hx205_0, hx205_1, hx205_2, hx205_3⟩ := at_T73 HR0.out a1 p205 q205
     cases e205
     replace p205 := eq_true p205
     replace q205 := eq_true q205
     go_enter Try.func65, Try.ntmps65
     try go_wp2_with (first | ((with_reducible refine gate_dst (N := 7) rfl ?_); refine box_ev (N := 7) (cs := #[.int .i64 0, .string (⟨#[]⟩ : ByteArray), .int .i64 0, .int .i64 0]) (t := 73) ?_; intro gb206 hg w12 hbox hb; have n0_ := BS (w := w) hb; have n1_ := Aside0.mk (hbox); have n2_ := SZ (w := w) hg; have n3_ := SZ (w := w) hg; clear HB; have HB := n0_; have BK206 := n1_; have GW206 := n2_; have GE206 := n3_; clear n0_ n1_ n2_ n3_; clear hb hbox hg; obtain ⟨hcz13_0, hcz13_1, hcz13_2, hcz13_3, hfz13_0, hfz13_1, hfz13_2, hfz13_3⟩ := cz4 BK206.out))
     have n0_ : Aside0 (((((w12.setCell ⟨gb206, 0, none⟩ (.int .i64 ((rd_T73 l0 a1).f0))).setCell ⟨gb206, 1, none⟩ (.string ((rd_T73 l0 a1).f1))).setCell ⟨gb206, 2, none⟩ (.int .i64 ((rd_T73 l0 a1).f2))).setCell ⟨gb206, 3, none⟩ (.int .i64 ((rd_T73 l0 a1).f3))).heap[gb206]? = some (.cells #[.int .i64 ((rd_T73 l0 a1).f0), .string ((rd_T73 l0 a1).f1), .int .i64 ((rd_T73 l0 a1).f2), .int .i64 ((rd_T73 l0 a1).f3)] 73 (0, 0))) := ⟨by (with_reducible repeat (first | refine blk_drewN ?_ _ | refine blk_drew ?_ | refine blk_alloc ?_ _)); refine blk_put (cs := #[.int .i64 ((rd_T73 l0 a1).f0), .string ((rd_T73 l0 a1).f1), .int .i64 ((rd_T73 l0 a1).f2), .int .i64 0]) ?_ 3 _ rfl; (with_reducible repeat (first | refine blk_drewN ?_ _ | refine blk_drew ?_ | refine blk_alloc ?_ _)); refine blk_put (cs := #[.int .i64 ((rd_T73 l0 a1).f0), .string ((rd_T73 l0 a1).f1), .int .i64 0, .int .i64 0]) ?_ 2 _ rfl; (with_reducible repeat (first | refine blk_drewN ?_ _ | refine blk_drew ?_ | refine blk_alloc ?_ _)); refine blk_put (cs := #[.int .i64 ((rd_T73 l0 a1).f0), .string (⟨#[]⟩ : ByteArray), .int .i64 0, .int .i64 0]) ?_ 1 _ rfl; (with_reducible repeat (first | refine blk_drewN ?_ _ | refine blk_drew ?_ | refine blk_alloc ?_ _)); refine blk_put (cs := #[.int .i64 0, .string (⟨#[]⟩ : ByteArray), .int .i64 0, .int .i64 0]) ?_ 0 _ rfl; (with_reducible repeat (first | refine blk_drewN ?_ _ | refine blk_drew ?_ | refine blk_alloc ?_ _)); exact BK206.out⟩
     have n1_ : Aside0 (Below w.heap.size w ((((w12.setCell ⟨gb206, 0, none⟩ (.int .i64 ((rd_T73 l0 a1).f0))).setCell ⟨gb206, 1, none⟩ (.string ((rd_T73 l0 a1).f1))).setCell ⟨gb206, 2, none⟩ (.int .i64 ((rd_T73 l0 a1).f2))).setCell ⟨gb206, 3, none⟩ (.int .i64 ((rd_T73 l0 a1).f3)))) := ⟨BL⟩
     (try clear BK206)
     (try clear HB)
     generalize ((((w12.setCell ⟨gb206, 0, none⟩ (.int .i64 ((rd_T73 l0 a1).f0))).setCell ⟨gb206, 1, none⟩ (.string ((rd_T73 l0 a1).f1))).setCell ⟨gb206, 2, none⟩ (.int .i64 ((rd_T73 l0 a1).f2))).setCell ⟨gb206, 3, none⟩ (.int .i64 ((rd_T73 l0 a1).f3))) = w14 at n0_ n1_ ⊢
     have BK206 := n0_
     have HB := n1_
     clear n0_ n1_
     have n0_ := Aside0.mk (blk_drew BK206.out)
     have n1_ := Aside0.mk (below_drew1 HB.out)
     clear BK206
     clear HB
     have BK206 := n0_
     have HB := n1_
     clear n0_ n1_
     refine start_ (n := 7) (S := fun w' => w'.cell? ⟨gb206, 0, none⟩ = some (.int .i64 ((rd_T73 l0 a1).f0)) ∧ w'.cell? ⟨gb206, 1, none⟩ = some (.string ((rd_T73 l0 a1).f1)) ∧ w'.cell? ⟨gb206, 2, none⟩ = some (.int .i64 ((rd_T73 l0 a1).f2)) ∧ w'.cell? ⟨gb206, 3, none⟩ = some (.int .i64 ((rd_T73 l0 a1).f3))) (ds := []) #[false, false, false, false, false, false, false] (by kernel_rfl) rfl rfl ⟨(blk_cell BK206.out 0).trans rfl, (blk_cell BK206.out 1).trans rfl, (blk_cell BK206.out 2).trans rfl, (blk_cell BK206.out 3).trans rfl⟩ (fun hHeld => ?_)
     generalize w14.drew = w15 at BK206 HB hHeld ⊢
     refine puS (i := 0) (N := some 22) #[true, false, false, false, false, false, false] (by kernel_rfl) ?_
     refine puS (i := 1) (N := some 23) #[true, true, false, false, false, false, false] (by kernel_rfl) ?_
     refine puS (i := 3) (N := some 25) #[true, true, false, true, false, false, false] (by kernel_rfl) ?_
     refine take_ (i := 2) (N := some 24) (v := ?_) (a' := ?_) #[true, true, true, true, false, false, false] rfl rfl (by kernel_rfl) (fun _ _ _ h => h) (Or.inl ⟨by rfl, ?_⟩) hHeld ?_ ?_
     rotate_left
     ·rintro w' ⟨s0, s1, s2, s3⟩
      go_simp
      with_reducible rfl
     rotate_left
     ·simp only [Act.put, PT, i64_w, i32_w]
      rfl
     refine one_ (i := 4) (N := some 26) #[true, true, true, true, true, false, false] rfl rfl (by kernel_rfl) (by decide) (fun K hK => ?_)
     refine goes_ Try.func74 (by kernel_rfl) rfl #[.string a2] (by rfl) rfl rfl (by (try simp only [List.map_toArray, List.map_cons, List.map_nil]); first | done | rfl | (simp only [List.length_drop, List.length_take]; rfl)) ?_
     with_reducible refine (spec_Backwards.calls k a2 t207 _ A10.out).mono ?_
     rintro e w' ⟨rfl, ⟨nd, rfl⟩⟩
     refine ⟨_, rfl, ?_⟩
     refine hK.out _ _ ⟨(blk_cell BK206.out 0).trans rfl, (blk_cell BK206.out 1).trans rfl, (blk_cell BK206.out 2).trans rfl, (blk_cell BK206.out 3).trans rfl⟩ (fun hHeld => ?_)
     clear hK K
     refine norm_ (a' := ?_) ?_ ?_
     rotate_left
     ·show Act.put _ (some 26) _ = _
      simp only [Act.put, PT, i64_w, i32_w]
      rfl
     refine one_ (i := 5) (N := some 27) #[true, true, true, true, true, true, false] rfl rfl (by kernel_rfl) (by decide) (fun K hK => ?_)
     refine goes_ Try.func65 (by kernel_rfl) rfl #[.slice (some ad205) l0.length c0, .int .i64 ((rd_T73 l0 a1).f2), .string t207] (by rfl) rfl rfl (by (try simp only [List.map_toArray, List.map_cons, List.map_nil]); first | done | rfl | (simp only [List.length_drop, List.length_take]; rfl)) ?_
     with_reducible refine (ih k (by omega) _ _ l0 ((rd_T73 l0 a1).f2) t207 t208 _ ?side1 ?side2 A11.out).mono ?_
     (case side1 => repeat (first | exact (Kd.C_below HR0.out BL) | (with_reducible refine Kd.C_alloc ?_ _) | (with_reducible refine Kd.C_drewN ?_ _) | (with_reducible refine Kd.C_drew ?_)))
     (case side2 => exact HC0.out)
     rintro e w16 ⟨rfl, hb⟩
     refine ⟨_, rfl, ?_⟩
     have n0_ := KB BK206 hb
     have n1_ := BS (w := w) hb
     clear BK206
     clear HB
     have BK206 := n0_
     have HB := n1_
     clear n0_ n1_
     (try clear hb)
     (try clear hb2)
     (try clear hk)
     (try clear hi)
     refine hK.out _ _ ⟨(blk_cell BK206.out 0).trans rfl, (blk_cell BK206.out 1).trans rfl, (blk_cell BK206.out 2).trans rfl, (blk_cell BK206.out 3).trans rfl⟩ (fun hHeld => ?_)
     clear hK K
     refine norm_ (a' := ?_) ?_ ?_
     rotate_left
     ·show Act.put _ (some 27) _ = _
      simp only [Act.put, PT, i64_w, i32_w]
      rfl
     refine puS (i := 6) (N := some 6) #[true, true, true, true, true, true, true] (by kernel_rfl) ?_
     refine done_ (by kernel_rfl) ?_
     try go_wp2
     go_ret
     exact ⟨EWW, BL⟩
    ·rw [if_neg c9] at H
     have c9b0 : (((rd_T73 l0 a1).f0) == 2) = false := beq_eq_false_iff_ne.mpr c9
     have c9b1 : (((rd_T73 l0 a1).f0) != 2) = true := bne_iff_ne.mpr c9
     by_cases c17 : ((rd_T73 l0 a1).f0) = 3
     ·rw [if_pos c17] at H
      have c17b0 : (((rd_T73 l0 a1).f0) == 3) = true := beq_iff_eq.mpr c17
      have c17b1 : (((rd_T73 l0 a1).f0) != 3) = false := bne_eq_false_iff_eq.mpr c17
      clear c17
      by_cases c18 : 0 ≤ ((rd_T73 l0 a1).f2)
      ·rw [if_pos c18] at H
       have c18b0 : decide (0 ≤ ((rd_T73 l0 a1).f2)) = true := decide_eq_true c18
       clear c18
       by_cases c19 : ((rd_T73 l0 a1).f2) < (l0.length : Int)
       ·rw [if_pos c19] at H
        have c19b0 : decide (((rd_T73 l0 a1).f2) < (l0.length : Int)) = true := decide_eq_true c19
        clear c19
        replace H := Option.bind_eq_some_iff.mp H
        obtain ⟨t210, A200, H⟩ := H
        replace H : (some t210) = some r := H
        have A20 := Aside0.mk A200
        clear A200
        obtain rfl := Option.some.inj H
        have p205 : 0 ≤ (a1 : Int) := OD
        have q205 : a1 < (l0.length : Int) := OD
        obtain ⟨ad205, e205, hx205_0, hx205_1, hx205_2, hx205_3⟩ := at_T73 HR0.out a1 p205 q205
        cases e205
        replace p205 := eq_true p205
        replace q205 := eq_true q205
        go_enter Try.func65, Try.ntmps65
        go_wp2_with (first | ((with_reducible refine gate_dst (N := 7) rfl ?_); refine box_ev (N := 7) (cs := #[.int .i64 0, .string (⟨#[]⟩ : ByteArray), .int .i64 0, .int .i64 0]) (t := 73) ?_; intro gb206 hg w21 hbox hb; have n0_ := BS (w := w) hb; have n1_ := Aside0.mk (hbox); have n2_ := SZ (w := w) hg; have n3_ := SZ (w := w) hg; clear HB; have HB := n0_; have BK206 := n1_; have GW206 := n2_; have GE206 := n3_; clear n0_ n1_ n2_ n3_; clear hb hbox hg; obtain ⟨hcz22_0, hcz22_1, hcz22_2, hcz22_3, hfz22_0, hfz22_1, hfz22_2, hfz22_3⟩ := cz4 BK206.out; have p209 : 0 ≤ (((rd_T73 l0 a1).f2) : Int) := OD; have q209 : ((rd_T73 l0 a1).f2) < (l0.length : Int) := OD; obtain ⟨ad209, e209, hx209_0, hx209_1, hx209_2, hx209_3⟩ := at_T73 HR0.out ((rd_T73 l0 a1).f2) p209 q209; obtain rfl : ad205 = ad209 := (by injection e209); have hn209_0 : ad205.block ≠ gb206 := Nat.ne_of_lt (Nat.lt_of_lt_of_le (by have := World.block_lt_of_cell? _ _ hx209_0; first | rwa [add_block] at this | exact this) GW206.out); have hn209_1 : ad205.block ≠ gb206 := Nat.ne_of_lt (Nat.lt_of_lt_of_le (by have := World.block_lt_of_cell? _ _ hx209_0; first | rwa [add_block] at this | exact this) GW206.out); have hn209_2 : ad205.block ≠ gb206 := Nat.ne_of_lt (Nat.lt_of_lt_of_le (by have := World.block_lt_of_cell? _ _ hx209_0; first | rwa [add_block] at this | exact this) GW206.out); have hn209_3 : ad205.block ≠ gb206 := Nat.ne_of_lt (Nat.lt_of_lt_of_le (by have := World.block_lt_of_cell? _ _ hx209_0; first | rwa [add_block] at this | exact this) GW206.out); replace hx209_0 := (HB.out.cell (World.block_lt_of_cell? w _ hx209_0)).trans hx209_0; replace hx209_1 := (HB.out.cell (World.block_lt_of_cell? w _ hx209_1)).trans hx209_1; replace hx209_2 := (HB.out.cell (World.block_lt_of_cell? w _ hx209_2)).trans hx209_2; replace hx209_3 := (HB.out.cell (World.block_lt_of_cell? w _ hx209_3)).trans hx209_3; replace hx209_0 := (cell_far (p := ⟨gb206, 0, none⟩) (by first | (rw [add_block]; exact hn209_0) | (show (Addr.add _ _).block ≠ _; rw [add_block]; exact hn209_0) | exact hn209_0) (.int .i64 ((rd_T73 l0 a1).f0))).trans hx209_0; replace hx209_1 := (cell_far (p := ⟨gb206, 0, none⟩) (by first | (rw [add_block]; exact hn209_0) | (show (Addr.add _ _).block ≠ _; rw [add_block]; exact hn209_0) | exact hn209_0) (.int .i64 ((rd_T73 l0 a1).f0))).trans hx209_1; replace hx209_2 := (cell_far (p := ⟨gb206, 0, none⟩) (by first | (rw [add_block]; exact hn209_0) | (show (Addr.add _ _).block ≠ _; rw [add_block]; exact hn209_0) | exact hn209_0) (.int .i64 ((rd_T73 l0 a1).f0))).trans hx209_2; replace hx209_3 := (cell_far (p := ⟨gb206, 0, none⟩) (by first | (rw [add_block]; exact hn209_0) | (show (Addr.add _ _).block ≠ _; rw [add_block]; exact hn209_0) | exact hn209_0) (.int .i64 ((rd_T73 l0 a1).f0))).trans hx209_3; replace hx209_0 := (cell_far (p := ⟨gb206, 1, none⟩) (by first | (rw [add_block]; exact hn209_1) | (show (Addr.add _ _).block ≠ _; rw [add_block]; exact hn209_1) | exact hn209_1) (.string ((rd_T73 l0 a1).f1))).trans hx209_0; replace hx209_1 := (cell_far (p := ⟨gb206, 1, none⟩) (by first | (rw [add_block]; exact hn209_1) | (show (Addr.add _ _).block ≠ _; rw [add_block]; exact hn209_1) | exact hn209_1) (.string ((rd_T73 l0 a1).f1))).trans hx209_1; replace hx209_2 := (cell_far (p := ⟨gb206, 1, none⟩) (by first | (rw [add_block]; exact hn209_1) | (show (Addr.add _ _).block ≠ _; rw [add_block]; exact hn209_1) | exact hn209_1) (.string ((rd_T73 l0 a1).f1))).trans hx209_2; replace hx209_3 := (cell_far (p := ⟨gb206, 1, none⟩) (by first | (rw [add_block]; exact hn209_1) | (show (Addr.add _ _).block ≠ _; rw [add_block]; exact hn209_1) | exact hn209_1) (.string ((rd_T73 l0 a1).f1))).trans hx209_3; replace hx209_0 := (cell_far (p := ⟨gb206, 2, none⟩) (by first | (rw [add_block]; exact hn209_2) | (show (Addr.add _ _).block ≠ _; rw [add_block]; exact hn209_2) | exact hn209_2) (.int .i64 ((rd_T73 l0 a1).f2))).trans hx209_0; replace hx209_1 := (cell_far (p := ⟨gb206, 2, none⟩) (by first | (rw [add_block]; exact hn209_2) | (show (Addr.add _ _).block ≠ _; rw [add_block]; exact hn209_2) | exact hn209_2) (.int .i64 ((rd_T73 l0 a1).f2))).trans hx209_1; replace hx209_2 := (cell_far (p := ⟨gb206, 2, none⟩) (by first | (rw [add_block]; exact hn209_2) | (show (Addr.add _ _).block ≠ _; rw [add_block]; exact hn209_2) | exact hn209_2) (.int .i64 ((rd_T73 l0 a1).f2))).trans hx209_2; replace hx209_3 := (cell_far (p := ⟨gb206, 2, none⟩) (by first | (rw [add_block]; exact hn209_2) | (show (Addr.add _ _).block ≠ _; rw [add_block]; exact hn209_2) | exact hn209_2) (.int .i64 ((rd_T73 l0 a1).f2))).trans hx209_3; replace hx209_0 := (cell_far (p := ⟨gb206, 3, none⟩) (by first | (rw [add_block]; exact hn209_3) | (show (Addr.add _ _).block ≠ _; rw [add_block]; exact hn209_3) | exact hn209_3) (.int .i64 ((rd_T73 l0 a1).f3))).trans hx209_0; replace hx209_1 := (cell_far (p := ⟨gb206, 3, none⟩) (by first | (rw [add_block]; exact hn209_3) | (show (Addr.add _ _).block ≠ _; rw [add_block]; exact hn209_3) | exact hn209_3) (.int .i64 ((rd_T73 l0 a1).f3))).trans hx209_1; replace hx209_2 := (cell_far (p := ⟨gb206, 3, none⟩) (by first | (rw [add_block]; exact hn209_3) | (show (Addr.add _ _).block ≠ _; rw [add_block]; exact hn209_3) | exact hn209_3) (.int .i64 ((rd_T73 l0 a1).f3))).trans hx209_2; replace hx209_3 := (cell_far (p := ⟨gb206, 3, none⟩) (by first | (rw [add_block]; exact hn209_3) | (show (Addr.add _ _).block ≠ _; rw [add_block]; exact hn209_3) | exact hn209_3) (.int .i64 ((rd_T73 l0 a1).f3))).trans hx209_3; clear hn209_0 hn209_1 hn209_2 hn209_3; replace p209 := eq_true p209; replace q209 := eq_true q209) | ((with_reducible refine gate_callee (f := 75) rfl ?_); refine goesS (some 37) Try.func75 #[.string ((rd_T73 l0 ((rd_T73 l0 a1).f2)).f1), .string a2] ?_; (with_reducible refine (spec_IsRearranged.calls k ((rd_T73 l0 ((rd_T73 l0 a1).f2)).f1) a2 t210 _ A20.out).mono ?_); rintro e w' ⟨rfl, ⟨nd, rfl⟩⟩; refine ⟨_, rfl, ?_⟩))
        go_ret
        exact ⟨EWW, BL⟩
       ·rw [if_neg c19] at H
        exact absurd H (by simp)
      ·rw [if_neg c18] at H
       exact absurd H (by simp)
     ·rw [if_neg c17] at H
      have c17b0 : (((rd_T73 l0 a1).f0) == 3) = false := beq_eq_false_iff_ne.mpr c17
      have c17b1 : (((rd_T73 l0 a1).f0) != 3) = true := bne_iff_ne.mpr c17
      by_cases c23 : ((rd_T73 l0 a1).f0) = 4
      ·rw [if_pos c23] at H
       have c23b0 : (((rd_T73 l0 a1).f0) == 4) = true := beq_iff_eq.mpr c23
       have c23b1 : (((rd_T73 l0 a1).f0) != 4) = false := bne_eq_false_iff_eq.mpr c23
       clear c23
       replace H := Option.bind_eq_some_iff.mp H
       obtain ⟨t211, A240, H⟩ := H
       replace H : (some t211) = some r := H
       have A24 := Aside0.mk A240
       clear A240
       obtain rfl := Option.some.inj H
       have p205 : 0 ≤ (a1 : Int) := OD
       have q205 : a1 < (l0.length : Int) := OD
       obtain ⟨ad205, e205, hx205_0, hx205_1, hx205_2, hx205_3⟩ := at_T73 HR0.out a1 p205 q205
       cases e205
       replace p205 := eq_true p205
       replace q205 := eq_true q205
       go_enter Try.func65, Try.ntmps65
       go_wp2_with (first | ((with_reducible refine gate_dst (N := 7) rfl ?_); refine box_ev (N := 7) (cs := #[.int .i64 0, .string (⟨#[]⟩ : ByteArray), .int .i64 0, .int .i64 0]) (t := 73) ?_; intro gb206 hg w25 hbox hb; have n0_ := BS (w := w) hb; have n1_ := Aside0.mk (hbox); have n2_ := SZ (w := w) hg; have n3_ := SZ (w := w) hg; clear HB; have HB := n0_; have BK206 := n1_; have GW206 := n2_; have GE206 := n3_; clear n0_ n1_ n2_ n3_; clear hb hbox hg; obtain ⟨hcz26_0, hcz26_1, hcz26_2, hcz26_3, hfz26_0, hfz26_1, hfz26_2, hfz26_3⟩ := cz4 BK206.out) | ((with_reducible refine gate_callee (f := 76) rfl ?_); refine goesS (some 43) Try.func76 #[.slice (some ad205) l0.length c0, .agg #[.int .i64 ((rd_T73 l0 a1).f0), .string ((rd_T73 l0 a1).f1), .int .i64 ((rd_T73 l0 a1).f2), .int .i64 ((rd_T73 l0 a1).f3)], .string a2] ?_; (with_reducible refine (spec_l15Join.calls (fun _ => spec_l15Makes.f k) (fun _ A_ c_ l_ i_ s_ b_ W_ hr_ hc_ h_ => ih k (by omega) A_ c_ l_ i_ s_ b_ W_ hr_ hc_ h_) k _ _ l0 ((rd_T73 l0 a1).f0) ((rd_T73 l0 a1).f1) ((rd_T73 l0 a1).f2) ((rd_T73 l0 a1).f3) a2 t211 _ ?side1 ?side2 A24.out).mono ?_); (case side1 => exact Kd.C_below HR0.out BL); (case side2 => exact HC0.out); rintro e w27 ⟨rfl, hb⟩; refine ⟨_, rfl, ?_⟩; have n0_ := Aside0.mk (blk_below (g := gb206) (o := .cells #[.int .i64 ((rd_T73 l0 a1).f0), .string ((rd_T73 l0 a1).f1), .int .i64 ((rd_T73 l0 a1).f2), .int .i64 ((rd_T73 l0 a1).f3)] 73 (0, 0)) (by (with_reducible repeat (first | refine blk_drewN ?_ _ | refine blk_drew ?_ | refine blk_alloc ?_ _)); refine blk_put (cs := #[.int .i64 ((rd_T73 l0 a1).f0), .string ((rd_T73 l0 a1).f1), .int .i64 ((rd_T73 l0 a1).f2), .int .i64 0]) ?_ 3 _ rfl; (with_reducible repeat (first | refine blk_drewN ?_ _ | refine blk_drew ?_ | refine blk_alloc ?_ _)); refine blk_put (cs := #[.int .i64 ((rd_T73 l0 a1).f0), .string ((rd_T73 l0 a1).f1), .int .i64 0, .int .i64 0]) ?_ 2 _ rfl; (with_reducible repeat (first | refine blk_drewN ?_ _ | refine blk_drew ?_ | refine blk_alloc ?_ _)); refine blk_put (cs := #[.int .i64 ((rd_T73 l0 a1).f0), .string (⟨#[]⟩ : ByteArray), .int .i64 0, .int .i64 0]) ?_ 1 _ rfl; (with_reducible repeat (first | refine blk_drewN ?_ _ | refine blk_drew ?_ | refine blk_alloc ?_ _)); refine blk_put (cs := #[.int .i64 0, .string (⟨#[]⟩ : ByteArray), .int .i64 0, .int .i64 0]) ?_ 0 _ rfl; (with_reducible repeat (first | refine blk_drewN ?_ _ | refine blk_drew ?_ | refine blk_alloc ?_ _)); exact BK206.out) hb); replace HB := BS (w := w) hb; clear BK206; have BK206 := n0_; clear n0_; (try clear hb)))
       go_ret
       exact ⟨EWW, BL⟩
      ·rw [if_neg c23] at H
       have c23b0 : (((rd_T73 l0 a1).f0) == 4) = false := beq_eq_false_iff_ne.mpr c23
       have c23b1 : (((rd_T73 l0 a1).f0) != 4) = true := bne_iff_ne.mpr c23
       by_cases c28 : ((rd_T73 l0 a1).f0) = 5
       ·rw [if_pos c28] at H
        have c28b0 : (((rd_T73 l0 a1).f0) == 5) = true := beq_iff_eq.mpr c28
        have c28b1 : (((rd_T73 l0 a1).f0) != 5) = false := bne_eq_false_iff_eq.mpr c28
        clear c28
        replace H := Option.bind_eq_some_iff.mp H
        obtain ⟨t212, A290, H⟩ := H
        replace H : (some t212) = some r := H
        have A29 := Aside0.mk A290
        clear A290
        obtain rfl := Option.some.inj H
        have p205 : 0 ≤ (a1 : Int) := OD
        have q205 : a1 < (l0.length : Int) := OD
        obtain ⟨ad205, e205, hx205_0, hx205_1, hx205_2, hx205_3⟩ := at_T73 HR0.out a1 p205 q205
        cases e205
        replace p205 := eq_true p205
        replace q205 := eq_true q205
        go_enter Try.func65, Try.ntmps65
        go_wp2_with (first | ((with_reducible refine gate_dst (N := 7) rfl ?_); refine box_ev (N := 7) (cs := #[.int .i64 0, .string (⟨#[]⟩ : ByteArray), .int .i64 0, .int .i64 0]) (t := 73) ?_; intro gb206 hg w30 hbox hb; have n0_ := BS (w := w) hb; have n1_ := Aside0.mk (hbox); have n2_ := SZ (w := w) hg; have n3_ := SZ (w := w) hg; clear HB; have HB := n0_; have BK206 := n1_; have GW206 := n2_; have GE206 := n3_; clear n0_ n1_ n2_ n3_; clear hb hbox hg; obtain ⟨hcz31_0, hcz31_1, hcz31_2, hcz31_3, hfz31_0, hfz31_1, hfz31_2, hfz31_3⟩ := cz4 BK206.out) | ((with_reducible refine gate_callee (f := 77) rfl ?_); refine goesS (some 49) Try.func77 #[.slice (some ad205) l0.length c0, .agg #[.int .i64 ((rd_T73 l0 a1).f0), .string ((rd_T73 l0 a1).f1), .int .i64 ((rd_T73 l0 a1).f2), .int .i64 ((rd_T73 l0 a1).f3)], .string a2] ?_; (with_reducible refine (spec_l15In.calls (fun _ => spec_l15Makes.f k) (fun _ A_ c_ l_ i_ s_ b_ W_ hr_ hc_ h_ => ih k (by omega) A_ c_ l_ i_ s_ b_ W_ hr_ hc_ h_) k _ _ l0 ((rd_T73 l0 a1).f0) ((rd_T73 l0 a1).f1) ((rd_T73 l0 a1).f2) ((rd_T73 l0 a1).f3) a2 t212 _ ?side1 ?side2 A29.out).mono ?_); (case side1 => exact Kd.C_below HR0.out BL); (case side2 => exact HC0.out); rintro e w32 ⟨rfl, hb⟩; refine ⟨_, rfl, ?_⟩; have n0_ := Aside0.mk (blk_below (g := gb206) (o := .cells #[.int .i64 ((rd_T73 l0 a1).f0), .string ((rd_T73 l0 a1).f1), .int .i64 ((rd_T73 l0 a1).f2), .int .i64 ((rd_T73 l0 a1).f3)] 73 (0, 0)) (by (with_reducible repeat (first | refine blk_drewN ?_ _ | refine blk_drew ?_ | refine blk_alloc ?_ _)); refine blk_put (cs := #[.int .i64 ((rd_T73 l0 a1).f0), .string ((rd_T73 l0 a1).f1), .int .i64 ((rd_T73 l0 a1).f2), .int .i64 0]) ?_ 3 _ rfl; (with_reducible repeat (first | refine blk_drewN ?_ _ | refine blk_drew ?_ | refine blk_alloc ?_ _)); refine blk_put (cs := #[.int .i64 ((rd_T73 l0 a1).f0), .string ((rd_T73 l0 a1).f1), .int .i64 0, .int .i64 0]) ?_ 2 _ rfl; (with_reducible repeat (first | refine blk_drewN ?_ _ | refine blk_drew ?_ | refine blk_alloc ?_ _)); refine blk_put (cs := #[.int .i64 ((rd_T73 l0 a1).f0), .string (⟨#[]⟩ : ByteArray), .int .i64 0, .int .i64 0]) ?_ 1 _ rfl; (with_reducible repeat (first | refine blk_drewN ?_ _ | refine blk_drew ?_ | refine blk_alloc ?_ _)); refine blk_put (cs := #[.int .i64 0, .string (⟨#[]⟩ : ByteArray), .int .i64 0, .int .i64 0]) ?_ 0 _ rfl; (with_reducible repeat (first | refine blk_drewN ?_ _ | refine blk_drew ?_ | refine blk_alloc ?_ _)); exact BK206.out) hb); replace HB := BS (w := w) hb; clear BK206; have BK206 := n0_; clear n0_; (try clear hb)))
        go_ret
        exact ⟨EWW, BL⟩
       ·rw [if_neg c28] at H
        have c28b0 : (((rd_T73 l0 a1).f0) == 5) = false := beq_eq_false_iff_ne.mpr c28
        have c28b1 : (((rd_T73 l0 a1).f0) != 5) = true := bne_iff_ne.mpr c28
        by_cases c33 : ((rd_T73 l0 a1).f0) = 6
        ·rw [if_pos c33] at H
         have c33b0 : (((rd_T73 l0 a1).f0) == 6) = true := beq_iff_eq.mpr c33
         have c33b1 : (((rd_T73 l0 a1).f0) != 6) = false := bne_eq_false_iff_eq.mpr c33
         clear c33
         by_cases c34 : 0 ≤ ((rd_T73 l0 a1).f2)
         ·rw [if_pos c34] at H
          have c34b0 : decide (0 ≤ ((rd_T73 l0 a1).f2)) = true := decide_eq_true c34
          clear c34
          by_cases c35 : ((rd_T73 l0 a1).f2) < (l0.length : Int)
          ·rw [if_pos c35] at H
           have c35b0 : decide (((rd_T73 l0 a1).f2) < (l0.length : Int)) = true := decide_eq_true c35
           clear c35
           replace H := Option.bind_eq_some_iff.mp H
           obtain ⟨t214, A360, H⟩ := H
           replace H : (some (t214.toList == a2.toList)) = some r := H
           have A36 := Aside0.mk A360
           clear A360
           obtain rfl := Option.some.inj H
           have p205 : 0 ≤ (a1 : Int) := OD
           have q205 : a1 < (l0.length : Int) := OD
           obtain ⟨ad205, e205, hx205_0, hx205_1, hx205_2, hx205_3⟩ := at_T73 HR0.out a1 p205 q205
           cases e205
           replace p205 := eq_true p205
           replace q205 := eq_true q205
           go_enter Try.func65, Try.ntmps65
           go_wp2_with (first | ((with_reducible refine gate_dst (N := 7) rfl ?_); refine box_ev (N := 7) (cs := #[.int .i64 0, .string (⟨#[]⟩ : ByteArray), .int .i64 0, .int .i64 0]) (t := 73) ?_; intro gb206 hg w37 hbox hb; have n0_ := BS (w := w) hb; have n1_ := Aside0.mk (hbox); have n2_ := SZ (w := w) hg; have n3_ := SZ (w := w) hg; clear HB; have HB := n0_; have BK206 := n1_; have GW206 := n2_; have GE206 := n3_; clear n0_ n1_ n2_ n3_; clear hb hbox hg; obtain ⟨hcz38_0, hcz38_1, hcz38_2, hcz38_3, hfz38_0, hfz38_1, hfz38_2, hfz38_3⟩ := cz4 BK206.out; have p213 : 0 ≤ (((rd_T73 l0 a1).f2) : Int) := OD; have q213 : ((rd_T73 l0 a1).f2) < (l0.length : Int) := OD; obtain ⟨ad213, e213, hx213_0, hx213_1, hx213_2, hx213_3⟩ := at_T73 HR0.out ((rd_T73 l0 a1).f2) p213 q213; obtain rfl : ad205 = ad213 := (by injection e213); have hn213_0 : ad205.block ≠ gb206 := Nat.ne_of_lt (Nat.lt_of_lt_of_le (by have := World.block_lt_of_cell? _ _ hx213_0; first | rwa [add_block] at this | exact this) GW206.out); have hn213_1 : ad205.block ≠ gb206 := Nat.ne_of_lt (Nat.lt_of_lt_of_le (by have := World.block_lt_of_cell? _ _ hx213_0; first | rwa [add_block] at this | exact this) GW206.out); have hn213_2 : ad205.block ≠ gb206 := Nat.ne_of_lt (Nat.lt_of_lt_of_le (by have := World.block_lt_of_cell? _ _ hx213_0; first | rwa [add_block] at this | exact this) GW206.out); have hn213_3 : ad205.block ≠ gb206 := Nat.ne_of_lt (Nat.lt_of_lt_of_le (by have := World.block_lt_of_cell? _ _ hx213_0; first | rwa [add_block] at this | exact this) GW206.out); replace hx213_0 := (HB.out.cell (World.block_lt_of_cell? w _ hx213_0)).trans hx213_0; replace hx213_1 := (HB.out.cell (World.block_lt_of_cell? w _ hx213_1)).trans hx213_1; replace hx213_2 := (HB.out.cell (World.block_lt_of_cell? w _ hx213_2)).trans hx213_2; replace hx213_3 := (HB.out.cell (World.block_lt_of_cell? w _ hx213_3)).trans hx213_3; replace hx213_0 := (cell_far (p := ⟨gb206, 0, none⟩) (by first | (rw [add_block]; exact hn213_0) | (show (Addr.add _ _).block ≠ _; rw [add_block]; exact hn213_0) | exact hn213_0) (.int .i64 ((rd_T73 l0 a1).f0))).trans hx213_0; replace hx213_1 := (cell_far (p := ⟨gb206, 0, none⟩) (by first | (rw [add_block]; exact hn213_0) | (show (Addr.add _ _).block ≠ _; rw [add_block]; exact hn213_0) | exact hn213_0) (.int .i64 ((rd_T73 l0 a1).f0))).trans hx213_1; replace hx213_2 := (cell_far (p := ⟨gb206, 0, none⟩) (by first | (rw [add_block]; exact hn213_0) | (show (Addr.add _ _).block ≠ _; rw [add_block]; exact hn213_0) | exact hn213_0) (.int .i64 ((rd_T73 l0 a1).f0))).trans hx213_2; replace hx213_3 := (cell_far (p := ⟨gb206, 0, none⟩) (by first | (rw [add_block]; exact hn213_0) | (show (Addr.add _ _).block ≠ _; rw [add_block]; exact hn213_0) | exact hn213_0) (.int .i64 ((rd_T73 l0 a1).f0))).trans hx213_3; replace hx213_0 := (cell_far (p := ⟨gb206, 1, none⟩) (by first | (rw [add_block]; exact hn213_1) | (show (Addr.add _ _).block ≠ _; rw [add_block]; exact hn213_1) | exact hn213_1) (.string ((rd_T73 l0 a1).f1))).trans hx213_0; replace hx213_1 := (cell_far (p := ⟨gb206, 1, none⟩) (by first | (rw [add_block]; exact hn213_1) | (show (Addr.add _ _).block ≠ _; rw [add_block]; exact hn213_1) | exact hn213_1) (.string ((rd_T73 l0 a1).f1))).trans hx213_1; replace hx213_2 := (cell_far (p := ⟨gb206, 1, none⟩) (by first | (rw [add_block]; exact hn213_1) | (show (Addr.add _ _).block ≠ _; rw [add_block]; exact hn213_1) | exact hn213_1) (.string ((rd_T73 l0 a1).f1))).trans hx213_2; replace hx213_3 := (cell_far (p := ⟨gb206, 1, none⟩) (by first | (rw [add_block]; exact hn213_1) | (show (Addr.add _ _).block ≠ _; rw [add_block]; exact hn213_1) | exact hn213_1) (.string ((rd_T73 l0 a1).f1))).trans hx213_3; replace hx213_0 := (cell_far (p := ⟨gb206, 2, none⟩) (by first | (rw [add_block]; exact hn213_2) | (show (Addr.add _ _).block ≠ _; rw [add_block]; exact hn213_2) | exact hn213_2) (.int .i64 ((rd_T73 l0 a1).f2))).trans hx213_0; replace hx213_1 := (cell_far (p := ⟨gb206, 2, none⟩) (by first | (rw [add_block]; exact hn213_2) | (show (Addr.add _ _).block ≠ _; rw [add_block]; exact hn213_2) | exact hn213_2) (.int .i64 ((rd_T73 l0 a1).f2))).trans hx213_1; replace hx213_2 := (cell_far (p := ⟨gb206, 2, none⟩) (by first | (rw [add_block]; exact hn213_2) | (show (Addr.add _ _).block ≠ _; rw [add_block]; exact hn213_2) | exact hn213_2) (.int .i64 ((rd_T73 l0 a1).f2))).trans hx213_2; replace hx213_3 := (cell_far (p := ⟨gb206, 2, none⟩) (by first | (rw [add_block]; exact hn213_2) | (show (Addr.add _ _).block ≠ _; rw [add_block]; exact hn213_2) | exact hn213_2) (.int .i64 ((rd_T73 l0 a1).f2))).trans hx213_3; replace hx213_0 := (cell_far (p := ⟨gb206, 3, none⟩) (by first | (rw [add_block]; exact hn213_3) | (show (Addr.add _ _).block ≠ _; rw [add_block]; exact hn213_3) | exact hn213_3) (.int .i64 ((rd_T73 l0 a1).f3))).trans hx213_0; replace hx213_1 := (cell_far (p := ⟨gb206, 3, none⟩) (by first | (rw [add_block]; exact hn213_3) | (show (Addr.add _ _).block ≠ _; rw [add_block]; exact hn213_3) | exact hn213_3) (.int .i64 ((rd_T73 l0 a1).f3))).trans hx213_1; replace hx213_2 := (cell_far (p := ⟨gb206, 3, none⟩) (by first | (rw [add_block]; exact hn213_3) | (show (Addr.add _ _).block ≠ _; rw [add_block]; exact hn213_3) | exact hn213_3) (.int .i64 ((rd_T73 l0 a1).f3))).trans hx213_2; replace hx213_3 := (cell_far (p := ⟨gb206, 3, none⟩) (by first | (rw [add_block]; exact hn213_3) | (show (Addr.add _ _).block ≠ _; rw [add_block]; exact hn213_3) | exact hn213_3) (.int .i64 ((rd_T73 l0 a1).f3))).trans hx213_3; clear hn213_0 hn213_1 hn213_2 hn213_3; replace p213 := eq_true p213; replace q213 := eq_true q213) | ((with_reducible refine gate_callee (f := 78) rfl ?_); refine goesS (some 58) Try.func78 #[.string ((rd_T73 l0 ((rd_T73 l0 a1).f2)).f1)] ?_; (with_reducible refine (spec_HeadOf.calls k ((rd_T73 l0 ((rd_T73 l0 a1).f2)).f1) t214 _ A36.out).mono ?_); rintro e w' ⟨rfl, ⟨nd, rfl⟩⟩; refine ⟨_, rfl, ?_⟩))
           go_ret
           exact ⟨EWW, BL⟩
          ·rw [if_neg c35] at H
           exact absurd H (by simp)
         ·rw [if_neg c34] at H
          exact absurd H (by simp)
        ·rw [if_neg c33] at H
         have c33b0 : (((rd_T73 l0 a1).f0) == 6) = false := beq_eq_false_iff_ne.mpr c33
         have c33b1 : (((rd_T73 l0 a1).f0) != 6) = true := bne_iff_ne.mpr c33
         by_cases c39 : ((rd_T73 l0 a1).f0) = 7
         ·rw [if_pos c39] at H
          have c39b0 : (((rd_T73 l0 a1).f0) == 7) = true := beq_iff_eq.mpr c39
          have c39b1 : (((rd_T73 l0 a1).f0) != 7) = false := bne_eq_false_iff_eq.mpr c39
          clear c39
          by_cases c40 : 0 ≤ ((rd_T73 l0 a1).f2)
          ·rw [if_pos c40] at H
           have c40b0 : decide (0 ≤ ((rd_T73 l0 a1).f2)) = true := decide_eq_true c40
           clear c40
           by_cases c41 : ((rd_T73 l0 a1).f2) < (l0.length : Int)
           ·rw [if_pos c41] at H
            have c41b0 : decide (((rd_T73 l0 a1).f2) < (l0.length : Int)) = true := decide_eq_true c41
            clear c41
            replace H := Option.bind_eq_some_iff.mp H
            obtain ⟨t216, A420, H⟩ := H
            replace H : (some (t216.toList == a2.toList)) = some r := H
            have A42 := Aside0.mk A420
            clear A420
            obtain rfl := Option.some.inj H
            have p205 : 0 ≤ (a1 : Int) := OD
            have q205 : a1 < (l0.length : Int) := OD
            obtain ⟨ad205, e205, hx205_0, hx205_1, hx205_2, hx205_3⟩ := at_T73 HR0.out a1 p205 q205
            cases e205
            replace p205 := eq_true p205
            replace q205 := eq_true q205
            go_enter Try.func65, Try.ntmps65
            go_wp2_with (first | ((with_reducible refine gate_dst (N := 7) rfl ?_); refine box_ev (N := 7) (cs := #[.int .i64 0, .string (⟨#[]⟩ : ByteArray), .int .i64 0, .int .i64 0]) (t := 73) ?_; intro gb206 hg w43 hbox hb; have n0_ := BS (w := w) hb; have n1_ := Aside0.mk (hbox); have n2_ := SZ (w := w) hg; have n3_ := SZ (w := w) hg; clear HB; have HB := n0_; have BK206 := n1_; have GW206 := n2_; have GE206 := n3_; clear n0_ n1_ n2_ n3_; clear hb hbox hg; obtain ⟨hcz44_0, hcz44_1, hcz44_2, hcz44_3, hfz44_0, hfz44_1, hfz44_2, hfz44_3⟩ := cz4 BK206.out; have p215 : 0 ≤ (((rd_T73 l0 a1).f2) : Int) := OD; have q215 : ((rd_T73 l0 a1).f2) < (l0.length : Int) := OD; obtain ⟨ad215, e215, hx215_0, hx215_1, hx215_2, hx215_3⟩ := at_T73 HR0.out ((rd_T73 l0 a1).f2) p215 q215; obtain rfl : ad205 = ad215 := (by injection e215); have hn215_0 : ad205.block ≠ gb206 := Nat.ne_of_lt (Nat.lt_of_lt_of_le (by have := World.block_lt_of_cell? _ _ hx215_0; first | rwa [add_block] at this | exact this) GW206.out); have hn215_1 : ad205.block ≠ gb206 := Nat.ne_of_lt (Nat.lt_of_lt_of_le (by have := World.block_lt_of_cell? _ _ hx215_0; first | rwa [add_block] at this | exact this) GW206.out); have hn215_2 : ad205.block ≠ gb206 := Nat.ne_of_lt (Nat.lt_of_lt_of_le (by have := World.block_lt_of_cell? _ _ hx215_0; first | rwa [add_block] at this | exact this) GW206.out); have hn215_3 : ad205.block ≠ gb206 := Nat.ne_of_lt (Nat.lt_of_lt_of_le (by have := World.block_lt_of_cell? _ _ hx215_0; first | rwa [add_block] at this | exact this) GW206.out); replace hx215_0 := (HB.out.cell (World.block_lt_of_cell? w _ hx215_0)).trans hx215_0; replace hx215_1 := (HB.out.cell (World.block_lt_of_cell? w _ hx215_1)).trans hx215_1; replace hx215_2 := (HB.out.cell (World.block_lt_of_cell? w _ hx215_2)).trans hx215_2; replace hx215_3 := (HB.out.cell (World.block_lt_of_cell? w _ hx215_3)).trans hx215_3; replace hx215_0 := (cell_far (p := ⟨gb206, 0, none⟩) (by first | (rw [add_block]; exact hn215_0) | (show (Addr.add _ _).block ≠ _; rw [add_block]; exact hn215_0) | exact hn215_0) (.int .i64 ((rd_T73 l0 a1).f0))).trans hx215_0; replace hx215_1 := (cell_far (p := ⟨gb206, 0, none⟩) (by first | (rw [add_block]; exact hn215_0) | (show (Addr.add _ _).block ≠ _; rw [add_block]; exact hn215_0) | exact hn215_0) (.int .i64 ((rd_T73 l0 a1).f0))).trans hx215_1; replace hx215_2 := (cell_far (p := ⟨gb206, 0, none⟩) (by first | (rw [add_block]; exact hn215_0) | (show (Addr.add _ _).block ≠ _; rw [add_block]; exact hn215_0) | exact hn215_0) (.int .i64 ((rd_T73 l0 a1).f0))).trans hx215_2; replace hx215_3 := (cell_far (p := ⟨gb206, 0, none⟩) (by first | (rw [add_block]; exact hn215_0) | (show (Addr.add _ _).block ≠ _; rw [add_block]; exact hn215_0) | exact hn215_0) (.int .i64 ((rd_T73 l0 a1).f0))).trans hx215_3; replace hx215_0 := (cell_far (p := ⟨gb206, 1, none⟩) (by first | (rw [add_block]; exact hn215_1) | (show (Addr.add _ _).block ≠ _; rw [add_block]; exact hn215_1) | exact hn215_1) (.string ((rd_T73 l0 a1).f1))).trans hx215_0; replace hx215_1 := (cell_far (p := ⟨gb206, 1, none⟩) (by first | (rw [add_block]; exact hn215_1) | (show (Addr.add _ _).block ≠ _; rw [add_block]; exact hn215_1) | exact hn215_1) (.string ((rd_T73 l0 a1).f1))).trans hx215_1; replace hx215_2 := (cell_far (p := ⟨gb206, 1, none⟩) (by first | (rw [add_block]; exact hn215_1) | (show (Addr.add _ _).block ≠ _; rw [add_block]; exact hn215_1) | exact hn215_1) (.string ((rd_T73 l0 a1).f1))).trans hx215_2; replace hx215_3 := (cell_far (p := ⟨gb206, 1, none⟩) (by first | (rw [add_block]; exact hn215_1) | (show (Addr.add _ _).block ≠ _; rw [add_block]; exact hn215_1) | exact hn215_1) (.string ((rd_T73 l0 a1).f1))).trans hx215_3; replace hx215_0 := (cell_far (p := ⟨gb206, 2, none⟩) (by first | (rw [add_block]; exact hn215_2) | (show (Addr.add _ _).block ≠ _; rw [add_block]; exact hn215_2) | exact hn215_2) (.int .i64 ((rd_T73 l0 a1).f2))).trans hx215_0; replace hx215_1 := (cell_far (p := ⟨gb206, 2, none⟩) (by first | (rw [add_block]; exact hn215_2) | (show (Addr.add _ _).block ≠ _; rw [add_block]; exact hn215_2) | exact hn215_2) (.int .i64 ((rd_T73 l0 a1).f2))).trans hx215_1; replace hx215_2 := (cell_far (p := ⟨gb206, 2, none⟩) (by first | (rw [add_block]; exact hn215_2) | (show (Addr.add _ _).block ≠ _; rw [add_block]; exact hn215_2) | exact hn215_2) (.int .i64 ((rd_T73 l0 a1).f2))).trans hx215_2; replace hx215_3 := (cell_far (p := ⟨gb206, 2, none⟩) (by first | (rw [add_block]; exact hn215_2) | (show (Addr.add _ _).block ≠ _; rw [add_block]; exact hn215_2) | exact hn215_2) (.int .i64 ((rd_T73 l0 a1).f2))).trans hx215_3; replace hx215_0 := (cell_far (p := ⟨gb206, 3, none⟩) (by first | (rw [add_block]; exact hn215_3) | (show (Addr.add _ _).block ≠ _; rw [add_block]; exact hn215_3) | exact hn215_3) (.int .i64 ((rd_T73 l0 a1).f3))).trans hx215_0; replace hx215_1 := (cell_far (p := ⟨gb206, 3, none⟩) (by first | (rw [add_block]; exact hn215_3) | (show (Addr.add _ _).block ≠ _; rw [add_block]; exact hn215_3) | exact hn215_3) (.int .i64 ((rd_T73 l0 a1).f3))).trans hx215_1; replace hx215_2 := (cell_far (p := ⟨gb206, 3, none⟩) (by first | (rw [add_block]; exact hn215_3) | (show (Addr.add _ _).block ≠ _; rw [add_block]; exact hn215_3) | exact hn215_3) (.int .i64 ((rd_T73 l0 a1).f3))).trans hx215_2; replace hx215_3 := (cell_far (p := ⟨gb206, 3, none⟩) (by first | (rw [add_block]; exact hn215_3) | (show (Addr.add _ _).block ≠ _; rw [add_block]; exact hn215_3) | exact hn215_3) (.int .i64 ((rd_T73 l0 a1).f3))).trans hx215_3; clear hn215_0 hn215_1 hn215_2 hn215_3; replace p215 := eq_true p215; replace q215 := eq_true q215) | ((with_reducible refine gate_callee (f := 79) rfl ?_); refine goesS (some 69) Try.func79 #[.string ((rd_T73 l0 ((rd_T73 l0 a1).f2)).f1)] ?_; (with_reducible refine (spec_WithoutHead.calls k ((rd_T73 l0 ((rd_T73 l0 a1).f2)).f1) t216 _ A42.out).mono ?_); rintro e w' ⟨rfl, ⟨nd, rfl⟩⟩; refine ⟨_, rfl, ?_⟩))
            go_ret
            exact ⟨EWW, BL⟩
           ·rw [if_neg c41] at H
            exact absurd H (by simp)
          ·rw [if_neg c40] at H
           exact absurd H (by simp)
         ·rw [if_neg c39] at H
          have c39b0 : (((rd_T73 l0 a1).f0) == 7) = false := beq_eq_false_iff_ne.mpr c39
          have c39b1 : (((rd_T73 l0 a1).f0) != 7) = true := bne_iff_ne.mpr c39
          by_cases c45 : ((rd_T73 l0 a1).f0) = 8
          ·rw [if_pos c45] at H
           have c45b0 : (((rd_T73 l0 a1).f0) == 8) = true := beq_iff_eq.mpr c45
           have c45b1 : (((rd_T73 l0 a1).f0) != 8) = false := bne_eq_false_iff_eq.mpr c45
           clear c45
           by_cases c46 : 0 ≤ ((rd_T73 l0 a1).f2)
           ·rw [if_pos c46] at H
            have c46b0 : decide (0 ≤ ((rd_T73 l0 a1).f2)) = true := decide_eq_true c46
            clear c46
            by_cases c47 : ((rd_T73 l0 a1).f2) < (l0.length : Int)
            ·rw [if_pos c47] at H
             have c47b0 : decide (((rd_T73 l0 a1).f2) < (l0.length : Int)) = true := decide_eq_true c47
             clear c47
             replace H := Option.bind_eq_some_iff.mp H
             obtain ⟨t218, A480, H⟩ := H
             replace H : (some (t218.toList == a2.toList)) = some r := H
             have A48 := Aside0.mk A480
             clear A480
             obtain rfl := Option.some.inj H
             have p205 : 0 ≤ (a1 : Int) := OD
             have q205 : a1 < (l0.length : Int) := OD
             obtain ⟨ad205, e205, hx205_0, hx205_1, hx205_2, hx205_3⟩ := at_T73 HR0.out a1 p205 q205
             cases e205
             replace p205 := eq_true p205
             replace q205 := eq_true q205
             go_enter Try.func65, Try.ntmps65
             go_wp2_with (first | ((with_reducible refine gate_dst (N := 7) rfl ?_); refine box_ev (N := 7) (cs := #[.int .i64 0, .string (⟨#[]⟩ : ByteArray), .int .i64 0, .int .i64 0]) (t := 73) ?_; intro gb206 hg w49 hbox hb; have n0_ := BS (w := w) hb; have n1_ := Aside0.mk (hbox); have n2_ := SZ (w := w) hg; have n3_ := SZ (w := w) hg; clear HB; have HB := n0_; have BK206 := n1_; have GW206 := n2_; have GE206 := n3_; clear n0_ n1_ n2_ n3_; clear hb hbox hg; obtain ⟨hcz50_0, hcz50_1, hcz50_2, hcz50_3, hfz50_0, hfz50_1, hfz50_2, hfz50_3⟩ := cz4 BK206.out; have p217 : 0 ≤ (((rd_T73 l0 a1).f2) : Int) := OD; have q217 : ((rd_T73 l0 a1).f2) < (l0.length : Int) := OD; obtain ⟨ad217, e217, hx217_0, hx217_1, hx217_2, hx217_3⟩ := at_T73 HR0.out ((rd_T73 l0 a1).f2) p217 q217; obtain rfl : ad205 = ad217 := (by injection e217); have hn217_0 : ad205.block ≠ gb206 := Nat.ne_of_lt (Nat.lt_of_lt_of_le (by have := World.block_lt_of_cell? _ _ hx217_0; first | rwa [add_block] at this | exact this) GW206.out); have hn217_1 : ad205.block ≠ gb206 := Nat.ne_of_lt (Nat.lt_of_lt_of_le (by have := World.block_lt_of_cell? _ _ hx217_0; first | rwa [add_block] at this | exact this) GW206.out); have hn217_2 : ad205.block ≠ gb206 := Nat.ne_of_lt (Nat.lt_of_lt_of_le (by have := World.block_lt_of_cell? _ _ hx217_0; first | rwa [add_block] at this | exact this) GW206.out); have hn217_3 : ad205.block ≠ gb206 := Nat.ne_of_lt (Nat.lt_of_lt_of_le (by have := World.block_lt_of_cell? _ _ hx217_0; first | rwa [add_block] at this | exact this) GW206.out); replace hx217_0 := (HB.out.cell (World.block_lt_of_cell? w _ hx217_0)).trans hx217_0; replace hx217_1 := (HB.out.cell (World.block_lt_of_cell? w _ hx217_1)).trans hx217_1; replace hx217_2 := (HB.out.cell (World.block_lt_of_cell? w _ hx217_2)).trans hx217_2; replace hx217_3 := (HB.out.cell (World.block_lt_of_cell? w _ hx217_3)).trans hx217_3; replace hx217_0 := (cell_far (p := ⟨gb206, 0, none⟩) (by first | (rw [add_block]; exact hn217_0) | (show (Addr.add _ _).block ≠ _; rw [add_block]; exact hn217_0) | exact hn217_0) (.int .i64 ((rd_T73 l0 a1).f0))).trans hx217_0; replace hx217_1 := (cell_far (p := ⟨gb206, 0, none⟩) (by first | (rw [add_block]; exact hn217_0) | (show (Addr.add _ _).block ≠ _; rw [add_block]; exact hn217_0) | exact hn217_0) (.int .i64 ((rd_T73 l0 a1).f0))).trans hx217_1; replace hx217_2 := (cell_far (p := ⟨gb206, 0, none⟩) (by first | (rw [add_block]; exact hn217_0) | (show (Addr.add _ _).block ≠ _; rw [add_block]; exact hn217_0) | exact hn217_0) (.int .i64 ((rd_T73 l0 a1).f0))).trans hx217_2; replace hx217_3 := (cell_far (p := ⟨gb206, 0, none⟩) (by first | (rw [add_block]; exact hn217_0) | (show (Addr.add _ _).block ≠ _; rw [add_block]; exact hn217_0) | exact hn217_0) (.int .i64 ((rd_T73 l0 a1).f0))).trans hx217_3; replace hx217_0 := (cell_far (p := ⟨gb206, 1, none⟩) (by first | (rw [add_block]; exact hn217_1) | (show (Addr.add _ _).block ≠ _; rw [add_block]; exact hn217_1) | exact hn217_1) (.string ((rd_T73 l0 a1).f1))).trans hx217_0; replace hx217_1 := (cell_far (p := ⟨gb206, 1, none⟩) (by first | (rw [add_block]; exact hn217_1) | (show (Addr.add _ _).block ≠ _; rw [add_block]; exact hn217_1) | exact hn217_1) (.string ((rd_T73 l0 a1).f1))).trans hx217_1; replace hx217_2 := (cell_far (p := ⟨gb206, 1, none⟩) (by first | (rw [add_block]; exact hn217_1) | (show (Addr.add _ _).block ≠ _; rw [add_block]; exact hn217_1) | exact hn217_1) (.string ((rd_T73 l0 a1).f1))).trans hx217_2; replace hx217_3 := (cell_far (p := ⟨gb206, 1, none⟩) (by first | (rw [add_block]; exact hn217_1) | (show (Addr.add _ _).block ≠ _; rw [add_block]; exact hn217_1) | exact hn217_1) (.string ((rd_T73 l0 a1).f1))).trans hx217_3; replace hx217_0 := (cell_far (p := ⟨gb206, 2, none⟩) (by first | (rw [add_block]; exact hn217_2) | (show (Addr.add _ _).block ≠ _; rw [add_block]; exact hn217_2) | exact hn217_2) (.int .i64 ((rd_T73 l0 a1).f2))).trans hx217_0; replace hx217_1 := (cell_far (p := ⟨gb206, 2, none⟩) (by first | (rw [add_block]; exact hn217_2) | (show (Addr.add _ _).block ≠ _; rw [add_block]; exact hn217_2) | exact hn217_2) (.int .i64 ((rd_T73 l0 a1).f2))).trans hx217_1; replace hx217_2 := (cell_far (p := ⟨gb206, 2, none⟩) (by first | (rw [add_block]; exact hn217_2) | (show (Addr.add _ _).block ≠ _; rw [add_block]; exact hn217_2) | exact hn217_2) (.int .i64 ((rd_T73 l0 a1).f2))).trans hx217_2; replace hx217_3 := (cell_far (p := ⟨gb206, 2, none⟩) (by first | (rw [add_block]; exact hn217_2) | (show (Addr.add _ _).block ≠ _; rw [add_block]; exact hn217_2) | exact hn217_2) (.int .i64 ((rd_T73 l0 a1).f2))).trans hx217_3; replace hx217_0 := (cell_far (p := ⟨gb206, 3, none⟩) (by first | (rw [add_block]; exact hn217_3) | (show (Addr.add _ _).block ≠ _; rw [add_block]; exact hn217_3) | exact hn217_3) (.int .i64 ((rd_T73 l0 a1).f3))).trans hx217_0; replace hx217_1 := (cell_far (p := ⟨gb206, 3, none⟩) (by first | (rw [add_block]; exact hn217_3) | (show (Addr.add _ _).block ≠ _; rw [add_block]; exact hn217_3) | exact hn217_3) (.int .i64 ((rd_T73 l0 a1).f3))).trans hx217_1; replace hx217_2 := (cell_far (p := ⟨gb206, 3, none⟩) (by first | (rw [add_block]; exact hn217_3) | (show (Addr.add _ _).block ≠ _; rw [add_block]; exact hn217_3) | exact hn217_3) (.int .i64 ((rd_T73 l0 a1).f3))).trans hx217_2; replace hx217_3 := (cell_far (p := ⟨gb206, 3, none⟩) (by first | (rw [add_block]; exact hn217_3) | (show (Addr.add _ _).block ≠ _; rw [add_block]; exact hn217_3) | exact hn217_3) (.int .i64 ((rd_T73 l0 a1).f3))).trans hx217_3; clear hn217_0 hn217_1 hn217_2 hn217_3; replace p217 := eq_true p217; replace q217 := eq_true q217) | ((with_reducible refine gate_callee (f := 80) rfl ?_); refine goesS (some 80) Try.func80 #[.string ((rd_T73 l0 ((rd_T73 l0 a1).f2)).f1)] ?_; (with_reducible refine (spec_WithoutTail.calls k ((rd_T73 l0 ((rd_T73 l0 a1).f2)).f1) t218 _ A48.out).mono ?_); rintro e w' ⟨rfl, ⟨nd, rfl⟩⟩; refine ⟨_, rfl, ?_⟩))
             go_ret
             exact ⟨EWW, BL⟩
            ·rw [if_neg c47] at H
             exact absurd H (by simp)
           ·rw [if_neg c46] at H
            exact absurd H (by simp)
          ·rw [if_neg c45] at H
           have c45b0 : (((rd_T73 l0 a1).f0) == 8) = false := beq_eq_false_iff_ne.mpr c45
           have c45b1 : (((rd_T73 l0 a1).f0) != 8) = true := bne_iff_ne.mpr c45
           by_cases c51 : 0 ≤ ((rd_T73 l0 a1).f2)
           ·rw [if_pos c51] at H
            have c51b0 : decide (0 ≤ ((rd_T73 l0 a1).f2)) = true := decide_eq_true c51
            clear c51
            by_cases c52 : ((rd_T73 l0 a1).f2) < (l0.length : Int)
            ·rw [if_pos c52] at H
             have c52b0 : decide (((rd_T73 l0 a1).f2) < (l0.length : Int)) = true := decide_eq_true c52
             clear c52
             replace H := Option.bind_eq_some_iff.mp H
             obtain ⟨t220, A530, H⟩ := H
             replace H : (some t220) = some r := H
             have A53 := Aside0.mk A530
             clear A530
             obtain rfl := Option.some.inj H
             have p205 : 0 ≤ (a1 : Int) := OD
             have q205 : a1 < (l0.length : Int) := OD
             obtain ⟨ad205, e205, hx205_0, hx205_1, hx205_2, hx205_3⟩ := at_T73 HR0.out a1 p205 q205
             cases e205
             replace p205 := eq_true p205
             replace q205 := eq_true q205
             go_enter Try.func65, Try.ntmps65
             go_wp2_with (first | ((with_reducible refine gate_dst (N := 7) rfl ?_); refine box_ev (N := 7) (cs := #[.int .i64 0, .string (⟨#[]⟩ : ByteArray), .int .i64 0, .int .i64 0]) (t := 73) ?_; intro gb206 hg w54 hbox hb; have n0_ := BS (w := w) hb; have n1_ := Aside0.mk (hbox); have n2_ := SZ (w := w) hg; have n3_ := SZ (w := w) hg; clear HB; have HB := n0_; have BK206 := n1_; have GW206 := n2_; have GE206 := n3_; clear n0_ n1_ n2_ n3_; clear hb hbox hg; obtain ⟨hcz55_0, hcz55_1, hcz55_2, hcz55_3, hfz55_0, hfz55_1, hfz55_2, hfz55_3⟩ := cz4 BK206.out; have p219 : 0 ≤ (((rd_T73 l0 a1).f2) : Int) := OD; have q219 : ((rd_T73 l0 a1).f2) < (l0.length : Int) := OD; obtain ⟨ad219, e219, hx219_0, hx219_1, hx219_2, hx219_3⟩ := at_T73 HR0.out ((rd_T73 l0 a1).f2) p219 q219; obtain rfl : ad205 = ad219 := (by injection e219); have hn219_0 : ad205.block ≠ gb206 := Nat.ne_of_lt (Nat.lt_of_lt_of_le (by have := World.block_lt_of_cell? _ _ hx219_0; first | rwa [add_block] at this | exact this) GW206.out); have hn219_1 : ad205.block ≠ gb206 := Nat.ne_of_lt (Nat.lt_of_lt_of_le (by have := World.block_lt_of_cell? _ _ hx219_0; first | rwa [add_block] at this | exact this) GW206.out); have hn219_2 : ad205.block ≠ gb206 := Nat.ne_of_lt (Nat.lt_of_lt_of_le (by have := World.block_lt_of_cell? _ _ hx219_0; first | rwa [add_block] at this | exact this) GW206.out); have hn219_3 : ad205.block ≠ gb206 := Nat.ne_of_lt (Nat.lt_of_lt_of_le (by have := World.block_lt_of_cell? _ _ hx219_0; first | rwa [add_block] at this | exact this) GW206.out); replace hx219_0 := (HB.out.cell (World.block_lt_of_cell? w _ hx219_0)).trans hx219_0; replace hx219_1 := (HB.out.cell (World.block_lt_of_cell? w _ hx219_1)).trans hx219_1; replace hx219_2 := (HB.out.cell (World.block_lt_of_cell? w _ hx219_2)).trans hx219_2; replace hx219_3 := (HB.out.cell (World.block_lt_of_cell? w _ hx219_3)).trans hx219_3; replace hx219_0 := (cell_far (p := ⟨gb206, 0, none⟩) (by first | (rw [add_block]; exact hn219_0) | (show (Addr.add _ _).block ≠ _; rw [add_block]; exact hn219_0) | exact hn219_0) (.int .i64 ((rd_T73 l0 a1).f0))).trans hx219_0; replace hx219_1 := (cell_far (p := ⟨gb206, 0, none⟩) (by first | (rw [add_block]; exact hn219_0) | (show (Addr.add _ _).block ≠ _; rw [add_block]; exact hn219_0) | exact hn219_0) (.int .i64 ((rd_T73 l0 a1).f0))).trans hx219_1; replace hx219_2 := (cell_far (p := ⟨gb206, 0, none⟩) (by first | (rw [add_block]; exact hn219_0) | (show (Addr.add _ _).block ≠ _; rw [add_block]; exact hn219_0) | exact hn219_0) (.int .i64 ((rd_T73 l0 a1).f0))).trans hx219_2; replace hx219_3 := (cell_far (p := ⟨gb206, 0, none⟩) (by first | (rw [add_block]; exact hn219_0) | (show (Addr.add _ _).block ≠ _; rw [add_block]; exact hn219_0) | exact hn219_0) (.int .i64 ((rd_T73 l0 a1).f0))).trans hx219_3; replace hx219_0 := (cell_far (p := ⟨gb206, 1, none⟩) (by first | (rw [add_block]; exact hn219_1) | (show (Addr.add _ _).block ≠ _; rw [add_block]; exact hn219_1) | exact hn219_1) (.string ((rd_T73 l0 a1).f1))).trans hx219_0; replace hx219_1 := (cell_far (p := ⟨gb206, 1, none⟩) (by first | (rw [add_block]; exact hn219_1) | (show (Addr.add _ _).block ≠ _; rw [add_block]; exact hn219_1) | exact hn219_1) (.string ((rd_T73 l0 a1).f1))).trans hx219_1; replace hx219_2 := (cell_far (p := ⟨gb206, 1, none⟩) (by first | (rw [add_block]; exact hn219_1) | (show (Addr.add _ _).block ≠ _; rw [add_block]; exact hn219_1) | exact hn219_1) (.string ((rd_T73 l0 a1).f1))).trans hx219_2; replace hx219_3 := (cell_far (p := ⟨gb206, 1, none⟩) (by first | (rw [add_block]; exact hn219_1) | (show (Addr.add _ _).block ≠ _; rw [add_block]; exact hn219_1) | exact hn219_1) (.string ((rd_T73 l0 a1).f1))).trans hx219_3; replace hx219_0 := (cell_far (p := ⟨gb206, 2, none⟩) (by first | (rw [add_block]; exact hn219_2) | (show (Addr.add _ _).block ≠ _; rw [add_block]; exact hn219_2) | exact hn219_2) (.int .i64 ((rd_T73 l0 a1).f2))).trans hx219_0; replace hx219_1 := (cell_far (p := ⟨gb206, 2, none⟩) (by first | (rw [add_block]; exact hn219_2) | (show (Addr.add _ _).block ≠ _; rw [add_block]; exact hn219_2) | exact hn219_2) (.int .i64 ((rd_T73 l0 a1).f2))).trans hx219_1; replace hx219_2 := (cell_far (p := ⟨gb206, 2, none⟩) (by first | (rw [add_block]; exact hn219_2) | (show (Addr.add _ _).block ≠ _; rw [add_block]; exact hn219_2) | exact hn219_2) (.int .i64 ((rd_T73 l0 a1).f2))).trans hx219_2; replace hx219_3 := (cell_far (p := ⟨gb206, 2, none⟩) (by first | (rw [add_block]; exact hn219_2) | (show (Addr.add _ _).block ≠ _; rw [add_block]; exact hn219_2) | exact hn219_2) (.int .i64 ((rd_T73 l0 a1).f2))).trans hx219_3; replace hx219_0 := (cell_far (p := ⟨gb206, 3, none⟩) (by first | (rw [add_block]; exact hn219_3) | (show (Addr.add _ _).block ≠ _; rw [add_block]; exact hn219_3) | exact hn219_3) (.int .i64 ((rd_T73 l0 a1).f3))).trans hx219_0; replace hx219_1 := (cell_far (p := ⟨gb206, 3, none⟩) (by first | (rw [add_block]; exact hn219_3) | (show (Addr.add _ _).block ≠ _; rw [add_block]; exact hn219_3) | exact hn219_3) (.int .i64 ((rd_T73 l0 a1).f3))).trans hx219_1; replace hx219_2 := (cell_far (p := ⟨gb206, 3, none⟩) (by first | (rw [add_block]; exact hn219_3) | (show (Addr.add _ _).block ≠ _; rw [add_block]; exact hn219_3) | exact hn219_3) (.int .i64 ((rd_T73 l0 a1).f3))).trans hx219_2; replace hx219_3 := (cell_far (p := ⟨gb206, 3, none⟩) (by first | (rw [add_block]; exact hn219_3) | (show (Addr.add _ _).block ≠ _; rw [add_block]; exact hn219_3) | exact hn219_3) (.int .i64 ((rd_T73 l0 a1).f3))).trans hx219_3; clear hn219_0 hn219_1 hn219_2 hn219_3; replace p219 := eq_true p219; replace q219 := eq_true q219) | ((with_reducible refine gate_callee (f := 81) rfl ?_); refine goesS (some 90) Try.func81 #[.string a2, .string ((rd_T73 l0 ((rd_T73 l0 a1).f2)).f1)] ?_; (with_reducible refine (spec_IsInside.calls k a2 ((rd_T73 l0 ((rd_T73 l0 a1).f2)).f1) t220 _ A53.out).mono ?_); rintro e w' ⟨rfl, ⟨nd, rfl⟩⟩; refine ⟨_, rfl, ?_⟩))
             go_ret
             exact ⟨EWW, BL⟩
            ·rw [if_neg c52] at H
             exact absurd H (by simp)
           ·rw [if_neg c51] at H
            exact absurd H (by simp)
  ·rw [if_neg c5] at H
   exact absurd H (by simp)
 ·rw [if_neg c4] at H
  exact absurd H (by simp)
def spec_Makes.f (k : Nat) (l0 : List (S73)) (a1 : ByteArray) : Option (Bool) := (spec_IsPlay.f k l0).bind fun t221 => (if t221 = true then ((spec_IsWord.f k a1).bind fun t222 => (if t222 = true then ((spec_l15Makes.f k l0 (wrap64 ((l0.length : Int) - 1)) a1).bind fun t223 => (some t223)) else (some false))) else (some false))
set_option maxHeartbeats 8000000 in
set_option maxRecDepth 100000 in
theorem spec_Makes.calls (k : Nat) (A0 : Option Addr) (c0 : Nat) (l0 : List (S73)) (a1 : ByteArray) (r : Bool) (w : World) (hr0 : Kd.C k73 w A0 l0.length l0) (hc0 : l0.length ≤ c0) (h : spec_Makes.f k l0 a1 = some r) :
  Calls Try.prog 47 #[.slice A0 l0.length c0, .string a1] w fun e w' => e = .returned (.bool r) ∧ Below w.heap.size w w' := by
 have HR0 := Aside0.mk hr0
 have HC0 := Aside0.mk hc0
 clear hr0 hc0
 have HB := Aside0.mk (Below.refl w.heap.size w)
 have H : ((spec_IsPlay.f k l0).bind fun t221 => (if t221 = true then ((spec_IsWord.f k a1).bind fun t222 => (if t222 = true then ((spec_l15Makes.f k l0 (wrap64 ((l0.length : Int) - 1)) a1).bind fun t223 => (some t223)) else (some false))) else (some false))) = some r := h
 clear h
 replace H := Option.bind_eq_some_iff.mp H
 obtain ⟨t221, A30, H⟩ := H
 replace H : (if t221 = true then ((spec_IsWord.f k a1).bind fun t222 => (if t222 = true then ((spec_l15Makes.f k l0 (wrap64 ((l0.length : Int) - 1)) a1).bind fun t223 => (some t223)) else (some false))) else (some false)) = some r := H
 have A3 := Aside0.mk A30
 clear A30
 by_cases c4 : t221 = true
 ·subst c4
  have H1 : ((spec_IsWord.f k a1).bind fun t222 => (if t222 = true then ((spec_l15Makes.f k l0 (wrap64 ((l0.length : Int) - 1)) a1).bind fun t223 => (some t223)) else (some false))) = some r := by rw [if_pos rfl] at H; exact H
  clear H
  have H := H1
  clear H1
  replace H := Option.bind_eq_some_iff.mp H
  obtain ⟨t222, A50, H⟩ := H
  replace H : (if t222 = true then ((spec_l15Makes.f k l0 (wrap64 ((l0.length : Int) - 1)) a1).bind fun t223 => (some t223)) else (some false)) = some r := H
  have A5 := Aside0.mk A50
  clear A50
  by_cases c6 : t222 = true
  ·subst c6
   have H1 : ((spec_l15Makes.f k l0 (wrap64 ((l0.length : Int) - 1)) a1).bind fun t223 => (some t223)) = some r := by rw [if_pos rfl] at H; exact H
   clear H
   have H := H1
   clear H1
   replace H := Option.bind_eq_some_iff.mp H
   obtain ⟨t223, A70, H⟩ := H
   replace H : (some t223) = some r := H
   have A7 := Aside0.mk A70
   clear A70
   obtain rfl := Option.some.inj H
   go_enter Try.func47, Try.ntmps47
   go_wp2_with (first | ((with_reducible refine gate_callee (f := 63) rfl ?_); refine goesS (some 6) Try.func63 #[.slice A0 l0.length c0] ?_; (with_reducible refine (spec_IsPlay.calls k _ _ l0 true _ ?side1 ?side2 A3.out).mono ?_); (case side1 => repeat (first | exact HR0.out | (with_reducible refine Kd.C_alloc ?_ _) | (with_reducible refine Kd.C_drewN ?_ _) | (with_reducible refine Kd.C_drew ?_))); (case side2 => exact HC0.out); rintro e w8 ⟨rfl, hb⟩; refine ⟨_, rfl, ?_⟩; replace HB := BS (w := w) hb; (try clear hb)) | (go_at_call 64; (with_reducible refine (spec_IsWord.calls k a1 true _ A5.out).mono ?_); rintro e w' ⟨rfl, ⟨nd, rfl⟩⟩) | (go_at_call 65; (with_reducible refine (spec_l15Makes.calls k _ _ l0 (wrap64 ((l0.length : Int) - 1)) a1 t223 _ ?side1 ?side2 A7.out).mono ?_); (case side1 => repeat (first | exact (Kd.C_below HR0.out BL) | (with_reducible refine Kd.C_alloc ?_ _) | (with_reducible refine Kd.C_drewN ?_ _) | (with_reducible refine Kd.C_drew ?_))); (case side2 => exact HC0.out); rintro e w9 ⟨rfl, hb⟩; replace HB := BS (w := w) hb; (try clear hb)))
   go_ret
   exact ⟨EWW, BL⟩
  ·replace c6 := Bool.eq_false_iff.mpr c6
   subst c6
   have H1 : (some false) = some r := by rw [if_neg (show ¬ (false = true) by decide)] at H; exact H
   clear H
   have H := H1
   clear H1
   obtain rfl := Option.some.inj H
   go_enter Try.func47, Try.ntmps47
   go_wp2_with (first | ((with_reducible refine gate_callee (f := 63) rfl ?_); refine goesS (some 6) Try.func63 #[.slice A0 l0.length c0] ?_; (with_reducible refine (spec_IsPlay.calls k _ _ l0 true _ ?side1 ?side2 A3.out).mono ?_); (case side1 => repeat (first | exact HR0.out | (with_reducible refine Kd.C_alloc ?_ _) | (with_reducible refine Kd.C_drewN ?_ _) | (with_reducible refine Kd.C_drew ?_))); (case side2 => exact HC0.out); rintro e w10 ⟨rfl, hb⟩; refine ⟨_, rfl, ?_⟩; replace HB := BS (w := w) hb; (try clear hb)) | (go_at_call 64; (with_reducible refine (spec_IsWord.calls k a1 false _ A5.out).mono ?_); rintro e w' ⟨rfl, ⟨nd, rfl⟩⟩))
   go_ret
   exact ⟨EWW, BL⟩
 ·replace c4 := Bool.eq_false_iff.mpr c4
  subst c4
  have H1 : (some false) = some r := by rw [if_neg (show ¬ (false = true) by decide)] at H; exact H
  clear H
  have H := H1
  clear H1
  obtain rfl := Option.some.inj H
  go_enter Try.func47, Try.ntmps47
  go_wp2_with (first | ((with_reducible refine gate_callee (f := 63) rfl ?_); refine goesS (some 6) Try.func63 #[.slice A0 l0.length c0] ?_; (with_reducible refine (spec_IsPlay.calls k _ _ l0 false _ ?side1 ?side2 A3.out).mono ?_); (case side1 => repeat (first | exact HR0.out | (with_reducible refine Kd.C_alloc ?_ _) | (with_reducible refine Kd.C_drewN ?_ _) | (with_reducible refine Kd.C_drew ?_))); (case side2 => exact HC0.out); rintro e w11 ⟨rfl, hb⟩; refine ⟨_, rfl, ?_⟩; replace HB := BS (w := w) hb; (try clear hb)))
  go_ret
  exact ⟨EWW, BL⟩
def spec_IsPattern.l0 : Nat → ByteArray → Int → Option (Bool)
 | 0, _, _ => none
 | k + 1, x0, x3 => if x3 < (x0.size : Int) then (if 0 ≤ x3 then (if (bt x0 x3) = 63 then (spec_IsPattern.l0 k x0 (wrap64 (x3 + 1))) else (if (bt x0 x3) < 97 then (some false) else (if (bt x0 x3) > 122 then (some false) else (spec_IsPattern.l0 k x0 (wrap64 (x3 + 1)))))) else (none)) else (some true)
def spec_IsPattern.f (k : Nat) (a0 : ByteArray) : Option (Bool) := (spec_l1In.f (a0.size : Int) 1 8).bind fun t224 => (if t224 = true then (spec_IsPattern.l0 k a0 0) else (some false))
set_option maxHeartbeats 8000000 in
set_option maxRecDepth 100000 in
theorem spec_IsPattern.calls (k : Nat) (a0 : ByteArray) (r : Bool) (w : World) (h : spec_IsPattern.f k a0 = some r) :
  Calls Try.prog 71 #[.string a0] w fun e w' => e = .returned (.bool r) ∧ Drawn0 w w' := by
 have H : ((spec_l1In.f (a0.size : Int) 1 8).bind fun t224 => (if t224 = true then (spec_IsPattern.l0 k a0 0) else (some false))) = some r := h
 clear h
 replace H := Option.bind_eq_some_iff.mp H
 obtain ⟨t224, A20, H⟩ := H
 replace H : (if t224 = true then (spec_IsPattern.l0 k a0 0) else (some false)) = some r := H
 have A2 := Aside0.mk A20
 clear A20
 by_cases c3 : t224 = true
 ·subst c3
  have H1 : (spec_IsPattern.l0 k a0 0) = some r := by rw [if_pos rfl] at H; exact H
  clear H
  have H := H1
  clear H1
  have H' := Aside0.mk H
  clear H
  go_enter Try.func71, Try.ntmps71
  go_wp2_with (first | ((with_reducible refine gate_callee (f := 55) rfl ?_); refine goesS (some 6) Try.func55 #[.int .i64 (a0.size : Int), .int .i64 1, .int .i64 8] ?_; (with_reducible refine (spec_l1In.calls (a0.size : Int) 1 8 true _ A2.out).mono ?_); rintro e w' ⟨rfl, ⟨nd, rfl⟩⟩; refine ⟨_, rfl, ?_⟩))
  go_loopg [3] k (fun kq v3 w' => ∃ (x3_1 : Int), v3 = .int .i64 x3_1 ∧ Aside0 (spec_IsPattern.l0 kq a0 x3_1 = some r) ∧ Aside0 (kq ≤ k) ∧ Drawn0 w w')
  case atStart => exact ⟨(0), EQ, H', ⟨Nat.le_refl _⟩, by repeat (first | exact Drawn0.refl _ | apply Drawn0.step)⟩
  case round =>
   clear H'
   try clear c3
   obtain ⟨x3_1, rfl, HA, HK1, ⟨m1, rfl⟩⟩ := hrel
   cases gk with
   | zero => exact absurd HA.out (by simp [spec_IsPattern.l0])
   | succ k1 =>
    have H := HA.out
    clear HA
    simp only [spec_IsPattern.l0] at H
    by_cases c4 : x3_1 < (a0.size : Int)
    ·rw [if_pos c4] at H
     have c4b0 : decide (x3_1 < (a0.size : Int)) = true := decide_eq_true c4
     clear c4
     by_cases c5 : 0 ≤ x3_1
     ·rw [if_pos c5] at H
      have c5b0 : decide (0 ≤ x3_1) = true := decide_eq_true c5
      clear c5
      by_cases c7 : (bt a0 x3_1) = 63
      ·rw [if_pos c7] at H
       have c7b0 : ((bt a0 x3_1) == 63) = true := beq_iff_eq.mpr c7
       have c7b1 : ((bt a0 x3_1) != 63) = false := bne_eq_false_iff_eq.mpr c7
       clear c7
       have H' := Aside0.mk H
       clear H
       have p6 : 0 ≤ (x3_1 : Int) := OD
       have q6 : x3_1 < (a0.size : Int) := OD
       have hx6 := bt_at a0 x3_1
       replace p6 := eq_true p6
       replace q6 := eq_true q6
       go_wp2
       go_roundg k1
       case measure => have := HK1.out; omega
       case rel => exact ⟨(wrap64 (x3_1 + 1)), EQ, H', ⟨by have := HK1.out; omega⟩, by repeat (first | exact Drawn0.refl _ | apply Drawn0.step)⟩
      ·rw [if_neg c7] at H
       have c7b0 : ((bt a0 x3_1) == 63) = false := beq_eq_false_iff_ne.mpr c7
       have c7b1 : ((bt a0 x3_1) != 63) = true := bne_iff_ne.mpr c7
       by_cases c9 : (bt a0 x3_1) < 97
       ·rw [if_pos c9] at H
        have c9b0 : decide ((bt a0 x3_1) < 97) = true := decide_eq_true c9
        clear c9
        obtain rfl := Option.some.inj H
        have p6 : 0 ≤ (x3_1 : Int) := OD
        have q6 : x3_1 < (a0.size : Int) := OD
        have hx6 := bt_at a0 x3_1
        replace p6 := eq_true p6
        replace q6 := eq_true q6
        have p8 : 0 ≤ (x3_1 : Int) := OD
        have q8 : x3_1 < (a0.size : Int) := OD
        have hx8 := bt_at a0 x3_1
        replace p8 := eq_true p8
        replace q8 := eq_true q8
        go_wp2
        go_ret
        exact ⟨by first | rfl | (simp; done) | (simp [*]; done), by repeat (first | exact Drawn0.refl _ | apply Drawn0.step)⟩
       ·rw [if_neg c9] at H
        have c9b0 : decide ((bt a0 x3_1) < 97) = false := decide_eq_false c9
        clear c9
        by_cases c11 : (bt a0 x3_1) > 122
        ·rw [if_pos c11] at H
         have c11b0 : decide (122 < (bt a0 x3_1)) = true := decide_eq_true c11
         clear c11
         obtain rfl := Option.some.inj H
         have p6 : 0 ≤ (x3_1 : Int) := OD
         have q6 : x3_1 < (a0.size : Int) := OD
         have hx6 := bt_at a0 x3_1
         replace p6 := eq_true p6
         replace q6 := eq_true q6
         have p8 : 0 ≤ (x3_1 : Int) := OD
         have q8 : x3_1 < (a0.size : Int) := OD
         have hx8 := bt_at a0 x3_1
         replace p8 := eq_true p8
         replace q8 := eq_true q8
         have p10 : 0 ≤ (x3_1 : Int) := OD
         have q10 : x3_1 < (a0.size : Int) := OD
         have hx10 := bt_at a0 x3_1
         replace p10 := eq_true p10
         replace q10 := eq_true q10
         go_wp2
         go_ret
         exact ⟨by first | rfl | (simp; done) | (simp [*]; done), by repeat (first | exact Drawn0.refl _ | apply Drawn0.step)⟩
        ·rw [if_neg c11] at H
         have c11b0 : decide (122 < (bt a0 x3_1)) = false := decide_eq_false c11
         clear c11
         have H' := Aside0.mk H
         clear H
         have p6 : 0 ≤ (x3_1 : Int) := OD
         have q6 : x3_1 < (a0.size : Int) := OD
         have hx6 := bt_at a0 x3_1
         replace p6 := eq_true p6
         replace q6 := eq_true q6
         have p8 : 0 ≤ (x3_1 : Int) := OD
         have q8 : x3_1 < (a0.size : Int) := OD
         have hx8 := bt_at a0 x3_1
         replace p8 := eq_true p8
         replace q8 := eq_true q8
         have p10 : 0 ≤ (x3_1 : Int) := OD
         have q10 : x3_1 < (a0.size : Int) := OD
         have hx10 := bt_at a0 x3_1
         replace p10 := eq_true p10
         replace q10 := eq_true q10
         go_wp2
         go_roundg k1
         case measure => have := HK1.out; omega
         case rel => exact ⟨(wrap64 (x3_1 + 1)), EQ, H', ⟨by have := HK1.out; omega⟩, by repeat (first | exact Drawn0.refl _ | apply Drawn0.step)⟩
     ·rw [if_neg c5] at H
      exact absurd H (by simp)
    ·rw [if_neg c4] at H
     have c4b0 : decide (x3_1 < (a0.size : Int)) = false := decide_eq_false c4
     clear c4
     obtain rfl := Option.some.inj H
     go_wp2
     go_ret
     exact ⟨by first | rfl | (simp; done) | (simp [*]; done), by repeat (first | exact Drawn0.refl _ | apply Drawn0.step)⟩
 ·replace c3 := Bool.eq_false_iff.mpr c3
  subst c3
  have H1 : (some false) = some r := by rw [if_neg (show ¬ (false = true) by decide)] at H; exact H
  clear H
  have H := H1
  clear H1
  obtain rfl := Option.some.inj H
  go_enter Try.func71, Try.ntmps71
  go_wp2_with (first | ((with_reducible refine gate_callee (f := 55) rfl ?_); refine goesS (some 6) Try.func55 #[.int .i64 (a0.size : Int), .int .i64 1, .int .i64 8] ?_; (with_reducible refine (spec_l1In.calls (a0.size : Int) 1 8 false _ A2.out).mono ?_); rintro e w' ⟨rfl, ⟨nd, rfl⟩⟩; refine ⟨_, rfl, ?_⟩))
  go_ret
  exact ⟨by first | rfl | (simp; done) | (simp [*]; done), by repeat (first | exact Drawn0.refl _ | apply Drawn0.step)⟩
end Go.Proofs.Ythincoghppaegaa.PFnExactGuessesFor
