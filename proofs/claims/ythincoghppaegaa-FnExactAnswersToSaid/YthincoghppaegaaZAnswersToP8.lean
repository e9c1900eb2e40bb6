/- Walks of functions: what each computes. -/
import Derived.Test.YthincoghppaegaaZAnswersToP0
import Derived.Test.YthincoghppaegaaZAnswersToP4
import Derived.Test.YthincoghppaegaaZAnswersToP5
import Derived.Test.YthincoghppaegaaZAnswersToP6
import Derived.Test.YthincoghppaegaaZAnswersToP7
import Derived.Test.YthincoghppaegaaZAnswersToW
import Derived.Test.YthincoghppaegaaZAnswersToShelf
import Derived.Test.YthincoghppaegaaZAnswersToHandSort
namespace Go.Proofs.Ythincoghppaegaa.PFnExactAnswersTo
open Go.RowKit Go.Proofs.YthincoghppaegaaW.PrintWords Go.Proofs.YthincoghppaegaaW.PrintLast Go.Proofs.YthincoghppaegaaW.PrintMore Go.Proofs.Ythincoghppaegaa.Sq
attribute [local go_sem] max2_int min2_int max_two min_two max_three min_three max_four min_four
set_option linter.unusedVariables false
set_option linter.unusedSimpArgs false
def spec_WithoutTail.f (k : Nat) (a0 : ByteArray) : Option (ByteArray) := (spec_IsWord.f k a0).bind fun t186 => (if t186 = true then (if 0 ≤ (wrap64 ((a0.size : Int) - 1)) then (if (wrap64 ((a0.size : Int) - 1)) ≤ (a0.size : Int) then (some (a0.extract 0 ((wrap64 ((a0.size : Int) - 1)) : Int).toNat)) else (none)) else (none)) else (some (⟨#[]⟩ : ByteArray)))
set_option maxHeartbeats 8000000 in
set_option maxRecDepth 100000 in
theorem spec_WithoutTail.calls (k : Nat) (a0 : ByteArray) (r : ByteArray) (w : World) (h : spec_WithoutTail.f k a0 = some r) :
  Calls Try.prog 80 #[.string a0] w fun e w' => e = .returned (.string r) ∧ Drawn0 w w' := by
 have H : ((spec_IsWord.f k a0).bind fun t186 => (if t186 = true then (if 0 ≤ (wrap64 ((a0.size : Int) - 1)) then (if (wrap64 ((a0.size : Int) - 1)) ≤ (a0.size : Int) then (some (a0.extract 0 ((wrap64 ((a0.size : Int) - 1)) : Int).toNat)) else (none)) else (none)) else (some (⟨#[]⟩ : ByteArray)))) = some r := h
 clear h
 replace H := Option.bind_eq_some_iff.mp H
 obtain ⟨t186, A20, H⟩ := H
 replace H : (if t186 = true then (if 0 ≤ (wrap64 ((a0.size : Int) - 1)) then (if (wrap64 ((a0.size : Int) - 1)) ≤ (a0.size : Int) then (some (a0.extract 0 ((wrap64 ((a0.size : Int) - 1)) : Int).toNat)) else (none)) else (none)) else (some (⟨#[]⟩ : ByteArray))) = some r := H
 have A2 := Aside0.mk A20
 clear A20
 by_cases c3 : t186 = true
 ·subst c3
  have H1 : (if 0 ≤ (wrap64 ((a0.size : Int) - 1)) then (if (wrap64 ((a0.size : Int) - 1)) ≤ (a0.size : Int) then (some (a0.extract 0 ((wrap64 ((a0.size : Int) - 1)) : Int).toNat)) else (none)) else (none)) = some r := by rw [if_pos rfl] at H; exact H
  clear H
  have H := H1
  clear H1
  obtain ⟨ji4, hji4⟩ : ∃ j_ : Int, (wrap64 ((a0.size : Int) - 1)) = j_ := ⟨_, rfl⟩
  replace H : (if 0 ≤ (ji4) then (if (ji4) ≤ (a0.size : Int) then (some (a0.extract 0 ((ji4) : Int).toNat)) else (none)) else (none)) = some r := by first | (rw [hji4] at H; exact H) | (simp only [hji4] at H ⊢; exact H)
  (try rw [hji4] at A2)
  have hji4w : (IntKind.i64.wrap ((a0.size : Int) - 1)) = ji4 := (i64_w _).trans hji4
  by_cases c5 : 0 ≤ (ji4)
  ·rw [if_pos c5] at H
   have c5b0 := eq_true c5
   have c5b1 : decide (0 ≤ (ji4)) = true := decide_eq_true c5
   clear c5
   by_cases c6 : (ji4) ≤ (a0.size : Int)
   ·rw [if_pos c6] at H
    have c6b0 := eq_true c6
    have c6b1 : decide ((ji4) ≤ (a0.size : Int)) = true := decide_eq_true c6
    clear c6
    obtain rfl := Option.some.inj H
    go_enter Try.func80, Try.ntmps80
    go_wp2_with (first | ((with_reducible refine gate_callee (f := 64) rfl ?_); refine goesS (some 4) Try.func64 #[.string a0] ?_; (with_reducible refine (spec_IsWord.calls k a0 true _ A2.out).mono ?_); rintro e w' ⟨rfl, ⟨nd, rfl⟩⟩; refine ⟨_, rfl, ?_⟩))
    go_ret
    exact ⟨by first | rfl | (simp; done) | (simp only [← hji4] <;> (first | rfl | simp)) | (simp [*]; done), by repeat (first | exact Drawn0.refl _ | apply Drawn0.step)⟩
   ·rw [if_neg c6] at H
    exact absurd H (by simp)
  ·rw [if_neg c5] at H
   exact absurd H (by simp)
 ·replace c3 := Bool.eq_false_iff.mpr c3
  subst c3
  have H1 : (some (⟨#[]⟩ : ByteArray)) = some r := by rw [if_neg (show ¬ (false = true) by decide)] at H; exact H
  clear H
  have H := H1
  clear H1
  obtain rfl := Option.some.inj H
  go_enter Try.func80, Try.ntmps80
  go_wp2_with (first | ((with_reducible refine gate_callee (f := 64) rfl ?_); refine goesS (some 4) Try.func64 #[.string a0] ?_; (with_reducible refine (spec_IsWord.calls k a0 false _ A2.out).mono ?_); rintro e w' ⟨rfl, ⟨nd, rfl⟩⟩; refine ⟨_, rfl, ?_⟩))
  go_ret
  exact ⟨by first | rfl | (simp; done) | (simp [*]; done), by repeat (first | exact Drawn0.refl _ | apply Drawn0.step)⟩
mutual
def spec_IsInside.j0 : Nat → ByteArray → ByteArray → Bool → Option (Bool)
 | 0, _, _, _ => none
 | k + 1, x0, x1, x13 => if x13 = true then (some false) else (spec_IsInside.l0 k x0 x1 1)
def spec_IsInside.l0 : Nat → ByteArray → ByteArray → Int → Option (Bool)
 | 0, _, _, _ => none
 | k + 1, x0, x1, x5 => if (wrap64 (x5 + (x0.size : Int))) < (x1.size : Int) then (if 0 ≤ x5 then (if x5 ≤ (wrap64 (x5 + (x0.size : Int))) then (if (wrap64 (x5 + (x0.size : Int))) ≤ (x1.size : Int) then (if (x1.extract (x5 : Int).toNat ((wrap64 (x5 + (x0.size : Int))) : Int).toNat).toList = x0.toList then (some true) else (spec_IsInside.l0 k x0 x1 (wrap64 (x5 + 1)))) else (none)) else (none)) else (none)) else (some false)
end
def spec_IsInside.f (k : Nat) (a0 : ByteArray) (a1 : ByteArray) : Option (Bool) := (spec_IsWord.f k a0).bind fun t187 => (if t187 = true then ((spec_IsWord.f k a1).bind fun t188 => (spec_IsInside.j0 k a0 a1 (!t188))) else (spec_IsInside.j0 k a0 a1 true))
set_option maxHeartbeats 8000000 in
set_option maxRecDepth 100000 in
theorem spec_IsInside.calls (k : Nat) (a0 : ByteArray) (a1 : ByteArray) (r : Bool) (w : World) (h : spec_IsInside.f k a0 a1 = some r) :
  Calls Try.prog 81 #[.string a0, .string a1] w fun e w' => e = .returned (.bool r) ∧ Drawn0 w w' := by
 have H : ((spec_IsWord.f k a0).bind fun t187 => (if t187 = true then ((spec_IsWord.f k a1).bind fun t188 => (spec_IsInside.j0 k a0 a1 (!t188))) else (spec_IsInside.j0 k a0 a1 true))) = some r := h
 clear h
 have HC3 := Aside0.mk H
 clear H
 go_enter Try.func81, Try.ntmps81
 go_upto_region 1 with (fail)
 go_cut [13] (fun v13 wc => ∃ (kq : Nat) (x13_2 : Bool), v13 = .bool x13_2 ∧ Aside0 (spec_IsInside.j0 kq a0 a1 x13_2 = some r) ∧ Aside0 (kq ≤ k) ∧ Drawn0 w wc)
 case first =>
  have H := HC3.out
  clear HC3
  replace H := Option.bind_eq_some_iff.mp H
  obtain ⟨t187, A40, H⟩ := H
  replace H : (if t187 = true then ((spec_IsWord.f k a1).bind fun t188 => (spec_IsInside.j0 k a0 a1 (!t188))) else (spec_IsInside.j0 k a0 a1 true)) = some r := H
  have A4 := Aside0.mk A40
  clear A40
  by_cases c5 : t187 = true
  ·subst c5
   have H1 : ((spec_IsWord.f k a1).bind fun t188 => (spec_IsInside.j0 k a0 a1 (!t188))) = some r := by rw [if_pos rfl] at H; exact H
   clear H
   have H := H1
   clear H1
   replace H := Option.bind_eq_some_iff.mp H
   obtain ⟨t188, A60, H⟩ := H
   replace H : (spec_IsInside.j0 k a0 a1 (!t188)) = some r := H
   have A6 := Aside0.mk A60
   clear A60
   have H' := Aside0.mk H
   clear H
   go_wp2_with (first | ((with_reducible refine gate_callee (f := 64) rfl ?_); refine goesS (some 7) Try.func64 #[.string a0] ?_; (with_reducible refine (spec_IsWord.calls k a0 true _ A4.out).mono ?_); rintro e w' ⟨rfl, ⟨nd, rfl⟩⟩; refine ⟨_, rfl, ?_⟩) | (go_at_call 64; (with_reducible refine (spec_IsWord.calls k a1 t188 _ A6.out).mono ?_); rintro e w' ⟨rfl, ⟨nd, rfl⟩⟩))
   go_meet
   case rel => exact ⟨_, (!t188), EQ, H', ⟨by first | omega | exact Nat.le_refl _⟩, by repeat (first | exact Drawn0.refl _ | apply Drawn0.step)⟩
  ·replace c5 := Bool.eq_false_iff.mpr c5
   subst c5
   have H1 : (spec_IsInside.j0 k a0 a1 true) = some r := by rw [if_neg (show ¬ (false = true) by decide)] at H; exact H
   clear H
   have H := H1
   clear H1
   have H' := Aside0.mk H
   clear H
   go_wp2_with (first | ((with_reducible refine gate_callee (f := 64) rfl ?_); refine goesS (some 7) Try.func64 #[.string a0] ?_; (with_reducible refine (spec_IsWord.calls k a0 false _ A4.out).mono ?_); rintro e w' ⟨rfl, ⟨nd, rfl⟩⟩; refine ⟨_, rfl, ?_⟩))
   go_meet
   case rel => exact ⟨_, (true), EQ, H', ⟨by first | omega | exact Nat.le_refl _⟩, by repeat (first | exact Drawn0.refl _ | apply Drawn0.step)⟩
 case rest =>
  clear HC3
  obtain ⟨kq, x13_2, rfl, HA, HJ2, ⟨mc2, rfl⟩⟩ := hcut
  cases kq with
  | zero => exact absurd HA.out (by simp [spec_IsInside.j0])
  | succ kj2 =>
   have H := HA.out
   clear HA
   simp only [spec_IsInside.j0] at H
   by_cases c7 : x13_2 = true
   ·subst c7
    have H1 : (some false) = some r := by rw [if_pos rfl] at H; exact H
    clear H
    have H := H1
    clear H1
    obtain rfl := Option.some.inj H
    go_wp2
    go_ret
    exact ⟨by first | rfl | (simp; done) | (simp [*]; done), by repeat (first | exact Drawn0.refl _ | apply Drawn0.step)⟩
   ·replace c7 := Bool.eq_false_iff.mpr c7
    subst c7
    have H1 : (spec_IsInside.l0 kj2 a0 a1 1) = some r := by rw [if_neg (show ¬ (false = true) by decide)] at H; exact H
    clear H
    have H := H1
    clear H1
    have H' := Aside0.mk H
    clear H
    go_wp2
    go_loopg [5] kj2 (fun kq v5 w' => ∃ (x5_2 : Int), v5 = .int .i64 x5_2 ∧ Aside0 (spec_IsInside.l0 kq a0 a1 x5_2 = some r) ∧ Aside0 (kq ≤ kj2) ∧ Drawn0 w w')
    case atStart => exact ⟨(1), EQ, H', ⟨Nat.le_refl _⟩, by repeat (first | exact Drawn0.refl _ | apply Drawn0.step)⟩
    case round =>
     clear H'
     try clear c7
     obtain ⟨x5_2, rfl, HA, HK2, ⟨m2, rfl⟩⟩ := hrel
     cases gk with
     | zero => exact absurd HA.out (by simp [spec_IsInside.l0])
     | succ k2 =>
      have H := HA.out
      clear HA
      simp only [spec_IsInside.l0] at H
      by_cases c8 : (wrap64 (x5_2 + (a0.size : Int))) < (a1.size : Int)
      ·rw [if_pos c8] at H
       have c8b0 : decide ((wrap64 (x5_2 + (a0.size : Int))) < (a1.size : Int)) = true := decide_eq_true c8
       clear c8
       by_cases c9 : 0 ≤ x5_2
       ·rw [if_pos c9] at H
        have c9b0 := eq_true c9
        have c9b1 : decide (0 ≤ x5_2) = true := decide_eq_true c9
        clear c9
        by_cases c10 : x5_2 ≤ (wrap64 (x5_2 + (a0.size : Int)))
        ·rw [if_pos c10] at H
         have c10b0 := eq_true c10
         have c10b1 : decide (x5_2 ≤ (wrap64 (x5_2 + (a0.size : Int)))) = true := decide_eq_true c10
         by_cases c11 : (wrap64 (x5_2 + (a0.size : Int))) ≤ (a1.size : Int)
         ·rw [if_pos c11] at H
          have c11b0 := eq_true c11
          have c11b1 : decide ((wrap64 (x5_2 + (a0.size : Int))) ≤ (a1.size : Int)) = true := decide_eq_true c11
          by_cases c12 : (a1.extract (x5_2 : Int).toNat ((wrap64 (x5_2 + (a0.size : Int))) : Int).toNat).toList = a0.toList
          ·rw [if_pos c12] at H
           have c12b0 : ((a1.extract (x5_2 : Int).toNat ((wrap64 (x5_2 + (a0.size : Int))) : Int).toNat).toList == a0.toList) = true := beq_iff_eq.mpr c12
           have c12b1 : ((a1.extract (x5_2 : Int).toNat ((wrap64 (x5_2 + (a0.size : Int))) : Int).toNat).toList != a0.toList) = false := bne_eq_false_iff_eq.mpr c12
           clear c12
           obtain rfl := Option.some.inj H
           go_wp2
           go_ret
           exact ⟨by first | rfl | (simp; done) | (simp [*]; done), by repeat (first | exact Drawn0.refl _ | apply Drawn0.step)⟩
          ·rw [if_neg c12] at H
           have c12b0 : ((a1.extract (x5_2 : Int).toNat ((wrap64 (x5_2 + (a0.size : Int))) : Int).toNat).toList == a0.toList) = false := beq_eq_false_iff_ne.mpr c12
           have c12b1 : ((a1.extract (x5_2 : Int).toNat ((wrap64 (x5_2 + (a0.size : Int))) : Int).toNat).toList != a0.toList) = true := bne_iff_ne.mpr c12
           have H' := Aside0.mk H
           clear H
           go_wp2
           go_roundg k2
           case measure => have := HJ2.out; have := HK2.out; omega
           case rel => exact ⟨(wrap64 (x5_2 + 1)), EQ, H', ⟨by have := HJ2.out; have := HK2.out; omega⟩, by repeat (first | exact Drawn0.refl _ | apply Drawn0.step)⟩
         ·rw [if_neg c11] at H
          exact absurd H (by simp)
        ·rw [if_neg c10] at H
         exact absurd H (by simp)
       ·rw [if_neg c9] at H
        exact absurd H (by simp)
      ·rw [if_neg c8] at H
       have c8b0 : decide ((wrap64 (x5_2 + (a0.size : Int))) < (a1.size : Int)) = false := decide_eq_false c8
       clear c8
       obtain rfl := Option.some.inj H
       go_wp2
       go_ret
       exact ⟨by first | rfl | (simp; done) | (simp [*]; done), by repeat (first | exact Drawn0.refl _ | apply Drawn0.step)⟩
def spec_l15Makes.f : Nat → List (S73) → Int → ByteArray → Option (Bool)
 | 0, _, _, _ => none
 | k + 1, l0, a1, a2 => if 0 ≤ a1 then (if a1 < (l0.length : Int) then (if ((rd_T73 l0 a1).f0) = 1 then (some (((rd_T73 l0 a1).f1).toList == a2.toList)) else (if ((rd_T73 l0 a1).f0) = 2 then ((spec_Backwards.f k a2).bind fun t191 => ((spec_l15Makes.f k l0 ((rd_T73 l0 a1).f2) t191).bind fun t192 => (some t192))) else (if ((rd_T73 l0 a1).f0) = 3 then (if 0 ≤ ((rd_T73 l0 a1).f2) then (if ((rd_T73 l0 a1).f2) < (l0.length : Int) then ((spec_IsRearranged.f k ((rd_T73 l0 ((rd_T73 l0 a1).f2)).f1) a2).bind fun t194 => (some t194)) else (none)) else (none)) else (if ((rd_T73 l0 a1).f0) = 4 then ((spec_l15Join.f (fun _ => spec_l15Makes.f k) k l0 ((rd_T73 l0 a1).f0) ((rd_T73 l0 a1).f1) ((rd_T73 l0 a1).f2) ((rd_T73 l0 a1).f3) a2).bind fun t195 => (some t195)) else (if ((rd_T73 l0 a1).f0) = 5 then ((spec_l15In.f (fun _ => spec_l15Makes.f k) k l0 ((rd_T73 l0 a1).f0) ((rd_T73 l0 a1).f1) ((rd_T73 l0 a1).f2) ((rd_T73 l0 a1).f3) a2).bind fun t196 => (some t196)) else (if ((rd_T73 l0 a1).f0) = 6 then (if 0 ≤ ((rd_T73 l0 a1).f2) then (if ((rd_T73 l0 a1).f2) < (l0.length : Int) then ((spec_HeadOf.f k ((rd_T73 l0 ((rd_T73 l0 a1).f2)).f1)).bind fun t198 => (some (t198.toList == a2.toList))) else (none)) else (none)) else (if ((rd_T73 l0 a1).f0) = 7 then (if 0 ≤ ((rd_T73 l0 a1).f2) then (if ((rd_T73 l0 a1).f2) < (l0.length : Int) then ((spec_WithoutHead.f k ((rd_T73 l0 ((rd_T73 l0 a1).f2)).f1)).bind fun t200 => (some (t200.toList == a2.toList))) else (none)) else (none)) else (if ((rd_T73 l0 a1).f0) = 8 then (if 0 ≤ ((rd_T73 l0 a1).f2) then (if ((rd_T73 l0 a1).f2) < (l0.length : Int) then ((spec_WithoutTail.f k ((rd_T73 l0 ((rd_T73 l0 a1).f2)).f1)).bind fun t202 => (some (t202.toList == a2.toList))) else (none)) else (none)) else (if 0 ≤ ((rd_T73 l0 a1).f2) then (if ((rd_T73 l0 a1).f2) < (l0.length : Int) then ((spec_IsInside.f k a2 ((rd_T73 l0 ((rd_T73 l0 a1).f2)).f1)).bind fun t204 => (some t204)) else (none)) else (none)))))))))) else (none)) else (none)
set_option maxHeartbeats 8000000 in
set_option maxRecDepth 100000 in
theorem spec_l15Makes.calls (k : Nat) : ∀ (A0 : Option Addr) (c0 : Nat) (l0 : List (S73)) (a1 : Int) (a2 : ByteArray) (r : Bool) (w : World) (hr0 : Kd.C k73 w A0 l0.length l0) (hc0 : l0.length ≤ c0) (h : spec_l15Makes.f k l0 a1 a2 = some r),
  Calls Try.prog 65 #[.slice A0 l0.length c0, .int .i64 a1, .string a2] w fun e w' => e = .returned (.bool r) ∧ Below w.heap.size w w' := by
 induction k using Nat.strongRecOn with
 | _ k ih =>
 intro A0 c0 l0 a1 a2 r w hr0 hc0 h
 cases k with
 | zero => exact absurd h (by simp [spec_l15Makes.f])
 | succ k =>
 simp only [spec_l15Makes.f] at h
 have hu73 := Try.underlying73
 have HR0 := Aside0.mk hr0
 have HC0 := Aside0.mk hc0
 clear hr0 hc0
 have HB := Aside0.mk (Below.refl w.heap.size w)
 have H : (if 0 ≤ a1 then (if a1 < (l0.length : Int) then (if ((rd_T73 l0 a1).f0) = 1 then (some (((rd_T73 l0 a1).f1).toList == a2.toList)) else (if ((rd_T73 l0 a1).f0) = 2 then ((spec_Backwards.f k a2).bind fun t191 => ((spec_l15Makes.f k l0 ((rd_T73 l0 a1).f2) t191).bind fun t192 => (some t192))) else (if ((rd_T73 l0 a1).f0) = 3 then (if 0 ≤ ((rd_T73 l0 a1).f2) then (if ((rd_T73 l0 a1).f2) < (l0.length : Int) then ((spec_IsRearranged.f k ((rd_T73 l0 ((rd_T73 l0 a1).f2)).f1) a2).bind fun t194 => (some t194)) else (none)) else (none)) else (if ((rd_T73 l0 a1).f0) = 4 then ((spec_l15Join.f (fun _ => spec_l15Makes.f k) k l0 ((rd_T73 l0 a1).f0) ((rd_T73 l0 a1).f1) ((rd_T73 l0 a1).f2) ((rd_T73 l0 a1).f3) a2).bind fun t195 => (some t195)) else (if ((rd_T73 l0 a1).f0) = 5 then ((spec_l15In.f (fun _ => spec_l15Makes.f k) k l0 ((rd_T73 l0 a1).f0) ((rd_T73 l0 a1).f1) ((rd_T73 l0 a1).f2) ((rd_T73 l0 a1).f3) a2).bind fun t196 => (some t196)) else (if ((rd_T73 l0 a1).f0) = 6 then (if 0 ≤ ((rd_T73 l0 a1).f2) then (if ((rd_T73 l0 a1).f2) < (l0.length : Int) then ((spec_HeadOf.f k ((rd_T73 l0 ((rd_T73 l0 a1).f2)).f1)).bind fun t198 => (some (t198.toList == a2.toList))) else (none)) else (none)) else (if ((rd_T73 l0 a1).f0) = 7 then (if 0 ≤ ((rd_T73 l0 a1).f2) then (if ((rd_T73 l0 a1).f2) < (l0.length : Int) then ((spec_WithoutHead.f k ((rd_T73 l0 ((rd_T73 l0 a1).f2)).f1)).bind fun t200 => (some (t200.toList == a2.toList))) else (none)) else (none)) else (if ((rd_T73 l0 a1).f0) = 8 then (if 0 ≤ ((rd_T73 l0 a1).f2) then (if ((rd_T73 l0 a1).f2) < (l0.length : Int) then ((spec_WithoutTail.f k ((rd_T73 l0 ((rd_T73 l0 a1).f2)).f1)).bind fun t202 => (some (t202.toList == a2.toList))) else (none)) else (none)) else (if 0 ≤ ((rd_T73 l0 a1).f2) then (if ((rd_T73 l0 a1).f2) < (l0.length : Int) then ((spec_IsInside.f k a2 ((rd_T73 l0 ((rd_T73 l0 a1).f2)).f1)).bind fun t204 => (some t204)) else (none)) else (none)))))))))) else (none)) else (none)) = some r := h
 clear h
 by_cases c4 : 0 ≤ a1
 ·rw [if_pos c4] at H
  have c4b0 : decide (0 ≤ a1) = true := decide_eq_true c4
  clear c4
  by_cases c5 : a1 < (l0.length : Int)
  ·rw [if_pos c5] at H
   have c5b0 : decide (a1 < (l0.length : Int)) = true := decide_eq_true c5
   clear c5
   by_cases c6 : ((rd_T73 l0 a1).f0) = 1
   ·rw [if_pos c6] at H
    have c6b0 : (((rd_T73 l0 a1).f0) == 1) = true := beq_iff_eq.mpr c6
    have c6b1 : (((rd_T73 l0 a1).f0) != 1) = false := bne_eq_false_iff_eq.mpr c6
    clear c6
    obtain rfl := Option.some.inj H
    have p189 : 0 ≤ (a1 : Int) := OD
    have q189 : a1 < (l0.length : Int) := OD
    obtain ⟨ad189, e189, hx189_0, hx189_1, hx189_2, hx189_3⟩ := at_T73 HR0.out a1 p189 q189
    cases e189
    replace p189 := eq_true p189
    replace q189 := eq_true q189
    go_enter Try.func65, Try.ntmps65
    go_wp2_with (first | ((with_reducible refine gate_dst (N := 7) rfl ?_); refine box_ev (N := 7) (cs := #[.int .i64 0, .string (⟨#[]⟩ : ByteArray), .int .i64 0, .int .i64 0]) (t := 73) ?_; intro gb190 hg w7 hbox hb; have n0_ := BS (w := w) hb; have n1_ := Aside0.mk (hbox); have n2_ := SZ (w := w) hg; have n3_ := SZ (w := w) hg; clear HB; have HB := n0_; have BK190 := n1_; have GW190 := n2_; have GE190 := n3_; clear n0_ n1_ n2_ n3_; clear hb hbox hg; obtain ⟨hcz8_0, hcz8_1, hcz8_2, hcz8_3, hfz8_0, hfz8_1, hfz8_2, hfz8_3⟩ := cz4 BK190.out))
    go_ret
    exact ⟨EWW, BL⟩
   ·rw [if_neg c6] at H
    have c6b0 : (((rd_T73 l0 a1).f0) == 1) = false := beq_eq_false_iff_ne.mpr c6
    have c6b1 : (((rd_T73 l0 a1).f0) != 1) = true := bne_iff_ne.mpr c6
    by_cases c9 : ((rd_T73 l0 a1).f0) = 2
    ·rw [if_pos c9] at H
     have c9b0 : (((rd_T73 l0 a1).f0) == 2) = true := beq_iff_eq.mpr c9
     have c9b1 : (((rd_T73 l0 a1).f0) != 2) = false := bne_eq_false_iff_eq.mpr c9
     clear c9
     replace H := Option.bind_eq_some_iff.mp H
     obtain ⟨t191, A100, H⟩ := H
     replace H : ((spec_l15Makes.f k l0 ((rd_T73 l0 a1).f2) t191).bind fun t192 => (some t192)) = some r := H
     have A10 := Aside0.mk A100
     clear A100
     replace H := Option.bind_eq_some_iff.mp H
     obtain ⟨t192, A110, H⟩ := H
     replace H : (some t192) = some r := H
     have A11 := Aside0.mk A110
     clear A110
     obtain rfl := Option.some.inj H
     have p189 : 0 ≤ (a1 : Int) := OD
     have q189 : a1 < (l0.length : Int) := OD
     obtain ⟨ad189, e189, hx189_0, hx189_1, hx189_2, hx189_3⟩ := at_T73 HR0.out a1 p189 q189
     cases e189
     replace p189 := eq_true p189
     replace q189 := eq_true q189
     go_enter Try.func65, Try.ntmps65
     try go_wp2_with (first | ((with_reducible refine gate_dst (N := 7) rfl ?_); refine box_ev (N := 7) (cs := #[.int .i64 0, .string (⟨#[]⟩ : ByteArray), .int .i64 0, .int .i64 0]) (t := 73) ?_; intro gb190 hg w12 hbox hb; have n0_ := BS (w := w) hb; have n1_ := Aside0.mk (hbox); have n2_ := SZ (w := w) hg; have n3_ := SZ (w := w) hg; clear HB; have HB := n0_; have BK190 := n1_; have GW190 := n2_; have GE190 := n3_; clear n0_ n1_ n2_ n3_; clear hb hbox hg; obtain ⟨hcz13_0, hcz13_1, hcz13_2, hcz13_3, hfz13_0, hfz13_1, hfz13_2, hfz13_3⟩ := cz4 BK190.out))
     have n0_ : Aside0 (((((w12.setCell ⟨gb190, 0, none⟩ (.int .i64 ((rd_T73 l0 a1).f0))).setCell ⟨gb190, 1, none⟩ (.string ((rd_T73 l0 a1).f1))).setCell ⟨gb190, 2, none⟩ (.int .i64 ((rd_T73 l0 a1).f2))).setCell ⟨gb190, 3, none⟩ (.int .i64 ((rd_T73 l0 a1).f3))).heap[gb190]? = some (.cells #[.int .i64 ((rd_T73 l0 a1).f0), .string ((rd_T73 l0 a1).f1), .int .i64 ((rd_T73 l0 a1).f2), .int .i64 ((rd_T73 l0 a1).f3)] 73 (0, 0))) := ⟨by (with_reducible repeat (first | refine blk_drewN ?_ _ | refine blk_drew ?_ | refine blk_alloc ?_ _)); refine blk_put (cs := #[.int .i64 ((rd_T73 l0 a1).f0), .string ((rd_T73 l0 a1).f1), .int .i64 ((rd_T73 l0 a1).f2), .int .i64 0]) ?_ 3 _ rfl; (with_reducible repeat (first | refine blk_drewN ?_ _ | refine blk_drew ?_ | refine blk_alloc ?_ _)); refine blk_put (cs := #[.int .i64 ((rd_T73 l0 a1).f0), .string ((rd_T73 l0 a1).f1), .int .i64 0, .int .i64 0]) ?_ 2 _ rfl; (with_reducible repeat (first | refine blk_drewN ?_ _ | refine blk_drew ?_ | refine blk_alloc ?_ _)); refine blk_put (cs := #[.int .i64 ((rd_T73 l0 a1).f0), .string (⟨#[]⟩ : ByteArray), .int .i64 0, .int .i64 0]) ?_ 1 _ rfl; (with_reducible repeat (first | refine blk_drewN ?_ _ | refine blk_drew ?_ | refine blk_alloc ?_ _)); refine blk_put (cs := #[.int .i64 0, .string (⟨#[]⟩ : ByteArray), .int .i64 0, .int .i64 0]) ?_ 0 _ rfl; (with_reducible repeat (first | refine blk_drewN ?_ _ | refine blk_drew ?_ | refine blk_alloc ?_ _)); exact BK190.out⟩
     have n1_ : Aside0 (Below w.heap.size w ((((w12.setCell ⟨gb190, 0, none⟩ (.int .i64 ((rd_T73 l0 a1).f0))).setCell ⟨gb190, 1, none⟩ (.string ((rd_T73 l0 a1).f1))).setCell ⟨gb190, 2, none⟩ (.int .i64 ((rd_T73 l0 a1).f2))).setCell ⟨gb190, 3, none⟩ (.int .i64 ((rd_T73 l0 a1).f3)))) := ⟨BL⟩
     (try clear BK190)
     (try clear HB)
     generalize ((((w12.setCell ⟨gb190, 0, none⟩ (.int .i64 ((rd_T73 l0 a1).f0))).setCell ⟨gb190, 1, none⟩ (.string ((rd_T73 l0 a1).f1))).setCell ⟨gb190, 2, none⟩ (.int .i64 ((rd_T73 l0 a1).f2))).setCell ⟨gb190, 3, none⟩ (.int .i64 ((rd_T73 l0 a1).f3))) = w14 at n0_ n1_ ⊢
     have BK190 := n0_
     have HB := n1_
     clear n0_ n1_
     have n0_ := Aside0.mk (blk_drew BK190.out)
     have n1_ := Aside0.mk (below_drew1 HB.out)
     clear BK190
     clear HB
     have BK190 := n0_
     have HB := n1_
     clear n0_ n1_
     refine start_ (n := 7) (S := fun w' => w'.cell? ⟨gb190, 0, none⟩ = some (.int .i64 ((rd_T73 l0 a1).f0)) ∧ w'.cell? ⟨gb190, 1, none⟩ = some (.string ((rd_T73 l0 a1).f1)) ∧ w'.cell? ⟨gb190, 2, none⟩ = some (.int .i64 ((rd_T73 l0 a1).f2)) ∧ w'.cell? ⟨gb190, 3, none⟩ = some (.int .i64 ((rd_T73 l0 a1).f3))) (ds := []) #[false, false, false, false, false, false, false] (by kernel_rfl) rfl rfl ⟨(blk_cell BK190.out 0).trans rfl, (blk_cell BK190.out 1).trans rfl, (blk_cell BK190.out 2).trans rfl, (blk_cell BK190.out 3).trans rfl⟩ (fun hHeld => ?_)
     generalize w14.drew = w15 at BK190 HB hHeld ⊢
     refine pure_ (i := 0) (N := some 22) (v := ?_) (a' := ?_) #[true, false, false, false, false, false, false] rfl rfl (by kernel_rfl) (fun _ _ _ h => h) (Or.inl ⟨by rfl, ?_⟩) ?_ ?_
     rotate_left
     ·intro w'
      go_simp
      with_reducible rfl
     rotate_left
     ·simp only [Act.put, PT, i64_w, i32_w]
      rfl
     refine pure_ (i := 1) (N := some 23) (v := ?_) (a' := ?_) #[true, true, false, false, false, false, false] rfl rfl (by kernel_rfl) (fun _ _ _ h => h) (Or.inl ⟨by rfl, ?_⟩) ?_ ?_
     rotate_left
     ·intro w'
      go_simp
      with_reducible rfl
     rotate_left
     ·simp only [Act.put, PT, i64_w, i32_w]
      rfl
     refine pure_ (i := 3) (N := some 25) (v := ?_) (a' := ?_) #[true, true, false, true, false, false, false] rfl rfl (by kernel_rfl) (fun _ _ _ h => h) (Or.inl ⟨by rfl, ?_⟩) ?_ ?_
     rotate_left
     ·intro w'
      go_simp
      with_reducible rfl
     rotate_left
     ·simp only [Act.put, PT, i64_w, i32_w]
      rfl
     refine take_ (i := 2) (N := some 24) (v := ?_) (a' := ?_) #[true, true, true, true, false, false, false] rfl rfl (by kernel_rfl) (fun _ _ _ h => h) (Or.inl ⟨by rfl, ?_⟩) hHeld ?_ ?_
     rotate_left
     ·rintro w' ⟨s0, s1, s2, s3⟩
      go_simp
      with_reducible rfl
     rotate_left
     ·simp only [Act.put, PT, i64_w, i32_w]
      rfl
     refine one_ (i := 4) (N := some 26) #[true, true, true, true, true, false, false] rfl rfl (by kernel_rfl) (by decide) (fun K hK => ?_)
     refine goes_ Try.func74 (by kernel_rfl) rfl #[.string a2] (by rfl) rfl rfl (by (try simp only [List.map_toArray, List.map_cons, List.map_nil]); first | done | rfl | (simp only [List.length_drop, List.length_take]; rfl)) ?_
     with_reducible refine (spec_Backwards.calls k a2 t191 _ A10.out).mono ?_
     rintro e w' ⟨rfl, ⟨nd, rfl⟩⟩
     refine ⟨_, rfl, ?_⟩
     refine hK.out _ _ ⟨(blk_cell BK190.out 0).trans rfl, (blk_cell BK190.out 1).trans rfl, (blk_cell BK190.out 2).trans rfl, (blk_cell BK190.out 3).trans rfl⟩ (fun hHeld => ?_)
     clear hK K
     refine norm_ (a' := ?_) ?_ ?_
     rotate_left
     ·show Act.put _ (some 26) _ = _
      simp only [Act.put, PT, i64_w, i32_w]
      rfl
     refine one_ (i := 5) (N := some 27) #[true, true, true, true, true, true, false] rfl rfl (by kernel_rfl) (by decide) (fun K hK => ?_)
     refine goes_ Try.func65 (by kernel_rfl) rfl #[.slice (some ad189) l0.length c0, .int .i64 ((rd_T73 l0 a1).f2), .string t191] (by rfl) rfl rfl (by (try simp only [List.map_toArray, List.map_cons, List.map_nil]); first | done | rfl | (simp only [List.length_drop, List.length_take]; rfl)) ?_
     with_reducible refine (ih k (by omega) _ _ l0 ((rd_T73 l0 a1).f2) t191 t192 _ ?side1 ?side2 A11.out).mono ?_
     (case side1 => repeat (first | exact (Kd.C_below HR0.out BL) | (with_reducible refine Kd.C_alloc ?_ _) | (with_reducible refine Kd.C_drewN ?_ _) | (with_reducible refine Kd.C_drew ?_)))
     (case side2 => exact HC0.out)
     rintro e w16 ⟨rfl, hb⟩
     refine ⟨_, rfl, ?_⟩
     have n0_ := KB BK190 hb
     have n1_ := BS (w := w) hb
     clear BK190
     clear HB
     have BK190 := n0_
     have HB := n1_
     clear n0_ n1_
     (try clear hb)
     (try clear hb2)
     (try clear hk)
     (try clear hi)
     refine hK.out _ _ ⟨(blk_cell BK190.out 0).trans rfl, (blk_cell BK190.out 1).trans rfl, (blk_cell BK190.out 2).trans rfl, (blk_cell BK190.out 3).trans rfl⟩ (fun hHeld => ?_)
     clear hK K
     refine norm_ (a' := ?_) ?_ ?_
     rotate_left
     ·show Act.put _ (some 27) _ = _
      simp only [Act.put, PT, i64_w, i32_w]
      rfl
     refine pure_ (i := 6) (N := some 6) (v := ?_) (a' := ?_) #[true, true, true, true, true, true, true] rfl rfl (by kernel_rfl) (fun _ _ _ h => h) (Or.inl ⟨by rfl, ?_⟩) ?_ ?_
     rotate_left
     ·intro w'
      go_simp
      with_reducible rfl
     rotate_left
     ·simp only [Act.put, PT, i64_w, i32_w]
      rfl
     refine done_ (by kernel_rfl) ?_
     try go_wp2
     go_ret
     exact ⟨EWW, BL⟩
    ·rw [if_neg c9] at H
     have c9b0 : (((rd_T73 l0 a1).f0) == 2) = false := beq_eq_false_iff_ne.mpr c9
     have c9b1 : (((rd_T73 l0 a1).f0) != 2) = true := bne_iff_ne.mpr c9
     by_cases c17 : ((rd_T73 l0 a1).f0) = 3
     ·rw [if_pos c17] at H
      have c17b0 : (((rd_T73 l0 a1).f0) == 3) = true := beq_iff_eq.mpr c17
      have c17b1 : (((rd_T73 l0 a1).f0) != 3) = false := bne_eq_false_iff_eq.mpr c17
      clear c17
      by_cases c18 : 0 ≤ ((rd_T73 l0 a1).f2)
      ·rw [if_pos c18] at H
       have c18b0 : decide (0 ≤ ((rd_T73 l0 a1).f2)) = true := decide_eq_true c18
       clear c18
       by_cases c19 : ((rd_T73 l0 a1).f2) < (l0.length : Int)
       ·rw [if_pos c19] at H
        have c19b0 : decide (((rd_T73 l0 a1).f2) < (l0.length : Int)) = true := decide_eq_true c19
        clear c19
        replace H := Option.bind_eq_some_iff.mp H
        obtain ⟨t194, A200, H⟩ := H
        replace H : (some t194) = some r := H
        have A20 := Aside0.mk A200
        clear A200
        obtain rfl := Option.some.inj H
        have p189 : 0 ≤ (a1 : Int) := OD
        have q189 : a1 < (l0.length : Int) := OD
        obtain ⟨ad189, e189, hx189_0, hx189_1, hx189_2, hx189_3⟩ := at_T73 HR0.out a1 p189 q189
        cases e189
        replace p189 := eq_true p189
        replace q189 := eq_true q189
        go_enter Try.func65, Try.ntmps65
        go_wp2_with (first | ((with_reducible refine gate_dst (N := 7) rfl ?_); refine box_ev (N := 7) (cs := #[.int .i64 0, .string (⟨#[]⟩ : ByteArray), .int .i64 0, .int .i64 0]) (t := 73) ?_; intro gb190 hg w21 hbox hb; have n0_ := BS (w := w) hb; have n1_ := Aside0.mk (hbox); have n2_ := SZ (w := w) hg; have n3_ := SZ (w := w) hg; clear HB; have HB := n0_; have BK190 := n1_; have GW190 := n2_; have GE190 := n3_; clear n0_ n1_ n2_ n3_; clear hb hbox hg; obtain ⟨hcz22_0, hcz22_1, hcz22_2, hcz22_3, hfz22_0, hfz22_1, hfz22_2, hfz22_3⟩ := cz4 BK190.out; have p193 : 0 ≤ (((rd_T73 l0 a1).f2) : Int) := OD; have q193 : ((rd_T73 l0 a1).f2) < (l0.length : Int) := OD; obtain ⟨ad193, e193, hx193_0, hx193_1, hx193_2, hx193_3⟩ := at_T73 HR0.out ((rd_T73 l0 a1).f2) p193 q193; obtain rfl : ad189 = ad193 := (by injection e193); have hn193_0 : ad189.block ≠ gb190 := Nat.ne_of_lt (Nat.lt_of_lt_of_le (by have := World.block_lt_of_cell? _ _ hx193_0; first | rwa [add_block] at this | exact this) GW190.out); have hn193_1 : ad189.block ≠ gb190 := Nat.ne_of_lt (Nat.lt_of_lt_of_le (by have := World.block_lt_of_cell? _ _ hx193_0; first | rwa [add_block] at this | exact this) GW190.out); have hn193_2 : ad189.block ≠ gb190 := Nat.ne_of_lt (Nat.lt_of_lt_of_le (by have := World.block_lt_of_cell? _ _ hx193_0; first | rwa [add_block] at this | exact this) GW190.out); have hn193_3 : ad189.block ≠ gb190 := Nat.ne_of_lt (Nat.lt_of_lt_of_le (by have := World.block_lt_of_cell? _ _ hx193_0; first | rwa [add_block] at this | exact this) GW190.out); replace hx193_0 := (HB.out.cell (World.block_lt_of_cell? w _ hx193_0)).trans hx193_0; replace hx193_1 := (HB.out.cell (World.block_lt_of_cell? w _ hx193_1)).trans hx193_1; replace hx193_2 := (HB.out.cell (World.block_lt_of_cell? w _ hx193_2)).trans hx193_2; replace hx193_3 := (HB.out.cell (World.block_lt_of_cell? w _ hx193_3)).trans hx193_3; replace hx193_0 := (cell_far (p := ⟨gb190, 0, none⟩) (by first | (rw [add_block]; exact hn193_0) | (show (Addr.add _ _).block ≠ _; rw [add_block]; exact hn193_0) | exact hn193_0) (.int .i64 ((rd_T73 l0 a1).f0))).trans hx193_0; replace hx193_1 := (cell_far (p := ⟨gb190, 0, none⟩) (by first | (rw [add_block]; exact hn193_0) | (show (Addr.add _ _).block ≠ _; rw [add_block]; exact hn193_0) | exact hn193_0) (.int .i64 ((rd_T73 l0 a1).f0))).trans hx193_1; replace hx193_2 := (cell_far (p := ⟨gb190, 0, none⟩) (by first | (rw [add_block]; exact hn193_0) | (show (Addr.add _ _).block ≠ _; rw [add_block]; exact hn193_0) | exact hn193_0) (.int .i64 ((rd_T73 l0 a1).f0))).trans hx193_2; replace hx193_3 := (cell_far (p := ⟨gb190, 0, none⟩) (by first | (rw [add_block]; exact hn193_0) | (show (Addr.add _ _).block ≠ _; rw [add_block]; exact hn193_0) | exact hn193_0) (.int .i64 ((rd_T73 l0 a1).f0))).trans hx193_3; replace hx193_0 := (cell_far (p := ⟨gb190, 1, none⟩) (by first | (rw [add_block]; exact hn193_1) | (show (Addr.add _ _).block ≠ _; rw [add_block]; exact hn193_1) | exact hn193_1) (.string ((rd_T73 l0 a1).f1))).trans hx193_0; replace hx193_1 := (cell_far (p := ⟨gb190, 1, none⟩) (by first | (rw [add_block]; exact hn193_1) | (show (Addr.add _ _).block ≠ _; rw [add_block]; exact hn193_1) | exact hn193_1) (.string ((rd_T73 l0 a1).f1))).trans hx193_1; replace hx193_2 := (cell_far (p := ⟨gb190, 1, none⟩) (by first | (rw [add_block]; exact hn193_1) | (show (Addr.add _ _).block ≠ _; rw [add_block]; exact hn193_1) | exact hn193_1) (.string ((rd_T73 l0 a1).f1))).trans hx193_2; replace hx193_3 := (cell_far (p := ⟨gb190, 1, none⟩) (by first | (rw [add_block]; exact hn193_1) | (show (Addr.add _ _).block ≠ _; rw [add_block]; exact hn193_1) | exact hn193_1) (.string ((rd_T73 l0 a1).f1))).trans hx193_3; replace hx193_0 := (cell_far (p := ⟨gb190, 2, none⟩) (by first | (rw [add_block]; exact hn193_2) | (show (Addr.add _ _).block ≠ _; rw [add_block]; exact hn193_2) | exact hn193_2) (.int .i64 ((rd_T73 l0 a1).f2))).trans hx193_0; replace hx193_1 := (cell_far (p := ⟨gb190, 2, none⟩) (by first | (rw [add_block]; exact hn193_2) | (show (Addr.add _ _).block ≠ _; rw [add_block]; exact hn193_2) | exact hn193_2) (.int .i64 ((rd_T73 l0 a1).f2))).trans hx193_1; replace hx193_2 := (cell_far (p := ⟨gb190, 2, none⟩) (by first | (rw [add_block]; exact hn193_2) | (show (Addr.add _ _).block ≠ _; rw [add_block]; exact hn193_2) | exact hn193_2) (.int .i64 ((rd_T73 l0 a1).f2))).trans hx193_2; replace hx193_3 := (cell_far (p := ⟨gb190, 2, none⟩) (by first | (rw [add_block]; exact hn193_2) | (show (Addr.add _ _).block ≠ _; rw [add_block]; exact hn193_2) | exact hn193_2) (.int .i64 ((rd_T73 l0 a1).f2))).trans hx193_3; replace hx193_0 := (cell_far (p := ⟨gb190, 3, none⟩) (by first | (rw [add_block]; exact hn193_3) | (show (Addr.add _ _).block ≠ _; rw [add_block]; exact hn193_3) | exact hn193_3) (.int .i64 ((rd_T73 l0 a1).f3))).trans hx193_0; replace hx193_1 := (cell_far (p := ⟨gb190, 3, none⟩) (by first | (rw [add_block]; exact hn193_3) | (show (Addr.add _ _).block ≠ _; rw [add_block]; exact hn193_3) | exact hn193_3) (.int .i64 ((rd_T73 l0 a1).f3))).trans hx193_1; replace hx193_2 := (cell_far (p := ⟨gb190, 3, none⟩) (by first | (rw [add_block]; exact hn193_3) | (show (Addr.add _ _).block ≠ _; rw [add_block]; exact hn193_3) | exact hn193_3) (.int .i64 ((rd_T73 l0 a1).f3))).trans hx193_2; replace hx193_3 := (cell_far (p := ⟨gb190, 3, none⟩) (by first | (rw [add_block]; exact hn193_3) | (show (Addr.add _ _).block ≠ _; rw [add_block]; exact hn193_3) | exact hn193_3) (.int .i64 ((rd_T73 l0 a1).f3))).trans hx193_3; clear hn193_0 hn193_1 hn193_2 hn193_3; replace p193 := eq_true p193; replace q193 := eq_true q193) | ((with_reducible refine gate_callee (f := 75) rfl ?_); refine goesS (some 37) Try.func75 #[.string ((rd_T73 l0 ((rd_T73 l0 a1).f2)).f1), .string a2] ?_; (with_reducible refine (spec_IsRearranged.calls k ((rd_T73 l0 ((rd_T73 l0 a1).f2)).f1) a2 t194 _ A20.out).mono ?_); rintro e w' ⟨rfl, ⟨nd, rfl⟩⟩; refine ⟨_, rfl, ?_⟩))
        go_ret
        exact ⟨EWW, BL⟩
       ·rw [if_neg c19] at H
        exact absurd H (by simp)
      ·rw [if_neg c18] at H
       exact absurd H (by simp)
     ·rw [if_neg c17] at H
      have c17b0 : (((rd_T73 l0 a1).f0) == 3) = false := beq_eq_false_iff_ne.mpr c17
      have c17b1 : (((rd_T73 l0 a1).f0) != 3) = true := bne_iff_ne.mpr c17
      by_cases c23 : ((rd_T73 l0 a1).f0) = 4
      ·rw [if_pos c23] at H
       have c23b0 : (((rd_T73 l0 a1).f0) == 4) = true := beq_iff_eq.mpr c23
       have c23b1 : (((rd_T73 l0 a1).f0) != 4) = false := bne_eq_false_iff_eq.mpr c23
       clear c23
       replace H := Option.bind_eq_some_iff.mp H
       obtain ⟨t195, A240, H⟩ := H
       replace H : (some t195) = some r := H
       have A24 := Aside0.mk A240
       clear A240
       obtain rfl := Option.some.inj H
       have p189 : 0 ≤ (a1 : Int) := OD
       have q189 : a1 < (l0.length : Int) := OD
       obtain ⟨ad189, e189, hx189_0, hx189_1, hx189_2, hx189_3⟩ := at_T73 HR0.out a1 p189 q189
       cases e189
       replace p189 := eq_true p189
       replace q189 := eq_true q189
       go_enter Try.func65, Try.ntmps65
       go_wp2_with (first | ((with_reducible refine gate_dst (N := 7) rfl ?_); refine box_ev (N := 7) (cs := #[.int .i64 0, .string (⟨#[]⟩ : ByteArray), .int .i64 0, .int .i64 0]) (t := 73) ?_; intro gb190 hg w25 hbox hb; have n0_ := BS (w := w) hb; have n1_ := Aside0.mk (hbox); have n2_ := SZ (w := w) hg; have n3_ := SZ (w := w) hg; clear HB; have HB := n0_; have BK190 := n1_; have GW190 := n2_; have GE190 := n3_; clear n0_ n1_ n2_ n3_; clear hb hbox hg; obtain ⟨hcz26_0, hcz26_1, hcz26_2, hcz26_3, hfz26_0, hfz26_1, hfz26_2, hfz26_3⟩ := cz4 BK190.out) | ((with_reducible refine gate_callee (f := 76) rfl ?_); refine goesS (some 43) Try.func76 #[.slice (some ad189) l0.length c0, .agg #[.int .i64 ((rd_T73 l0 a1).f0), .string ((rd_T73 l0 a1).f1), .int .i64 ((rd_T73 l0 a1).f2), .int .i64 ((rd_T73 l0 a1).f3)], .string a2] ?_; (with_reducible refine (spec_l15Join.calls (fun _ => spec_l15Makes.f k) (fun _ A_ c_ l_ i_ s_ b_ W_ hr_ hc_ h_ => ih k (by omega) A_ c_ l_ i_ s_ b_ W_ hr_ hc_ h_) k _ _ l0 ((rd_T73 l0 a1).f0) ((rd_T73 l0 a1).f1) ((rd_T73 l0 a1).f2) ((rd_T73 l0 a1).f3) a2 t195 _ ?side1 ?side2 A24.out).mono ?_); (case side1 => exact Kd.C_below HR0.out BL); (case side2 => exact HC0.out); rintro e w27 ⟨rfl, hb⟩; refine ⟨_, rfl, ?_⟩; have n0_ := Aside0.mk (blk_below (g := gb190) (o := .cells #[.int .i64 ((rd_T73 l0 a1).f0), .string ((rd_T73 l0 a1).f1), .int .i64 ((rd_T73 l0 a1).f2), .int .i64 ((rd_T73 l0 a1).f3)] 73 (0, 0)) (by (with_reducible repeat (first | refine blk_drewN ?_ _ | refine blk_drew ?_ | refine blk_alloc ?_ _)); refine blk_put (cs := #[.int .i64 ((rd_T73 l0 a1).f0), .string ((rd_T73 l0 a1).f1), .int .i64 ((rd_T73 l0 a1).f2), .int .i64 0]) ?_ 3 _ rfl; (with_reducible repeat (first | refine blk_drewN ?_ _ | refine blk_drew ?_ | refine blk_alloc ?_ _)); refine blk_put (cs := #[.int .i64 ((rd_T73 l0 a1).f0), .string ((rd_T73 l0 a1).f1), .int .i64 0, .int .i64 0]) ?_ 2 _ rfl; (with_reducible repeat (first | refine blk_drewN ?_ _ | refine blk_drew ?_ | refine blk_alloc ?_ _)); refine blk_put (cs := #[.int .i64 ((rd_T73 l0 a1).f0), .string (⟨#[]⟩ : ByteArray), .int .i64 0, .int .i64 0]) ?_ 1 _ rfl; (with_reducible repeat (first | refine blk_drewN ?_ _ | refine blk_drew ?_ | refine blk_alloc ?_ _)); refine blk_put (cs := #[.int .i64 0, .string (⟨#[]⟩ : ByteArray), .int .i64 0, .int .i64 0]) ?_ 0 _ rfl; (with_reducible repeat (first | refine blk_drewN ?_ _ | refine blk_drew ?_ | refine blk_alloc ?_ _)); exact BK190.out) hb); have n1_ := BS (w := w) hb; clear BK190 HB; have BK190 := n0_; have HB := n1_; clear n0_ n1_; (try clear hb)))
       go_ret
       exact ⟨EWW, BL⟩
      ·rw [if_neg c23] at H
       have c23b0 : (((rd_T73 l0 a1).f0) == 4) = false := beq_eq_false_iff_ne.mpr c23
       have c23b1 : (((rd_T73 l0 a1).f0) != 4) = true := bne_iff_ne.mpr c23
       by_cases c28 : ((rd_T73 l0 a1).f0) = 5
       ·rw [if_pos c28] at H
        have c28b0 : (((rd_T73 l0 a1).f0) == 5) = true := beq_iff_eq.mpr c28
        have c28b1 : (((rd_T73 l0 a1).f0) != 5) = false := bne_eq_false_iff_eq.mpr c28
        clear c28
        replace H := Option.bind_eq_some_iff.mp H
        obtain ⟨t196, A290, H⟩ := H
        replace H : (some t196) = some r := H
        have A29 := Aside0.mk A290
        clear A290
        obtain rfl := Option.some.inj H
        have p189 : 0 ≤ (a1 : Int) := OD
        have q189 : a1 < (l0.length : Int) := OD
        obtain ⟨ad189, e189, hx189_0, hx189_1, hx189_2, hx189_3⟩ := at_T73 HR0.out a1 p189 q189
        cases e189
        replace p189 := eq_true p189
        replace q189 := eq_true q189
        go_enter Try.func65, Try.ntmps65
        go_wp2_with (first | ((with_reducible refine gate_dst (N := 7) rfl ?_); refine box_ev (N := 7) (cs := #[.int .i64 0, .string (⟨#[]⟩ : ByteArray), .int .i64 0, .int .i64 0]) (t := 73) ?_; intro gb190 hg w30 hbox hb; have n0_ := BS (w := w) hb; have n1_ := Aside0.mk (hbox); have n2_ := SZ (w := w) hg; have n3_ := SZ (w := w) hg; clear HB; have HB := n0_; have BK190 := n1_; have GW190 := n2_; have GE190 := n3_; clear n0_ n1_ n2_ n3_; clear hb hbox hg; obtain ⟨hcz31_0, hcz31_1, hcz31_2, hcz31_3, hfz31_0, hfz31_1, hfz31_2, hfz31_3⟩ := cz4 BK190.out) | ((with_reducible refine gate_callee (f := 77) rfl ?_); refine goesS (some 49) Try.func77 #[.slice (some ad189) l0.length c0, .agg #[.int .i64 ((rd_T73 l0 a1).f0), .string ((rd_T73 l0 a1).f1), .int .i64 ((rd_T73 l0 a1).f2), .int .i64 ((rd_T73 l0 a1).f3)], .string a2] ?_; (with_reducible refine (spec_l15In.calls (fun _ => spec_l15Makes.f k) (fun _ A_ c_ l_ i_ s_ b_ W_ hr_ hc_ h_ => ih k (by omega) A_ c_ l_ i_ s_ b_ W_ hr_ hc_ h_) k _ _ l0 ((rd_T73 l0 a1).f0) ((rd_T73 l0 a1).f1) ((rd_T73 l0 a1).f2) ((rd_T73 l0 a1).f3) a2 t196 _ ?side1 ?side2 A29.out).mono ?_); (case side1 => exact Kd.C_below HR0.out BL); (case side2 => exact HC0.out); rintro e w32 ⟨rfl, hb⟩; refine ⟨_, rfl, ?_⟩; have n0_ := Aside0.mk (blk_below (g := gb190) (o := .cells #[.int .i64 ((rd_T73 l0 a1).f0), .string ((rd_T73 l0 a1).f1), .int .i64 ((rd_T73 l0 a1).f2), .int .i64 ((rd_T73 l0 a1).f3)] 73 (0, 0)) (by (with_reducible repeat (first | refine blk_drewN ?_ _ | refine blk_drew ?_ | refine blk_alloc ?_ _)); refine blk_put (cs := #[.int .i64 ((rd_T73 l0 a1).f0), .string ((rd_T73 l0 a1).f1), .int .i64 ((rd_T73 l0 a1).f2), .int .i64 0]) ?_ 3 _ rfl; (with_reducible repeat (first | refine blk_drewN ?_ _ | refine blk_drew ?_ | refine blk_alloc ?_ _)); refine blk_put (cs := #[.int .i64 ((rd_T73 l0 a1).f0), .string ((rd_T73 l0 a1).f1), .int .i64 0, .int .i64 0]) ?_ 2 _ rfl; (with_reducible repeat (first | refine blk_drewN ?_ _ | refine blk_drew ?_ | refine blk_alloc ?_ _)); refine blk_put (cs := #[.int .i64 ((rd_T73 l0 a1).f0), .string (⟨#[]⟩ : ByteArray), .int .i64 0, .int .i64 0]) ?_ 1 _ rfl; (with_reducible repeat (first | refine blk_drewN ?_ _ | refine blk_drew ?_ | refine blk_alloc ?_ _)); refine blk_put (cs := #[.int .i64 0, .string (⟨#[]⟩ : ByteArray), .int .i64 0, .int .i64 0]) ?_ 0 _ rfl; (with_reducible repeat (first | refine blk_drewN ?_ _ | refine blk_drew ?_ | refine blk_alloc ?_ _)); exact BK190.out) hb); have n1_ := BS (w := w) hb; clear BK190 HB; have BK190 := n0_; have HB := n1_; clear n0_ n1_; (try clear hb)))
        go_ret
        exact ⟨EWW, BL⟩
       ·rw [if_neg c28] at H
        have c28b0 : (((rd_T73 l0 a1).f0) == 5) = false := beq_eq_false_iff_ne.mpr c28
        have c28b1 : (((rd_T73 l0 a1).f0) != 5) = true := bne_iff_ne.mpr c28
        by_cases c33 : ((rd_T73 l0 a1).f0) = 6
        ·rw [if_pos c33] at H
         have c33b0 : (((rd_T73 l0 a1).f0) == 6) = true := beq_iff_eq.mpr c33
         have c33b1 : (((rd_T73 l0 a1).f0) != 6) = false := bne_eq_false_iff_eq.mpr c33
         clear c33
         by_cases c34 : 0 ≤ ((rd_T73 l0 a1).f2)
         ·rw [if_pos c34] at H
          have c34b0 : decide (0 ≤ ((rd_T73 l0 a1).f2)) = true := decide_eq_true c34
          clear c34
          by_cases c35 : ((rd_T73 l0 a1).f2) < (l0.length : Int)
          ·rw [if_pos c35] at H
           have c35b0 : decide (((rd_T73 l0 a1).f2) < (l0.length : Int)) = true := decide_eq_true c35
           clear c35
           replace H := Option.bind_eq_some_iff.mp H
           obtain ⟨t198, A360, H⟩ := H
           replace H : (some (t198.toList == a2.toList)) = some r := H
           have A36 := Aside0.mk A360
           clear A360
           obtain rfl := Option.some.inj H
           have p189 : 0 ≤ (a1 : Int) := OD
           have q189 : a1 < (l0.length : Int) := OD
           obtain ⟨ad189, e189, hx189_0, hx189_1, hx189_2, hx189_3⟩ := at_T73 HR0.out a1 p189 q189
           cases e189
           replace p189 := eq_true p189
           replace q189 := eq_true q189
           go_enter Try.func65, Try.ntmps65
           go_wp2_with (first | ((with_reducible refine gate_dst (N := 7) rfl ?_); refine box_ev (N := 7) (cs := #[.int .i64 0, .string (⟨#[]⟩ : ByteArray), .int .i64 0, .int .i64 0]) (t := 73) ?_; intro gb190 hg w37 hbox hb; have n0_ := BS (w := w) hb; have n1_ := Aside0.mk (hbox); have n2_ := SZ (w := w) hg; have n3_ := SZ (w := w) hg; clear HB; have HB := n0_; have BK190 := n1_; have GW190 := n2_; have GE190 := n3_; clear n0_ n1_ n2_ n3_; clear hb hbox hg; obtain ⟨hcz38_0, hcz38_1, hcz38_2, hcz38_3, hfz38_0, hfz38_1, hfz38_2, hfz38_3⟩ := cz4 BK190.out; have p197 : 0 ≤ (((rd_T73 l0 a1).f2) : Int) := OD; have q197 : ((rd_T73 l0 a1).f2) < (l0.length : Int) := OD; obtain ⟨ad197, e197, hx197_0, hx197_1, hx197_2, hx197_3⟩ := at_T73 HR0.out ((rd_T73 l0 a1).f2) p197 q197; obtain rfl : ad189 = ad197 := (by injection e197); have hn197_0 : ad189.block ≠ gb190 := Nat.ne_of_lt (Nat.lt_of_lt_of_le (by have := World.block_lt_of_cell? _ _ hx197_0; first | rwa [add_block] at this | exact this) GW190.out); have hn197_1 : ad189.block ≠ gb190 := Nat.ne_of_lt (Nat.lt_of_lt_of_le (by have := World.block_lt_of_cell? _ _ hx197_0; first | rwa [add_block] at this | exact this) GW190.out); have hn197_2 : ad189.block ≠ gb190 := Nat.ne_of_lt (Nat.lt_of_lt_of_le (by have := World.block_lt_of_cell? _ _ hx197_0; first | rwa [add_block] at this | exact this) GW190.out); have hn197_3 : ad189.block ≠ gb190 := Nat.ne_of_lt (Nat.lt_of_lt_of_le (by have := World.block_lt_of_cell? _ _ hx197_0; first | rwa [add_block] at this | exact this) GW190.out); replace hx197_0 := (HB.out.cell (World.block_lt_of_cell? w _ hx197_0)).trans hx197_0; replace hx197_1 := (HB.out.cell (World.block_lt_of_cell? w _ hx197_1)).trans hx197_1; replace hx197_2 := (HB.out.cell (World.block_lt_of_cell? w _ hx197_2)).trans hx197_2; replace hx197_3 := (HB.out.cell (World.block_lt_of_cell? w _ hx197_3)).trans hx197_3; replace hx197_0 := (cell_far (p := ⟨gb190, 0, none⟩) (by first | (rw [add_block]; exact hn197_0) | (show (Addr.add _ _).block ≠ _; rw [add_block]; exact hn197_0) | exact hn197_0) (.int .i64 ((rd_T73 l0 a1).f0))).trans hx197_0; replace hx197_1 := (cell_far (p := ⟨gb190, 0, none⟩) (by first | (rw [add_block]; exact hn197_0) | (show (Addr.add _ _).block ≠ _; rw [add_block]; exact hn197_0) | exact hn197_0) (.int .i64 ((rd_T73 l0 a1).f0))).trans hx197_1; replace hx197_2 := (cell_far (p := ⟨gb190, 0, none⟩) (by first | (rw [add_block]; exact hn197_0) | (show (Addr.add _ _).block ≠ _; rw [add_block]; exact hn197_0) | exact hn197_0) (.int .i64 ((rd_T73 l0 a1).f0))).trans hx197_2; replace hx197_3 := (cell_far (p := ⟨gb190, 0, none⟩) (by first | (rw [add_block]; exact hn197_0) | (show (Addr.add _ _).block ≠ _; rw [add_block]; exact hn197_0) | exact hn197_0) (.int .i64 ((rd_T73 l0 a1).f0))).trans hx197_3; replace hx197_0 := (cell_far (p := ⟨gb190, 1, none⟩) (by first | (rw [add_block]; exact hn197_1) | (show (Addr.add _ _).block ≠ _; rw [add_block]; exact hn197_1) | exact hn197_1) (.string ((rd_T73 l0 a1).f1))).trans hx197_0; replace hx197_1 := (cell_far (p := ⟨gb190, 1, none⟩) (by first | (rw [add_block]; exact hn197_1) | (show (Addr.add _ _).block ≠ _; rw [add_block]; exact hn197_1) | exact hn197_1) (.string ((rd_T73 l0 a1).f1))).trans hx197_1; replace hx197_2 := (cell_far (p := ⟨gb190, 1, none⟩) (by first | (rw [add_block]; exact hn197_1) | (show (Addr.add _ _).block ≠ _; rw [add_block]; exact hn197_1) | exact hn197_1) (.string ((rd_T73 l0 a1).f1))).trans hx197_2; replace hx197_3 := (cell_far (p := ⟨gb190, 1, none⟩) (by first | (rw [add_block]; exact hn197_1) | (show (Addr.add _ _).block ≠ _; rw [add_block]; exact hn197_1) | exact hn197_1) (.string ((rd_T73 l0 a1).f1))).trans hx197_3; replace hx197_0 := (cell_far (p := ⟨gb190, 2, none⟩) (by first | (rw [add_block]; exact hn197_2) | (show (Addr.add _ _).block ≠ _; rw [add_block]; exact hn197_2) | exact hn197_2) (.int .i64 ((rd_T73 l0 a1).f2))).trans hx197_0; replace hx197_1 := (cell_far (p := ⟨gb190, 2, none⟩) (by first | (rw [add_block]; exact hn197_2) | (show (Addr.add _ _).block ≠ _; rw [add_block]; exact hn197_2) | exact hn197_2) (.int .i64 ((rd_T73 l0 a1).f2))).trans hx197_1; replace hx197_2 := (cell_far (p := ⟨gb190, 2, none⟩) (by first | (rw [add_block]; exact hn197_2) | (show (Addr.add _ _).block ≠ _; rw [add_block]; exact hn197_2) | exact hn197_2) (.int .i64 ((rd_T73 l0 a1).f2))).trans hx197_2; replace hx197_3 := (cell_far (p := ⟨gb190, 2, none⟩) (by first | (rw [add_block]; exact hn197_2) | (show (Addr.add _ _).block ≠ _; rw [add_block]; exact hn197_2) | exact hn197_2) (.int .i64 ((rd_T73 l0 a1).f2))).trans hx197_3; replace hx197_0 := (cell_far (p := ⟨gb190, 3, none⟩) (by first | (rw [add_block]; exact hn197_3) | (show (Addr.add _ _).block ≠ _; rw [add_block]; exact hn197_3) | exact hn197_3) (.int .i64 ((rd_T73 l0 a1).f3))).trans hx197_0; replace hx197_1 := (cell_far (p := ⟨gb190, 3, none⟩) (by first | (rw [add_block]; exact hn197_3) | (show (Addr.add _ _).block ≠ _; rw [add_block]; exact hn197_3) | exact hn197_3) (.int .i64 ((rd_T73 l0 a1).f3))).trans hx197_1; replace hx197_2 := (cell_far (p := ⟨gb190, 3, none⟩) (by first | (rw [add_block]; exact hn197_3) | (show (Addr.add _ _).block ≠ _; rw [add_block]; exact hn197_3) | exact hn197_3) (.int .i64 ((rd_T73 l0 a1).f3))).trans hx197_2; replace hx197_3 := (cell_far (p := ⟨gb190, 3, none⟩) (by first | (rw [add_block]; exact hn197_3) | (show (Addr.add _ _).block ≠ _; rw [add_block]; exact hn197_3) | exact hn197_3) (.int .i64 ((rd_T73 l0 a1).f3))).trans hx197_3; clear hn197_0 hn197_1 hn197_2 hn197_3; replace p197 := eq_true p197; replace q197 := eq_true q197) | ((with_reducible refine gate_callee (f := 78) rfl ?_); refine goesS (some 58) Try.func78 #[.string ((rd_T73 l0 ((rd_T73 l0 a1).f2)).f1)] ?_; (with_reducible refine (spec_HeadOf.calls k ((rd_T73 l0 ((rd_T73 l0 a1).f2)).f1) t198 _ A36.out).mono ?_); rintro e w' ⟨rfl, ⟨nd, rfl⟩⟩; refine ⟨_, rfl, ?_⟩))
           go_ret
           exact ⟨EWW, BL⟩
          ·rw [if_neg c35] at H
           exact absurd H (by simp)
         ·rw [if_neg c34] at H
          exact absurd H (by simp)
        ·rw [if_neg c33] at H
         have c33b0 : (((rd_T73 l0 a1).f0) == 6) = false := beq_eq_false_iff_ne.mpr c33
         have c33b1 : (((rd_T73 l0 a1).f0) != 6) = true := bne_iff_ne.mpr c33
         by_cases c39 : ((rd_T73 l0 a1).f0) = 7
         ·rw [if_pos c39] at H
          have c39b0 : (((rd_T73 l0 a1).f0) == 7) = true := beq_iff_eq.mpr c39
          have c39b1 : (((rd_T73 l0 a1).f0) != 7) = false := bne_eq_false_iff_eq.mpr c39
          clear c39
          by_cases c40 : 0 ≤ ((rd_T73 l0 a1).f2)
          ·rw [if_pos c40] at H
           have c40b0 : decide (0 ≤ ((rd_T73 l0 a1).f2)) = true := decide_eq_true c40
           clear c40
           by_cases c41 : ((rd_T73 l0 a1).f2) < (l0.length : Int)
           ·rw [if_pos c41] at H
            have c41b0 : decide (((rd_T73 l0 a1).f2) < (l0.length : Int)) = true := decide_eq_true c41
            clear c41
            replace H := Option.bind_eq_some_iff.mp H
            obtain ⟨t200, A420, H⟩ := H
            replace H : (some (t200.toList == a2.toList)) = some r := H
            have A42 := Aside0.mk A420
            clear A420
            obtain rfl := Option.some.inj H
            have p189 : 0 ≤ (a1 : Int) := OD
            have q189 : a1 < (l0.length : Int) := OD
            obtain ⟨ad189, e189, hx189_0, hx189_1, hx189_2, hx189_3⟩ := at_T73 HR0.out a1 p189 q189
            cases e189
            replace p189 := eq_true p189
            replace q189 := eq_true q189
            go_enter Try.func65, Try.ntmps65
            go_wp2_with (first | ((with_reducible refine gate_dst (N := 7) rfl ?_); refine box_ev (N := 7) (cs := #[.int .i64 0, .string (⟨#[]⟩ : ByteArray), .int .i64 0, .int .i64 0]) (t := 73) ?_; intro gb190 hg w43 hbox hb; have n0_ := BS (w := w) hb; have n1_ := Aside0.mk (hbox); have n2_ := SZ (w := w) hg; have n3_ := SZ (w := w) hg; clear HB; have HB := n0_; have BK190 := n1_; have GW190 := n2_; have GE190 := n3_; clear n0_ n1_ n2_ n3_; clear hb hbox hg; obtain ⟨hcz44_0, hcz44_1, hcz44_2, hcz44_3, hfz44_0, hfz44_1, hfz44_2, hfz44_3⟩ := cz4 BK190.out; have p199 : 0 ≤ (((rd_T73 l0 a1).f2) : Int) := OD; have q199 : ((rd_T73 l0 a1).f2) < (l0.length : Int) := OD; obtain ⟨ad199, e199, hx199_0, hx199_1, hx199_2, hx199_3⟩ := at_T73 HR0.out ((rd_T73 l0 a1).f2) p199 q199; obtain rfl : ad189 = ad199 := (by injection e199); have hn199_0 : ad189.block ≠ gb190 := Nat.ne_of_lt (Nat.lt_of_lt_of_le (by have := World.block_lt_of_cell? _ _ hx199_0; first | rwa [add_block] at this | exact this) GW190.out); have hn199_1 : ad189.block ≠ gb190 := Nat.ne_of_lt (Nat.lt_of_lt_of_le (by have := World.block_lt_of_cell? _ _ hx199_0; first | rwa [add_block] at this | exact this) GW190.out); have hn199_2 : ad189.block ≠ gb190 := Nat.ne_of_lt (Nat.lt_of_lt_of_le (by have := World.block_lt_of_cell? _ _ hx199_0; first | rwa [add_block] at this | exact this) GW190.out); have hn199_3 : ad189.block ≠ gb190 := Nat.ne_of_lt (Nat.lt_of_lt_of_le (by have := World.block_lt_of_cell? _ _ hx199_0; first | rwa [add_block] at this | exact this) GW190.out); replace hx199_0 := (HB.out.cell (World.block_lt_of_cell? w _ hx199_0)).trans hx199_0; replace hx199_1 := (HB.out.cell (World.block_lt_of_cell? w _ hx199_1)).trans hx199_1; replace hx199_2 := (HB.out.cell (World.block_lt_of_cell? w _ hx199_2)).trans hx199_2; replace hx199_3 := (HB.out.cell (World.block_lt_of_cell? w _ hx199_3)).trans hx199_3; replace hx199_0 := (cell_far (p := ⟨gb190, 0, none⟩) (by first | (rw [add_block]; exact hn199_0) | (show (Addr.add _ _).block ≠ _; rw [add_block]; exact hn199_0) | exact hn199_0) (.int .i64 ((rd_T73 l0 a1).f0))).trans hx199_0; replace hx199_1 := (cell_far (p := ⟨gb190, 0, none⟩) (by first | (rw [add_block]; exact hn199_0) | (show (Addr.add _ _).block ≠ _; rw [add_block]; exact hn199_0) | exact hn199_0) (.int .i64 ((rd_T73 l0 a1).f0))).trans hx199_1; replace hx199_2 := (cell_far (p := ⟨gb190, 0, none⟩) (by first | (rw [add_block]; exact hn199_0) | (show (Addr.add _ _).block ≠ _; rw [add_block]; exact hn199_0) | exact hn199_0) (.int .i64 ((rd_T73 l0 a1).f0))).trans hx199_2; replace hx199_3 := (cell_far (p := ⟨gb190, 0, none⟩) (by first | (rw [add_block]; exact hn199_0) | (show (Addr.add _ _).block ≠ _; rw [add_block]; exact hn199_0) | exact hn199_0) (.int .i64 ((rd_T73 l0 a1).f0))).trans hx199_3; replace hx199_0 := (cell_far (p := ⟨gb190, 1, none⟩) (by first | (rw [add_block]; exact hn199_1) | (show (Addr.add _ _).block ≠ _; rw [add_block]; exact hn199_1) | exact hn199_1) (.string ((rd_T73 l0 a1).f1))).trans hx199_0; replace hx199_1 := (cell_far (p := ⟨gb190, 1, none⟩) (by first | (rw [add_block]; exact hn199_1) | (show (Addr.add _ _).block ≠ _; rw [add_block]; exact hn199_1) | exact hn199_1) (.string ((rd_T73 l0 a1).f1))).trans hx199_1; replace hx199_2 := (cell_far (p := ⟨gb190, 1, none⟩) (by first | (rw [add_block]; exact hn199_1) | (show (Addr.add _ _).block ≠ _; rw [add_block]; exact hn199_1) | exact hn199_1) (.string ((rd_T73 l0 a1).f1))).trans hx199_2; replace hx199_3 := (cell_far (p := ⟨gb190, 1, none⟩) (by first | (rw [add_block]; exact hn199_1) | (show (Addr.add _ _).block ≠ _; rw [add_block]; exact hn199_1) | exact hn199_1) (.string ((rd_T73 l0 a1).f1))).trans hx199_3; replace hx199_0 := (cell_far (p := ⟨gb190, 2, none⟩) (by first | (rw [add_block]; exact hn199_2) | (show (Addr.add _ _).block ≠ _; rw [add_block]; exact hn199_2) | exact hn199_2) (.int .i64 ((rd_T73 l0 a1).f2))).trans hx199_0; replace hx199_1 := (cell_far (p := ⟨gb190, 2, none⟩) (by first | (rw [add_block]; exact hn199_2) | (show (Addr.add _ _).block ≠ _; rw [add_block]; exact hn199_2) | exact hn199_2) (.int .i64 ((rd_T73 l0 a1).f2))).trans hx199_1; replace hx199_2 := (cell_far (p := ⟨gb190, 2, none⟩) (by first | (rw [add_block]; exact hn199_2) | (show (Addr.add _ _).block ≠ _; rw [add_block]; exact hn199_2) | exact hn199_2) (.int .i64 ((rd_T73 l0 a1).f2))).trans hx199_2; replace hx199_3 := (cell_far (p := ⟨gb190, 2, none⟩) (by first | (rw [add_block]; exact hn199_2) | (show (Addr.add _ _).block ≠ _; rw [add_block]; exact hn199_2) | exact hn199_2) (.int .i64 ((rd_T73 l0 a1).f2))).trans hx199_3; replace hx199_0 := (cell_far (p := ⟨gb190, 3, none⟩) (by first | (rw [add_block]; exact hn199_3) | (show (Addr.add _ _).block ≠ _; rw [add_block]; exact hn199_3) | exact hn199_3) (.int .i64 ((rd_T73 l0 a1).f3))).trans hx199_0; replace hx199_1 := (cell_far (p := ⟨gb190, 3, none⟩) (by first | (rw [add_block]; exact hn199_3) | (show (Addr.add _ _).block ≠ _; rw [add_block]; exact hn199_3) | exact hn199_3) (.int .i64 ((rd_T73 l0 a1).f3))).trans hx199_1; replace hx199_2 := (cell_far (p := ⟨gb190, 3, none⟩) (by first | (rw [add_block]; exact hn199_3) | (show (Addr.add _ _).block ≠ _; rw [add_block]; exact hn199_3) | exact hn199_3) (.int .i64 ((rd_T73 l0 a1).f3))).trans hx199_2; replace hx199_3 := (cell_far (p := ⟨gb190, 3, none⟩) (by first | (rw [add_block]; exact hn199_3) | (show (Addr.add _ _).block ≠ _; rw [add_block]; exact hn199_3) | exact hn199_3) (.int .i64 ((rd_T73 l0 a1).f3))).trans hx199_3; clear hn199_0 hn199_1 hn199_2 hn199_3; replace p199 := eq_true p199; replace q199 := eq_true q199) | ((with_reducible refine gate_callee (f := 79) rfl ?_); refine goesS (some 69) Try.func79 #[.string ((rd_T73 l0 ((rd_T73 l0 a1).f2)).f1)] ?_; (with_reducible refine (spec_WithoutHead.calls k ((rd_T73 l0 ((rd_T73 l0 a1).f2)).f1) t200 _ A42.out).mono ?_); rintro e w' ⟨rfl, ⟨nd, rfl⟩⟩; refine ⟨_, rfl, ?_⟩))
            go_ret
            exact ⟨EWW, BL⟩
           ·rw [if_neg c41] at H
            exact absurd H (by simp)
          ·rw [if_neg c40] at H
           exact absurd H (by simp)
         ·rw [if_neg c39] at H
          have c39b0 : (((rd_T73 l0 a1).f0) == 7) = false := beq_eq_false_iff_ne.mpr c39
          have c39b1 : (((rd_T73 l0 a1).f0) != 7) = true := bne_iff_ne.mpr c39
          by_cases c45 : ((rd_T73 l0 a1).f0) = 8
          ·rw [if_pos c45] at H
           have c45b0 : (((rd_T73 l0 a1).f0) == 8) = true := beq_iff_eq.mpr c45
           have c45b1 : (((rd_T73 l0 a1).f0) != 8) = false := bne_eq_false_iff_eq.mpr c45
           clear c45
           by_cases c46 : 0 ≤ ((rd_T73 l0 a1).f2)
           ·rw [if_pos c46] at H
            have c46b0 : decide (0 ≤ ((rd_T73 l0 a1).f2)) = true := decide_eq_true c46
            clear c46
            by_cases c47 : ((rd_T73 l0 a1).f2) < (l0.length : Int)
            ·rw [if_pos c47] at H
             have c47b0 : decide (((rd_T73 l0 a1).f2) < (l0.length : Int)) = true := decide_eq_true c47
             clear c47
             replace H := Option.bind_eq_some_iff.mp H
             obtain ⟨t202, A480, H⟩ := H
             replace H : (some (t202.toList == a2.toList)) = some r := H
             have A48 := Aside0.mk A480
             clear A480
             obtain rfl := Option.some.inj H
             have p189 : 0 ≤ (a1 : Int) := OD
             have q189 : a1 < (l0.length : Int) := OD
             obtain ⟨ad189, e189, hx189_0, hx189_1, hx189_2, hx189_3⟩ := at_T73 HR0.out a1 p189 q189
             cases e189
             replace p189 := eq_true p189
             replace q189 := eq_true q189
             go_enter Try.func65, Try.ntmps65
             go_wp2_with (first | ((with_reducible refine gate_dst (N := 7) rfl ?_); refine box_ev (N := 7) (cs := #[.int .i64 0, .string (⟨#[]⟩ : ByteArray), .int .i64 0, .int .i64 0]) (t := 73) ?_; intro gb190 hg w49 hbox hb; have n0_ := BS (w := w) hb; have n1_ := Aside0.mk (hbox); have n2_ := SZ (w := w) hg; have n3_ := SZ (w := w) hg; clear HB; have HB := n0_; have BK190 := n1_; have GW190 := n2_; have GE190 := n3_; clear n0_ n1_ n2_ n3_; clear hb hbox hg; obtain ⟨hcz50_0, hcz50_1, hcz50_2, hcz50_3, hfz50_0, hfz50_1, hfz50_2, hfz50_3⟩ := cz4 BK190.out; have p201 : 0 ≤ (((rd_T73 l0 a1).f2) : Int) := OD; have q201 : ((rd_T73 l0 a1).f2) < (l0.length : Int) := OD; obtain ⟨ad201, e201, hx201_0, hx201_1, hx201_2, hx201_3⟩ := at_T73 HR0.out ((rd_T73 l0 a1).f2) p201 q201; obtain rfl : ad189 = ad201 := (by injection e201); have hn201_0 : ad189.block ≠ gb190 := Nat.ne_of_lt (Nat.lt_of_lt_of_le (by have := World.block_lt_of_cell? _ _ hx201_0; first | rwa [add_block] at this | exact this) GW190.out); have hn201_1 : ad189.block ≠ gb190 := Nat.ne_of_lt (Nat.lt_of_lt_of_le (by have := World.block_lt_of_cell? _ _ hx201_0; first | rwa [add_block] at this | exact this) GW190.out); have hn201_2 : ad189.block ≠ gb190 := Nat.ne_of_lt (Nat.lt_of_lt_of_le (by have := World.block_lt_of_cell? _ _ hx201_0; first | rwa [add_block] at this | exact this) GW190.out); have hn201_3 : ad189.block ≠ gb190 := Nat.ne_of_lt (Nat.lt_of_lt_of_le (by have := World.block_lt_of_cell? _ _ hx201_0; first | rwa [add_block] at this | exact this) GW190.out); replace hx201_0 := (HB.out.cell (World.block_lt_of_cell? w _ hx201_0)).trans hx201_0; replace hx201_1 := (HB.out.cell (World.block_lt_of_cell? w _ hx201_1)).trans hx201_1; replace hx201_2 := (HB.out.cell (World.block_lt_of_cell? w _ hx201_2)).trans hx201_2; replace hx201_3 := (HB.out.cell (World.block_lt_of_cell? w _ hx201_3)).trans hx201_3; replace hx201_0 := (cell_far (p := ⟨gb190, 0, none⟩) (by first | (rw [add_block]; exact hn201_0) | (show (Addr.add _ _).block ≠ _; rw [add_block]; exact hn201_0) | exact hn201_0) (.int .i64 ((rd_T73 l0 a1).f0))).trans hx201_0; replace hx201_1 := (cell_far (p := ⟨gb190, 0, none⟩) (by first | (rw [add_block]; exact hn201_0) | (show (Addr.add _ _).block ≠ _; rw [add_block]; exact hn201_0) | exact hn201_0) (.int .i64 ((rd_T73 l0 a1).f0))).trans hx201_1; replace hx201_2 := (cell_far (p := ⟨gb190, 0, none⟩) (by first | (rw [add_block]; exact hn201_0) | (show (Addr.add _ _).block ≠ _; rw [add_block]; exact hn201_0) | exact hn201_0) (.int .i64 ((rd_T73 l0 a1).f0))).trans hx201_2; replace hx201_3 := (cell_far (p := ⟨gb190, 0, none⟩) (by first | (rw [add_block]; exact hn201_0) | (show (Addr.add _ _).block ≠ _; rw [add_block]; exact hn201_0) | exact hn201_0) (.int .i64 ((rd_T73 l0 a1).f0))).trans hx201_3; replace hx201_0 := (cell_far (p := ⟨gb190, 1, none⟩) (by first | (rw [add_block]; exact hn201_1) | (show (Addr.add _ _).block ≠ _; rw [add_block]; exact hn201_1) | exact hn201_1) (.string ((rd_T73 l0 a1).f1))).trans hx201_0; replace hx201_1 := (cell_far (p := ⟨gb190, 1, none⟩) (by first | (rw [add_block]; exact hn201_1) | (show (Addr.add _ _).block ≠ _; rw [add_block]; exact hn201_1) | exact hn201_1) (.string ((rd_T73 l0 a1).f1))).trans hx201_1; replace hx201_2 := (cell_far (p := ⟨gb190, 1, none⟩) (by first | (rw [add_block]; exact hn201_1) | (show (Addr.add _ _).block ≠ _; rw [add_block]; exact hn201_1) | exact hn201_1) (.string ((rd_T73 l0 a1).f1))).trans hx201_2; replace hx201_3 := (cell_far (p := ⟨gb190, 1, none⟩) (by first | (rw [add_block]; exact hn201_1) | (show (Addr.add _ _).block ≠ _; rw [add_block]; exact hn201_1) | exact hn201_1) (.string ((rd_T73 l0 a1).f1))).trans hx201_3; replace hx201_0 := (cell_far (p := ⟨gb190, 2, none⟩) (by first | (rw [add_block]; exact hn201_2) | (show (Addr.add _ _).block ≠ _; rw [add_block]; exact hn201_2) | exact hn201_2) (.int .i64 ((rd_T73 l0 a1).f2))).trans hx201_0; replace hx201_1 := (cell_far (p := ⟨gb190, 2, none⟩) (by first | (rw [add_block]; exact hn201_2) | (show (Addr.add _ _).block ≠ _; rw [add_block]; exact hn201_2) | exact hn201_2) (.int .i64 ((rd_T73 l0 a1).f2))).trans hx201_1; replace hx201_2 := (cell_far (p := ⟨gb190, 2, none⟩) (by first | (rw [add_block]; exact hn201_2) | (show (Addr.add _ _).block ≠ _; rw [add_block]; exact hn201_2) | exact hn201_2) (.int .i64 ((rd_T73 l0 a1).f2))).trans hx201_2; replace hx201_3 := (cell_far (p := ⟨gb190, 2, none⟩) (by first | (rw [add_block]; exact hn201_2) | (show (Addr.add _ _).block ≠ _; rw [add_block]; exact hn201_2) | exact hn201_2) (.int .i64 ((rd_T73 l0 a1).f2))).trans hx201_3; replace hx201_0 := (cell_far (p := ⟨gb190, 3, none⟩) (by first | (rw [add_block]; exact hn201_3) | (show (Addr.add _ _).block ≠ _; rw [add_block]; exact hn201_3) | exact hn201_3) (.int .i64 ((rd_T73 l0 a1).f3))).trans hx201_0; replace hx201_1 := (cell_far (p := ⟨gb190, 3, none⟩) (by first | (rw [add_block]; exact hn201_3) | (show (Addr.add _ _).block ≠ _; rw [add_block]; exact hn201_3) | exact hn201_3) (.int .i64 ((rd_T73 l0 a1).f3))).trans hx201_1; replace hx201_2 := (cell_far (p := ⟨gb190, 3, none⟩) (by first | (rw [add_block]; exact hn201_3) | (show (Addr.add _ _).block ≠ _; rw [add_block]; exact hn201_3) | exact hn201_3) (.int .i64 ((rd_T73 l0 a1).f3))).trans hx201_2; replace hx201_3 := (cell_far (p := ⟨gb190, 3, none⟩) (by first | (rw [add_block]; exact hn201_3) | (show (Addr.add _ _).block ≠ _; rw [add_block]; exact hn201_3) | exact hn201_3) (.int .i64 ((rd_T73 l0 a1).f3))).trans hx201_3; clear hn201_0 hn201_1 hn201_2 hn201_3; replace p201 := eq_true p201; replace q201 := eq_true q201) | ((with_reducible refine gate_callee (f := 80) rfl ?_); refine goesS (some 80) Try.func80 #[.string ((rd_T73 l0 ((rd_T73 l0 a1).f2)).f1)] ?_; (with_reducible refine (spec_WithoutTail.calls k ((rd_T73 l0 ((rd_T73 l0 a1).f2)).f1) t202 _ A48.out).mono ?_); rintro e w' ⟨rfl, ⟨nd, rfl⟩⟩; refine ⟨_, rfl, ?_⟩))
             go_ret
             exact ⟨EWW, BL⟩
            ·rw [if_neg c47] at H
             exact absurd H (by simp)
           ·rw [if_neg c46] at H
            exact absurd H (by simp)
          ·rw [if_neg c45] at H
           have c45b0 : (((rd_T73 l0 a1).f0) == 8) = false := beq_eq_false_iff_ne.mpr c45
           have c45b1 : (((rd_T73 l0 a1).f0) != 8) = true := bne_iff_ne.mpr c45
           by_cases c51 : 0 ≤ ((rd_T73 l0 a1).f2)
           ·rw [if_pos c51] at H
            have c51b0 : decide (0 ≤ ((rd_T73 l0 a1).f2)) = true := decide_eq_true c51
            clear c51
            by_cases c52 : ((rd_T73 l0 a1).f2) < (l0.length : Int)
            ·rw [if_pos c52] at H
             have c52b0 : decide (((rd_T73 l0 a1).f2) < (l0.length : Int)) = true := decide_eq_true c52
             clear c52
             replace H := Option.bind_eq_some_iff.mp H
             obtain ⟨t204, A530, H⟩ := H
             replace H : (some t204) = some r := H
             have A53 := Aside0.mk A530
             clear A530
             obtain rfl := Option.some.inj H
             have p189 : 0 ≤ (a1 : Int) := OD
             have q189 : a1 < (l0.length : Int) := OD
             obtain ⟨ad189, e189, hx189_0, hx189_1, hx189_2, hx189_3⟩ := at_T73 HR0.out a1 p189 q189
             cases e189
             replace p189 := eq_true p189
             replace q189 := eq_true q189
             go_enter Try.func65, Try.ntmps65
             go_wp2_with (first | ((with_reducible refine gate_dst (N := 7) rfl ?_); refine box_ev (N := 7) (cs := #[.int .i64 0, .string (⟨#[]⟩ : ByteArray), .int .i64 0, .int .i64 0]) (t := 73) ?_; intro gb190 hg w54 hbox hb; have n0_ := BS (w := w) hb; have n1_ := Aside0.mk (hbox); have n2_ := SZ (w := w) hg; have n3_ := SZ (w := w) hg; clear HB; have HB := n0_; have BK190 := n1_; have GW190 := n2_; have GE190 := n3_; clear n0_ n1_ n2_ n3_; clear hb hbox hg; obtain ⟨hcz55_0, hcz55_1, hcz55_2, hcz55_3, hfz55_0, hfz55_1, hfz55_2, hfz55_3⟩ := cz4 BK190.out; have p203 : 0 ≤ (((rd_T73 l0 a1).f2) : Int) := OD; have q203 : ((rd_T73 l0 a1).f2) < (l0.length : Int) := OD; obtain ⟨ad203, e203, hx203_0, hx203_1, hx203_2, hx203_3⟩ := at_T73 HR0.out ((rd_T73 l0 a1).f2) p203 q203; obtain rfl : ad189 = ad203 := (by injection e203); have hn203_0 : ad189.block ≠ gb190 := Nat.ne_of_lt (Nat.lt_of_lt_of_le (by have := World.block_lt_of_cell? _ _ hx203_0; first | rwa [add_block] at this | exact this) GW190.out); have hn203_1 : ad189.block ≠ gb190 := Nat.ne_of_lt (Nat.lt_of_lt_of_le (by have := World.block_lt_of_cell? _ _ hx203_0; first | rwa [add_block] at this | exact this) GW190.out); have hn203_2 : ad189.block ≠ gb190 := Nat.ne_of_lt (Nat.lt_of_lt_of_le (by have := World.block_lt_of_cell? _ _ hx203_0; first | rwa [add_block] at this | exact this) GW190.out); have hn203_3 : ad189.block ≠ gb190 := Nat.ne_of_lt (Nat.lt_of_lt_of_le (by have := World.block_lt_of_cell? _ _ hx203_0; first | rwa [add_block] at this | exact this) GW190.out); replace hx203_0 := (HB.out.cell (World.block_lt_of_cell? w _ hx203_0)).trans hx203_0; replace hx203_1 := (HB.out.cell (World.block_lt_of_cell? w _ hx203_1)).trans hx203_1; replace hx203_2 := (HB.out.cell (World.block_lt_of_cell? w _ hx203_2)).trans hx203_2; replace hx203_3 := (HB.out.cell (World.block_lt_of_cell? w _ hx203_3)).trans hx203_3; replace hx203_0 := (cell_far (p := ⟨gb190, 0, none⟩) (by first | (rw [add_block]; exact hn203_0) | (show (Addr.add _ _).block ≠ _; rw [add_block]; exact hn203_0) | exact hn203_0) (.int .i64 ((rd_T73 l0 a1).f0))).trans hx203_0; replace hx203_1 := (cell_far (p := ⟨gb190, 0, none⟩) (by first | (rw [add_block]; exact hn203_0) | (show (Addr.add _ _).block ≠ _; rw [add_block]; exact hn203_0) | exact hn203_0) (.int .i64 ((rd_T73 l0 a1).f0))).trans hx203_1; replace hx203_2 := (cell_far (p := ⟨gb190, 0, none⟩) (by first | (rw [add_block]; exact hn203_0) | (show (Addr.add _ _).block ≠ _; rw [add_block]; exact hn203_0) | exact hn203_0) (.int .i64 ((rd_T73 l0 a1).f0))).trans hx203_2; replace hx203_3 := (cell_far (p := ⟨gb190, 0, none⟩) (by first | (rw [add_block]; exact hn203_0) | (show (Addr.add _ _).block ≠ _; rw [add_block]; exact hn203_0) | exact hn203_0) (.int .i64 ((rd_T73 l0 a1).f0))).trans hx203_3; replace hx203_0 := (cell_far (p := ⟨gb190, 1, none⟩) (by first | (rw [add_block]; exact hn203_1) | (show (Addr.add _ _).block ≠ _; rw [add_block]; exact hn203_1) | exact hn203_1) (.string ((rd_T73 l0 a1).f1))).trans hx203_0; replace hx203_1 := (cell_far (p := ⟨gb190, 1, none⟩) (by first | (rw [add_block]; exact hn203_1) | (show (Addr.add _ _).block ≠ _; rw [add_block]; exact hn203_1) | exact hn203_1) (.string ((rd_T73 l0 a1).f1))).trans hx203_1; replace hx203_2 := (cell_far (p := ⟨gb190, 1, none⟩) (by first | (rw [add_block]; exact hn203_1) | (show (Addr.add _ _).block ≠ _; rw [add_block]; exact hn203_1) | exact hn203_1) (.string ((rd_T73 l0 a1).f1))).trans hx203_2; replace hx203_3 := (cell_far (p := ⟨gb190, 1, none⟩) (by first | (rw [add_block]; exact hn203_1) | (show (Addr.add _ _).block ≠ _; rw [add_block]; exact hn203_1) | exact hn203_1) (.string ((rd_T73 l0 a1).f1))).trans hx203_3; replace hx203_0 := (cell_far (p := ⟨gb190, 2, none⟩) (by first | (rw [add_block]; exact hn203_2) | (show (Addr.add _ _).block ≠ _; rw [add_block]; exact hn203_2) | exact hn203_2) (.int .i64 ((rd_T73 l0 a1).f2))).trans hx203_0; replace hx203_1 := (cell_far (p := ⟨gb190, 2, none⟩) (by first | (rw [add_block]; exact hn203_2) | (show (Addr.add _ _).block ≠ _; rw [add_block]; exact hn203_2) | exact hn203_2) (.int .i64 ((rd_T73 l0 a1).f2))).trans hx203_1; replace hx203_2 := (cell_far (p := ⟨gb190, 2, none⟩) (by first | (rw [add_block]; exact hn203_2) | (show (Addr.add _ _).block ≠ _; rw [add_block]; exact hn203_2) | exact hn203_2) (.int .i64 ((rd_T73 l0 a1).f2))).trans hx203_2; replace hx203_3 := (cell_far (p := ⟨gb190, 2, none⟩) (by first | (rw [add_block]; exact hn203_2) | (show (Addr.add _ _).block ≠ _; rw [add_block]; exact hn203_2) | exact hn203_2) (.int .i64 ((rd_T73 l0 a1).f2))).trans hx203_3; replace hx203_0 := (cell_far (p := ⟨gb190, 3, none⟩) (by first | (rw [add_block]; exact hn203_3) | (show (Addr.add _ _).block ≠ _; rw [add_block]; exact hn203_3) | exact hn203_3) (.int .i64 ((rd_T73 l0 a1).f3))).trans hx203_0; replace hx203_1 := (cell_far (p := ⟨gb190, 3, none⟩) (by first | (rw [add_block]; exact hn203_3) | (show (Addr.add _ _).block ≠ _; rw [add_block]; exact hn203_3) | exact hn203_3) (.int .i64 ((rd_T73 l0 a1).f3))).trans hx203_1; replace hx203_2 := (cell_far (p := ⟨gb190, 3, none⟩) (by first | (rw [add_block]; exact hn203_3) | (show (Addr.add _ _).block ≠ _; rw [add_block]; exact hn203_3) | exact hn203_3) (.int .i64 ((rd_T73 l0 a1).f3))).trans hx203_2; replace hx203_3 := (cell_far (p := ⟨gb190, 3, none⟩) (by first | (rw [add_block]; exact hn203_3) | (show (Addr.add _ _).block ≠ _; rw [add_block]; exact hn203_3) | exact hn203_3) (.int .i64 ((rd_T73 l0 a1).f3))).trans hx203_3; clear hn203_0 hn203_1 hn203_2 hn203_3; replace p203 := eq_true p203; replace q203 := eq_true q203) | ((with_reducible refine gate_callee (f := 81) rfl ?_); refine goesS (some 90) Try.func81 #[.string a2, .string ((rd_T73 l0 ((rd_T73 l0 a1).f2)).f1)] ?_; (with_reducible refine (spec_IsInside.calls k a2 ((rd_T73 l0 ((rd_T73 l0 a1).f2)).f1) t204 _ A53.out).mono ?_); rintro e w' ⟨rfl, ⟨nd, rfl⟩⟩; refine ⟨_, rfl, ?_⟩))
             go_ret
             exact ⟨EWW, BL⟩
            ·rw [if_neg c52] at H
             exact absurd H (by simp)
           ·rw [if_neg c51] at H
            exact absurd H (by simp)
  ·rw [if_neg c5] at H
   exact absurd H (by simp)
 ·rw [if_neg c4] at H
  exact absurd H (by simp)
def spec_Makes.f (k : Nat) (l0 : List (S73)) (a1 : ByteArray) : Option (Bool) := (spec_IsPlay.f k l0).bind fun t205 => (if t205 = true then ((spec_IsWord.f k a1).bind fun t206 => (if t206 = true then ((spec_l15Makes.f k l0 (wrap64 ((l0.length : Int) - 1)) a1).bind fun t207 => (some t207)) else (some false))) else (some false))
set_option maxHeartbeats 8000000 in
set_option maxRecDepth 100000 in
theorem spec_Makes.calls (k : Nat) (A0 : Option Addr) (c0 : Nat) (l0 : List (S73)) (a1 : ByteArray) (r : Bool) (w : World) (hr0 : Kd.C k73 w A0 l0.length l0) (hc0 : l0.length ≤ c0) (h : spec_Makes.f k l0 a1 = some r) :
  Calls Try.prog 47 #[.slice A0 l0.length c0, .string a1] w fun e w' => e = .returned (.bool r) ∧ Below w.heap.size w w' := by
 have HR0 := Aside0.mk hr0
 have HC0 := Aside0.mk hc0
 clear hr0 hc0
 have HB := Aside0.mk (Below.refl w.heap.size w)
 have H : ((spec_IsPlay.f k l0).bind fun t205 => (if t205 = true then ((spec_IsWord.f k a1).bind fun t206 => (if t206 = true then ((spec_l15Makes.f k l0 (wrap64 ((l0.length : Int) - 1)) a1).bind fun t207 => (some t207)) else (some false))) else (some false))) = some r := h
 clear h
 replace H := Option.bind_eq_some_iff.mp H
 obtain ⟨t205, A30, H⟩ := H
 replace H : (if t205 = true then ((spec_IsWord.f k a1).bind fun t206 => (if t206 = true then ((spec_l15Makes.f k l0 (wrap64 ((l0.length : Int) - 1)) a1).bind fun t207 => (some t207)) else (some false))) else (some false)) = some r := H
 have A3 := Aside0.mk A30
 clear A30
 by_cases c4 : t205 = true
 ·subst c4
  have H1 : ((spec_IsWord.f k a1).bind fun t206 => (if t206 = true then ((spec_l15Makes.f k l0 (wrap64 ((l0.length : Int) - 1)) a1).bind fun t207 => (some t207)) else (some false))) = some r := by rw [if_pos rfl] at H; exact H
  clear H
  have H := H1
  clear H1
  replace H := Option.bind_eq_some_iff.mp H
  obtain ⟨t206, A50, H⟩ := H
  replace H : (if t206 = true then ((spec_l15Makes.f k l0 (wrap64 ((l0.length : Int) - 1)) a1).bind fun t207 => (some t207)) else (some false)) = some r := H
  have A5 := Aside0.mk A50
  clear A50
  by_cases c6 : t206 = true
  ·subst c6
   have H1 : ((spec_l15Makes.f k l0 (wrap64 ((l0.length : Int) - 1)) a1).bind fun t207 => (some t207)) = some r := by rw [if_pos rfl] at H; exact H
   clear H
   have H := H1
   clear H1
   replace H := Option.bind_eq_some_iff.mp H
   obtain ⟨t207, A70, H⟩ := H
   replace H : (some t207) = some r := H
   have A7 := Aside0.mk A70
   clear A70
   obtain rfl := Option.some.inj H
   go_enter Try.func47, Try.ntmps47
   go_wp2_with (first | ((with_reducible refine gate_callee (f := 63) rfl ?_); refine goesS (some 6) Try.func63 #[.slice A0 l0.length c0] ?_; (with_reducible refine (spec_IsPlay.calls k _ _ l0 true _ ?side1 ?side2 A3.out).mono ?_); (case side1 => repeat (first | exact HR0.out | (with_reducible refine Kd.C_alloc ?_ _) | (with_reducible refine Kd.C_drewN ?_ _) | (with_reducible refine Kd.C_drew ?_))); (case side2 => exact HC0.out); rintro e w8 ⟨rfl, hb⟩; refine ⟨_, rfl, ?_⟩; have n0_ := BS (w := w) hb; clear HB; have HB := n0_; clear n0_; (try clear hb)) | (go_at_call 64; (with_reducible refine (spec_IsWord.calls k a1 true _ A5.out).mono ?_); rintro e w' ⟨rfl, ⟨nd, rfl⟩⟩) | (go_at_call 65; (with_reducible refine (spec_l15Makes.calls k _ _ l0 (wrap64 ((l0.length : Int) - 1)) a1 t207 _ ?side1 ?side2 A7.out).mono ?_); (case side1 => repeat (first | exact (Kd.C_below HR0.out BL) | (with_reducible refine Kd.C_alloc ?_ _) | (with_reducible refine Kd.C_drewN ?_ _) | (with_reducible refine Kd.C_drew ?_))); (case side2 => exact HC0.out); rintro e w9 ⟨rfl, hb⟩; have n0_ := BS (w := w) hb; clear HB; have HB := n0_; clear n0_; (try clear hb)))
   go_ret
   exact ⟨EWW, BL⟩
  ·replace c6 := Bool.eq_false_iff.mpr c6
   subst c6
   have H1 : (some false) = some r := by rw [if_neg (show ¬ (false = true) by decide)] at H; exact H
   clear H
   have H := H1
   clear H1
   obtain rfl := Option.some.inj H
   go_enter Try.func47, Try.ntmps47
   go_wp2_with (first | ((with_reducible refine gate_callee (f := 63) rfl ?_); refine goesS (some 6) Try.func63 #[.slice A0 l0.length c0] ?_; (with_reducible refine (spec_IsPlay.calls k _ _ l0 true _ ?side1 ?side2 A3.out).mono ?_); (case side1 => repeat (first | exact HR0.out | (with_reducible refine Kd.C_alloc ?_ _) | (with_reducible refine Kd.C_drewN ?_ _) | (with_reducible refine Kd.C_drew ?_))); (case side2 => exact HC0.out); rintro e w10 ⟨rfl, hb⟩; refine ⟨_, rfl, ?_⟩; have n0_ := BS (w := w) hb; clear HB; have HB := n0_; clear n0_; (try clear hb)) | (go_at_call 64; (with_reducible refine (spec_IsWord.calls k a1 false _ A5.out).mono ?_); rintro e w' ⟨rfl, ⟨nd, rfl⟩⟩))
   go_ret
   exact ⟨EWW, BL⟩
 ·replace c4 := Bool.eq_false_iff.mpr c4
  subst c4
  have H1 : (some false) = some r := by rw [if_neg (show ¬ (false = true) by decide)] at H; exact H
  clear H
  have H := H1
  clear H1
  obtain rfl := Option.some.inj H
  go_enter Try.func47, Try.ntmps47
  go_wp2_with (first | ((with_reducible refine gate_callee (f := 63) rfl ?_); refine goesS (some 6) Try.func63 #[.slice A0 l0.length c0] ?_; (with_reducible refine (spec_IsPlay.calls k _ _ l0 false _ ?side1 ?side2 A3.out).mono ?_); (case side1 => repeat (first | exact HR0.out | (with_reducible refine Kd.C_alloc ?_ _) | (with_reducible refine Kd.C_drewN ?_ _) | (with_reducible refine Kd.C_drew ?_))); (case side2 => exact HC0.out); rintro e w11 ⟨rfl, hb⟩; refine ⟨_, rfl, ?_⟩; have n0_ := BS (w := w) hb; clear HB; have HB := n0_; clear n0_; (try clear hb)))
  go_ret
  exact ⟨EWW, BL⟩
def spec_FitsClue.f (k : Nat) (a0_0 : Int) (l0_1 : List (S73)) (l1 : List (S54)) (a2 : ByteArray) : Option (Bool) := (spec_IsClue.f k a0_0 l0_1).bind fun t209 => (if t209 = true then ((spec_HasSense.f k l1 a2 a0_0).bind fun t210 => (if t210 = true then ((spec_Makes.f k l0_1 a2).bind fun t211 => (some t211)) else (some false))) else (some false))
set_option maxHeartbeats 8000000 in
set_option maxRecDepth 100000 in
theorem spec_FitsClue.calls (k : Nat) (a0_0 : Int) (A0_1 : Option Addr) (c0_1 : Nat) (l0_1 : List (S73)) (A1 : Option Addr) (c1 : Nat) (l1 : List (S54)) (a2 : ByteArray) (r : Bool) (w : World) (hr0_1 : Kd.C k73 w A0_1 l0_1.length l0_1) (hc0_1 : l0_1.length ≤ c0_1) (hr1 : Kd.C k54 w A1 l1.length l1) (hc1 : l1.length ≤ c1) (h : spec_FitsClue.f k a0_0 l0_1 l1 a2 = some r) :
  Calls Try.prog 37 #[.agg #[.int .i64 a0_0, .slice A0_1 l0_1.length c0_1], .slice A1 l1.length c1, .string a2] w fun e w' => e = .returned (.bool r) ∧ Below w.heap.size w w' := by
 have hu33 := Try.underlying33
 have HR0_1 := Aside0.mk hr0_1
 have HC0_1 := Aside0.mk hc0_1
 clear hr0_1 hc0_1
 have HR1 := Aside0.mk hr1
 have HC1 := Aside0.mk hc1
 clear hr1 hc1
 have HB := Aside0.mk (Below.refl w.heap.size w)
 have H : ((spec_IsClue.f k a0_0 l0_1).bind fun t209 => (if t209 = true then ((spec_HasSense.f k l1 a2 a0_0).bind fun t210 => (if t210 = true then ((spec_Makes.f k l0_1 a2).bind fun t211 => (some t211)) else (some false))) else (some false))) = some r := h
 clear h
 replace H := Option.bind_eq_some_iff.mp H
 obtain ⟨t209, A40, H⟩ := H
 replace H : (if t209 = true then ((spec_HasSense.f k l1 a2 a0_0).bind fun t210 => (if t210 = true then ((spec_Makes.f k l0_1 a2).bind fun t211 => (some t211)) else (some false))) else (some false)) = some r := H
 have A4 := Aside0.mk A40
 clear A40
 by_cases c5 : t209 = true
 ·subst c5
  have H1 : ((spec_HasSense.f k l1 a2 a0_0).bind fun t210 => (if t210 = true then ((spec_Makes.f k l0_1 a2).bind fun t211 => (some t211)) else (some false))) = some r := by rw [if_pos rfl] at H; exact H
  clear H
  have H := H1
  clear H1
  replace H := Option.bind_eq_some_iff.mp H
  obtain ⟨t210, A60, H⟩ := H
  replace H : (if t210 = true then ((spec_Makes.f k l0_1 a2).bind fun t211 => (some t211)) else (some false)) = some r := H
  have A6 := Aside0.mk A60
  clear A60
  by_cases c7 : t210 = true
  ·subst c7
   have H1 : ((spec_Makes.f k l0_1 a2).bind fun t211 => (some t211)) = some r := by rw [if_pos rfl] at H; exact H
   clear H
   have H := H1
   clear H1
   replace H := Option.bind_eq_some_iff.mp H
   obtain ⟨t211, A80, H⟩ := H
   replace H : (some t211) = some r := H
   have A8 := Aside0.mk A80
   clear A80
   obtain rfl := Option.some.inj H
   go_enter Try.func37, Try.ntmps37
   go_wp2_with (first | ((with_reducible refine gate_dst (N := 3) rfl ?_); refine box_ev (N := 3) (cs := #[.int .i64 a0_0, .slice A0_1 l0_1.length c0_1]) (t := 33) ?_; intro gb208 hg w9 hbox hb; have n0_ := BS (w := w) hb; have n1_ := Aside0.mk (hbox); have n2_ := SZ (w := w) hg; have n3_ := SZ (w := w) hg; clear HB; have HB := n0_; have BK208 := n1_; have GW208 := n2_; have GE208 := n3_; clear n0_ n1_ n2_ n3_; clear hb hbox hg; obtain ⟨hcz10_0, hcz10_1, hfz10_0, hfz10_1⟩ := cz2 BK208.out) | ((with_reducible refine gate_callee (f := 45) rfl ?_); refine goesS (some 8) Try.func45 #[.agg #[.int .i64 a0_0, .slice A0_1 l0_1.length c0_1]] ?_; (with_reducible refine (spec_IsClue.calls k a0_0 _ _ l0_1 true _ ?side1 ?side2 A4.out).mono ?_); (case side1 => exact CB HR0_1); (case side2 => exact HC0_1.out); rintro e w11 ⟨rfl, hb⟩; refine ⟨_, rfl, ?_⟩; have n0_ := KB BK208 hb; have n1_ := BS (w := w) hb; clear BK208 HB; have BK208 := n0_; have HB := n1_; clear n0_ n1_; (try clear hb); obtain ⟨hcz12_0, hcz12_1, hfz12_0, hfz12_1⟩ := cz2 BK208.out) | (go_at_call 46; (with_reducible refine (spec_HasSense.calls k _ _ l1 a2 a0_0 true _ ?side1 ?side2 A6.out).mono ?_); (case side1 => exact CB HR1); (case side2 => exact HC1.out); rintro e w' ⟨rfl, ⟨nd, rfl⟩⟩) | (go_at_call 47; (with_reducible refine (spec_Makes.calls k _ _ l0_1 a2 t211 _ ?side1 ?side2 A8.out).mono ?_); (case side1 => repeat (first | exact (Kd.C_below HR0_1.out BL) | (with_reducible refine Kd.C_alloc ?_ _) | (with_reducible refine Kd.C_drewN ?_ _) | (with_reducible refine Kd.C_drew ?_))); (case side2 => exact HC0_1.out); rintro e w13 ⟨rfl, hb⟩; have n0_ := KB BK208 hb; have n1_ := BS (w := w) hb; clear BK208 HB; have BK208 := n0_; have HB := n1_; clear n0_ n1_; (try clear hb)))
   go_ret
   exact ⟨EWW, BL⟩
  ·replace c7 := Bool.eq_false_iff.mpr c7
   subst c7
   have H1 : (some false) = some r := by rw [if_neg (show ¬ (false = true) by decide)] at H; exact H
   clear H
   have H := H1
   clear H1
   obtain rfl := Option.some.inj H
   go_enter Try.func37, Try.ntmps37
   go_wp2_with (first | ((with_reducible refine gate_dst (N := 3) rfl ?_); refine box_ev (N := 3) (cs := #[.int .i64 a0_0, .slice A0_1 l0_1.length c0_1]) (t := 33) ?_; intro gb208 hg w14 hbox hb; have n0_ := BS (w := w) hb; have n1_ := Aside0.mk (hbox); have n2_ := SZ (w := w) hg; have n3_ := SZ (w := w) hg; clear HB; have HB := n0_; have BK208 := n1_; have GW208 := n2_; have GE208 := n3_; clear n0_ n1_ n2_ n3_; clear hb hbox hg; obtain ⟨hcz15_0, hcz15_1, hfz15_0, hfz15_1⟩ := cz2 BK208.out) | ((with_reducible refine gate_callee (f := 45) rfl ?_); refine goesS (some 8) Try.func45 #[.agg #[.int .i64 a0_0, .slice A0_1 l0_1.length c0_1]] ?_; (with_reducible refine (spec_IsClue.calls k a0_0 _ _ l0_1 true _ ?side1 ?side2 A4.out).mono ?_); (case side1 => exact CB HR0_1); (case side2 => exact HC0_1.out); rintro e w16 ⟨rfl, hb⟩; refine ⟨_, rfl, ?_⟩; have n0_ := KB BK208 hb; have n1_ := BS (w := w) hb; clear BK208 HB; have BK208 := n0_; have HB := n1_; clear n0_ n1_; (try clear hb); obtain ⟨hcz17_0, hcz17_1, hfz17_0, hfz17_1⟩ := cz2 BK208.out) | (go_at_call 46; (with_reducible refine (spec_HasSense.calls k _ _ l1 a2 a0_0 false _ ?side1 ?side2 A6.out).mono ?_); (case side1 => exact CB HR1); (case side2 => exact HC1.out); rintro e w' ⟨rfl, ⟨nd, rfl⟩⟩))
   go_ret
   exact ⟨EWW, BL⟩
 ·replace c5 := Bool.eq_false_iff.mpr c5
  subst c5
  have H1 : (some false) = some r := by rw [if_neg (show ¬ (false = true) by decide)] at H; exact H
  clear H
  have H := H1
  clear H1
  obtain rfl := Option.some.inj H
  go_enter Try.func37, Try.ntmps37
  go_wp2_with (first | ((with_reducible refine gate_dst (N := 3) rfl ?_); refine box_ev (N := 3) (cs := #[.int .i64 a0_0, .slice A0_1 l0_1.length c0_1]) (t := 33) ?_; intro gb208 hg w18 hbox hb; have n0_ := BS (w := w) hb; have n1_ := Aside0.mk (hbox); have n2_ := SZ (w := w) hg; have n3_ := SZ (w := w) hg; clear HB; have HB := n0_; have BK208 := n1_; have GW208 := n2_; have GE208 := n3_; clear n0_ n1_ n2_ n3_; clear hb hbox hg; obtain ⟨hcz19_0, hcz19_1, hfz19_0, hfz19_1⟩ := cz2 BK208.out) | ((with_reducible refine gate_callee (f := 45) rfl ?_); refine goesS (some 8) Try.func45 #[.agg #[.int .i64 a0_0, .slice A0_1 l0_1.length c0_1]] ?_; (with_reducible refine (spec_IsClue.calls k a0_0 _ _ l0_1 false _ ?side1 ?side2 A4.out).mono ?_); (case side1 => exact CB HR0_1); (case side2 => exact HC0_1.out); rintro e w20 ⟨rfl, hb⟩; refine ⟨_, rfl, ?_⟩; have n0_ := KB BK208 hb; have n1_ := BS (w := w) hb; clear BK208 HB; have BK208 := n0_; have HB := n1_; clear n0_ n1_; (try clear hb)))
  go_ret
  exact ⟨EWW, BL⟩
def spec_HasWord.l0 : Nat → List ByteArray → ByteArray → Int → Option (Bool)
 | 0, _, _, _ => none
 | k + 1, x0, x1, x5 => if x5 < (x0.length : Int) then (if 0 ≤ x5 then (if (rdOf ByteArray.empty x0 x5).toList = x1.toList then (some true) else (spec_HasWord.l0 k x0 x1 (wrap64 (x5 + 1)))) else (none)) else (some false)
def spec_HasWord.f (k : Nat) (l0 : List ByteArray) (a1 : ByteArray) : Option (Bool) := spec_HasWord.l0 k l0 a1 0
set_option maxHeartbeats 8000000 in
set_option maxRecDepth 100000 in
theorem spec_HasWord.calls (k : Nat) (A0 : Option Addr) (c0 : Nat) (l0 : List ByteArray) (a1 : ByteArray) (r : Bool) (w : World) (hr0 : Kd.C Kd.string w A0 l0.length l0) (hc0 : l0.length ≤ c0) (h : spec_HasWord.f k l0 a1 = some r) :
  Calls Try.prog 38 #[.slice A0 l0.length c0, .string a1] w fun e w' => e = .returned (.bool r) ∧ Drawn0 w w' := by
 have HR0 := Aside0.mk hr0
 have HC0 := Aside0.mk hc0
 clear hr0 hc0
 have H : (spec_HasWord.l0 k l0 a1 0) = some r := h
 clear h
 have H' := Aside0.mk H
 clear H
 go_enter Try.func38, Try.ntmps38
 go_wp2
 go_loopg [5] k (fun kq v5 w' => ∃ (x5_1 : Int), v5 = .int .i64 x5_1 ∧ Aside0 (spec_HasWord.l0 kq l0 a1 x5_1 = some r) ∧ Aside0 (kq ≤ k) ∧ Drawn0 w w')
 case atStart => exact ⟨(0), EQ, H', ⟨Nat.le_refl _⟩, by repeat (first | exact Drawn0.refl _ | apply Drawn0.step)⟩
 case round =>
  clear H'
  obtain ⟨x5_1, rfl, HA, HK1, ⟨m1, rfl⟩⟩ := hrel
  cases gk with
  | zero => exact absurd HA.out (by simp [spec_HasWord.l0])
  | succ k1 =>
   have H := HA.out
   clear HA
   simp only [spec_HasWord.l0] at H
   by_cases c3 : x5_1 < (l0.length : Int)
   ·rw [if_pos c3] at H
    have c3b0 : decide (x5_1 < (l0.length : Int)) = true := decide_eq_true c3
    clear c3
    by_cases c4 : 0 ≤ x5_1
    ·rw [if_pos c4] at H
     have c4b0 : decide (0 ≤ x5_1) = true := decide_eq_true c4
     clear c4
     by_cases c5 : (rdOf ByteArray.empty l0 x5_1).toList = a1.toList
     ·rw [if_pos c5] at H
      have c5b0 : ((rdOf ByteArray.empty l0 x5_1).toList == a1.toList) = true := beq_iff_eq.mpr c5
      have c5b1 : ((rdOf ByteArray.empty l0 x5_1).toList != a1.toList) = false := bne_eq_false_iff_eq.mpr c5
      clear c5
      obtain rfl := Option.some.inj H
      have p212 : 0 ≤ (x5_1 : Int) := OD
      have q212 : x5_1 < (l0.length : Int) := OD
      obtain ⟨ad212, e212, hx212_0⟩ := Kd.at_string HR0.out x5_1 p212 q212
      cases e212
      replace p212 := eq_true p212
      replace q212 := eq_true q212
      go_wp2
      go_ret
      exact ⟨by first | rfl | (simp; done) | (simp [*]; done), by repeat (first | exact Drawn0.refl _ | apply Drawn0.step)⟩
     ·rw [if_neg c5] at H
      have c5b0 : ((rdOf ByteArray.empty l0 x5_1).toList == a1.toList) = false := beq_eq_false_iff_ne.mpr c5
      have c5b1 : ((rdOf ByteArray.empty l0 x5_1).toList != a1.toList) = true := bne_iff_ne.mpr c5
      have H' := Aside0.mk H
      clear H
      have p212 : 0 ≤ (x5_1 : Int) := OD
      have q212 : x5_1 < (l0.length : Int) := OD
      obtain ⟨ad212, e212, hx212_0⟩ := Kd.at_string HR0.out x5_1 p212 q212
      cases e212
      replace p212 := eq_true p212
      replace q212 := eq_true q212
      go_wp2
      go_roundg k1
      case measure => have := HK1.out; omega
      case rel => exact ⟨(wrap64 (x5_1 + 1)), EQ, H', ⟨by have := HK1.out; omega⟩, by repeat (first | exact Drawn0.refl _ | apply Drawn0.step)⟩
    ·rw [if_neg c4] at H
     exact absurd H (by simp)
   ·rw [if_neg c3] at H
    have c3b0 : decide (x5_1 < (l0.length : Int)) = false := decide_eq_false c3
    clear c3
    obtain rfl := Option.some.inj H
    go_wp2
    go_ret
    exact ⟨by first | rfl | (simp; done) | (simp [*]; done), by repeat (first | exact Drawn0.refl _ | apply Drawn0.step)⟩
end Go.Proofs.Ythincoghppaegaa.PFnExactAnswersTo
