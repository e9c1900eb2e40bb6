/- Walks of functions: what each computes. -/
import Derived.Test.YtddacmgigolcbaaDoorZClueTextP0
import Derived.Test.YtddacmgigolcbaaDoorZClueTextP4
import Derived.Test.YtddacmgigolcbaaDoorZClueTextP5
import Derived.Test.YtddacmgigolcbaaDoorZClueTextW
import Derived.Test.YtddacmgigolcbaaDoorZClueTextShelf
namespace Go.Proofs.YtddacmgigolcbaaDoor.PFnExactClueText
open Go.RowKit Go.Proofs.YtddacmgigolcbaaDoorW.PrintWords Go.Proofs.YtddacmgigolcbaaDoorW.PrintLast Go.Proofs.YtddacmgigolcbaaDoorW.PrintMore Go.Proofs.YtddacmgigolcbaaDoor.Sq
attribute [local go_sem] max2_int min2_int max_two min_two max_three min_three max_four min_four
set_option linter.unusedVariables false
set_option linter.unusedSimpArgs false
def impl_playText.f : Nat → List (S45) → Int → Option (ByteArray)
 | 0, _, _ => none
 | k + 1, l0, a1 => if 0 ≤ a1 then (if a1 < (l0.length : Int) then (if ((rd_T45 l0 a1).f0) = 1 then (some ((rd_T45 l0 a1).f1)) else (if 0 ≤ ((rd_T45 l0 a1).f0) then (if ((rd_T45 l0 a1).f0) ≤ (wrap64 (((rd_T45 l0 a1).f0) + 1)) then (if (wrap64 (((rd_T45 l0 a1).f0) + 1)) ≤ 10 then (if ((⟨#[63, 63, 98, 109, 106, 105, 104, 110, 116, 100]⟩ : ByteArray).extract (((rd_T45 l0 a1).f0) : Int).toNat ((wrap64 (((rd_T45 l0 a1).f0) + 1)) : Int).toNat).size + 1 ≤ 9223372036854775807 then ((impl_playText.f k l0 ((rd_T45 l0 a1).f2)).bind fun t191 => (if (((⟨#[63, 63, 98, 109, 106, 105, 104, 110, 116, 100]⟩ : ByteArray).extract (((rd_T45 l0 a1).f0) : Int).toNat ((wrap64 (((rd_T45 l0 a1).f0) + 1)) : Int).toNat) ++ (⟨#[40]⟩ : ByteArray)).size + t191.size ≤ 9223372036854775807 then ((impl_isPair.f ((rd_T45 l0 a1).f0)).bind fun t192 => (if t192 = true then ((impl_playText.f k l0 ((rd_T45 l0 a1).f3)).bind fun t193 => (if 1 + t193.size ≤ 9223372036854775807 then (if ((((⟨#[63, 63, 98, 109, 106, 105, 104, 110, 116, 100]⟩ : ByteArray).extract (((rd_T45 l0 a1).f0) : Int).toNat ((wrap64 (((rd_T45 l0 a1).f0) + 1)) : Int).toNat) ++ (⟨#[40]⟩ : ByteArray)) ++ t191).size + ((⟨#[44]⟩ : ByteArray) ++ t193).size ≤ 9223372036854775807 then (if (((((⟨#[63, 63, 98, 109, 106, 105, 104, 110, 116, 100]⟩ : ByteArray).extract (((rd_T45 l0 a1).f0) : Int).toNat ((wrap64 (((rd_T45 l0 a1).f0) + 1)) : Int).toNat) ++ (⟨#[40]⟩ : ByteArray)) ++ t191) ++ ((⟨#[44]⟩ : ByteArray) ++ t193)).size + 1 ≤ 9223372036854775807 then (some ((((((⟨#[63, 63, 98, 109, 106, 105, 104, 110, 116, 100]⟩ : ByteArray).extract (((rd_T45 l0 a1).f0) : Int).toNat ((wrap64 (((rd_T45 l0 a1).f0) + 1)) : Int).toNat) ++ (⟨#[40]⟩ : ByteArray)) ++ t191) ++ ((⟨#[44]⟩ : ByteArray) ++ t193)) ++ (⟨#[41]⟩ : ByteArray))) else (none)) else (none)) else (none))) else (if ((((⟨#[63, 63, 98, 109, 106, 105, 104, 110, 116, 100]⟩ : ByteArray).extract (((rd_T45 l0 a1).f0) : Int).toNat ((wrap64 (((rd_T45 l0 a1).f0) + 1)) : Int).toNat) ++ (⟨#[40]⟩ : ByteArray)) ++ t191).size + 1 ≤ 9223372036854775807 then (some (((((⟨#[63, 63, 98, 109, 106, 105, 104, 110, 116, 100]⟩ : ByteArray).extract (((rd_T45 l0 a1).f0) : Int).toNat ((wrap64 (((rd_T45 l0 a1).f0) + 1)) : Int).toNat) ++ (⟨#[40]⟩ : ByteArray)) ++ t191) ++ (⟨#[41]⟩ : ByteArray))) else (none)))) else (none))) else (none)) else (none)) else (none)) else (none))) else (none)) else (none)
def impl_playText.T4 : Bool × List (List Nat × List Nat) := (true, [([], []), ([0], [0]), ([], []), ([2], [2]), ([3], [3]), ([1, 4], [1, 4]), ([5], [5]), ([], []), ([], []), ([8], [8]), ([7, 9], [7, 9]), ([6, 10], [6, 10]), ([11, 10, 0, 1, 2, 3, 4, 5, 6, 7, 8, 9, 10, 11], [11])])
def impl_playText.B4 : List Nat := [0, 1, 0, 4, 12, 31, 63, 0, 0, 256, 896, 2047, 4095]
theorem impl_playText.tab4 : rtab .any (opsOf Tryd.f39 4) = impl_playText.T4 := by kernel_rfl
theorem impl_playText.bits4 : waitsOk impl_playText.T4.2 impl_playText.B4 = true := by kernel_rfl
set_option maxHeartbeats 8000000 in
set_option maxRecDepth 100000 in
theorem impl_playText.calls (k : Nat) : ∀ (A0 : Option Addr) (c0 : Nat) (l0 : List (S45)) (a1 : Int) (r : ByteArray) (w : World) (hr0 : Kd.C k45 w A0 l0.length l0) (hc0 : l0.length ≤ c0) (h : impl_playText.f k l0 a1 = some r),
  Calls Tryd.prog 39 #[.slice A0 l0.length c0, .int .i64 a1] w fun e w' => e = .returned (.string r) ∧ Below w.heap.size w w' := by
 induction k using Nat.strongRecOn with
 | _ k ih =>
 intro A0 c0 l0 a1 r w hr0 hc0 h
 cases k with
 | zero => exact absurd h (by simp [impl_playText.f])
 | succ k =>
 simp only [impl_playText.f] at h
 have hu45 := Tryd.underlying45
 have HR0 := Aside0.mk hr0
 have HC0 := Aside0.mk hc0
 clear hr0 hc0
 have HB := Aside0.mk (Below.refl w.heap.size w)
 have H : (if 0 ≤ a1 then (if a1 < (l0.length : Int) then (if ((rd_T45 l0 a1).f0) = 1 then (some ((rd_T45 l0 a1).f1)) else (if 0 ≤ ((rd_T45 l0 a1).f0) then (if ((rd_T45 l0 a1).f0) ≤ (wrap64 (((rd_T45 l0 a1).f0) + 1)) then (if (wrap64 (((rd_T45 l0 a1).f0) + 1)) ≤ 10 then (if ((⟨#[63, 63, 98, 109, 106, 105, 104, 110, 116, 100]⟩ : ByteArray).extract (((rd_T45 l0 a1).f0) : Int).toNat ((wrap64 (((rd_T45 l0 a1).f0) + 1)) : Int).toNat).size + 1 ≤ 9223372036854775807 then ((impl_playText.f k l0 ((rd_T45 l0 a1).f2)).bind fun t191 => (if (((⟨#[63, 63, 98, 109, 106, 105, 104, 110, 116, 100]⟩ : ByteArray).extract (((rd_T45 l0 a1).f0) : Int).toNat ((wrap64 (((rd_T45 l0 a1).f0) + 1)) : Int).toNat) ++ (⟨#[40]⟩ : ByteArray)).size + t191.size ≤ 9223372036854775807 then ((impl_isPair.f ((rd_T45 l0 a1).f0)).bind fun t192 => (if t192 = true then ((impl_playText.f k l0 ((rd_T45 l0 a1).f3)).bind fun t193 => (if 1 + t193.size ≤ 9223372036854775807 then (if ((((⟨#[63, 63, 98, 109, 106, 105, 104, 110, 116, 100]⟩ : ByteArray).extract (((rd_T45 l0 a1).f0) : Int).toNat ((wrap64 (((rd_T45 l0 a1).f0) + 1)) : Int).toNat) ++ (⟨#[40]⟩ : ByteArray)) ++ t191).size + ((⟨#[44]⟩ : ByteArray) ++ t193).size ≤ 9223372036854775807 then (if (((((⟨#[63, 63, 98, 109, 106, 105, 104, 110, 116, 100]⟩ : ByteArray).extract (((rd_T45 l0 a1).f0) : Int).toNat ((wrap64 (((rd_T45 l0 a1).f0) + 1)) : Int).toNat) ++ (⟨#[40]⟩ : ByteArray)) ++ t191) ++ ((⟨#[44]⟩ : ByteArray) ++ t193)).size + 1 ≤ 9223372036854775807 then (some ((((((⟨#[63, 63, 98, 109, 106, 105, 104, 110, 116, 100]⟩ : ByteArray).extract (((rd_T45 l0 a1).f0) : Int).toNat ((wrap64 (((rd_T45 l0 a1).f0) + 1)) : Int).toNat) ++ (⟨#[40]⟩ : ByteArray)) ++ t191) ++ ((⟨#[44]⟩ : ByteArray) ++ t193)) ++ (⟨#[41]⟩ : ByteArray))) else (none)) else (none)) else (none))) else (if ((((⟨#[63, 63, 98, 109, 106, 105, 104, 110, 116, 100]⟩ : ByteArray).extract (((rd_T45 l0 a1).f0) : Int).toNat ((wrap64 (((rd_T45 l0 a1).f0) + 1)) : Int).toNat) ++ (⟨#[40]⟩ : ByteArray)) ++ t191).size + 1 ≤ 9223372036854775807 then (some (((((⟨#[63, 63, 98, 109, 106, 105, 104, 110, 116, 100]⟩ : ByteArray).extract (((rd_T45 l0 a1).f0) : Int).toNat ((wrap64 (((rd_T45 l0 a1).f0) + 1)) : Int).toNat) ++ (⟨#[40]⟩ : ByteArray)) ++ t191) ++ (⟨#[41]⟩ : ByteArray))) else (none)))) else (none))) else (none)) else (none)) else (none)) else (none))) else (none)) else (none)) = some r := h
 clear h
 by_cases c3 : 0 ≤ a1
 ·rw [if_pos c3] at H
  have c3b0 : decide (0 ≤ a1) = true := decide_eq_true c3
  clear c3
  by_cases c4 : a1 < (l0.length : Int)
  ·rw [if_pos c4] at H
   have c4b0 : decide (a1 < (l0.length : Int)) = true := decide_eq_true c4
   clear c4
   by_cases c5 : ((rd_T45 l0 a1).f0) = 1
   ·rw [if_pos c5] at H
    have c5b0 : (((rd_T45 l0 a1).f0) == 1) = true := beq_iff_eq.mpr c5
    have c5b1 : (((rd_T45 l0 a1).f0) != 1) = false := bne_eq_false_iff_eq.mpr c5
    clear c5
    obtain rfl := Option.some.inj H
    have p189 : 0 ≤ (a1 : Int) := OD
    have q189 : a1 < (l0.length : Int) := OD
    obtain ⟨ad189, e189, hx189_0, hx189_1, hx189_2, hx189_3⟩ := at_T45 HR0.out a1 p189 q189
    cases e189
    replace p189 := eq_true p189
    replace q189 := eq_true q189
    go_enter Tryd.func39, Tryd.ntmps39
    go_wp2_with (first | ((with_reducible refine gate_dst (N := 5) rfl ?_); refine box_ev (N := 5) (cs := #[.int .i64 0, .string (⟨#[]⟩ : ByteArray), .int .i64 0, .int .i64 0]) (t := 45) ?_; intro gb190 hg w6 hbox hb; have n0_ := Aside0.mk (below_step BL hb); have n1_ := Aside0.mk (hbox); have n2_ := SZ (w := w) hg; have n3_ := SZ (w := w) hg; clear HB; have HB := n0_; have BK190 := n1_; have GW190 := n2_; have GE190 := n3_; clear n0_ n1_ n2_ n3_; clear hb hbox hg; obtain ⟨hcz7_0, hcz7_1, hcz7_2, hcz7_3, hfz7_0, hfz7_1, hfz7_2, hfz7_3⟩ := cz4 BK190.out))
    go_ret
    exact ⟨by first | rfl | (simp [errW_none, errW_some] <;> rfl) | (simp [*, errW_none, errW_some] <;> rfl), BL⟩
   ·rw [if_neg c5] at H
    have c5b0 : (((rd_T45 l0 a1).f0) == 1) = false := beq_eq_false_iff_ne.mpr c5
    have c5b1 : (((rd_T45 l0 a1).f0) != 1) = true := bne_iff_ne.mpr c5
    by_cases c8 : 0 ≤ ((rd_T45 l0 a1).f0)
    ·rw [if_pos c8] at H
     have c8b0 := eq_true c8
     have c8b1 : decide (0 ≤ ((rd_T45 l0 a1).f0)) = true := decide_eq_true c8
     clear c8
     by_cases c9 : ((rd_T45 l0 a1).f0) ≤ (wrap64 (((rd_T45 l0 a1).f0) + 1))
     ·rw [if_pos c9] at H
      have c9b0 := eq_true c9
      have c9b1 : decide (((rd_T45 l0 a1).f0) ≤ (wrap64 (((rd_T45 l0 a1).f0) + 1))) = true := decide_eq_true c9
      by_cases c10 : (wrap64 (((rd_T45 l0 a1).f0) + 1)) ≤ 10
      ·rw [if_pos c10] at H
       have c10b0 := eq_true c10
       have c10b1 : decide ((wrap64 (((rd_T45 l0 a1).f0) + 1)) ≤ 10) = true := decide_eq_true c10
       by_cases c11 : ((⟨#[63, 63, 98, 109, 106, 105, 104, 110, 116, 100]⟩ : ByteArray).extract (((rd_T45 l0 a1).f0) : Int).toNat ((wrap64 (((rd_T45 l0 a1).f0) + 1)) : Int).toNat).size + 1 ≤ 9223372036854775807
       ·rw [if_pos c11] at H
        have c11b0 := eq_true c11
        have c11b1 : decide (((⟨#[63, 63, 98, 109, 106, 105, 104, 110, 116, 100]⟩ : ByteArray).extract (((rd_T45 l0 a1).f0) : Int).toNat ((wrap64 (((rd_T45 l0 a1).f0) + 1)) : Int).toNat).size + 1 ≤ 9223372036854775807) = true := decide_eq_true c11
        have c11z : (9223372036854775807 < (wrap64 ((rd_T45 l0 a1).f0 + 1)).toNat - ((rd_T45 l0 a1).f0).toNat + 1) = False := eq_false (by have hz_ : wrap64 ((rd_T45 l0 a1).f0 + 1) ≤ 10 := OD; have hs_ : ((⟨#[63, 63, 98, 109, 106, 105, 104, 110, 116, 100]⟩ : ByteArray).extract (((rd_T45 l0 a1).f0) : Int).toNat ((wrap64 (((rd_T45 l0 a1).f0) + 1)) : Int).toNat).size = (wrap64 ((rd_T45 l0 a1).f0 + 1)).toNat - ((rd_T45 l0 a1).f0).toNat := (by rw [ByteArray.size_extract]; show min _ 10 - _ = _; omega); have h_ := of_decide_eq_true c11b1; have e1_ : (⟨#[40]⟩ : ByteArray).size = 1 := rfl; have e2_ : (⟨#[44]⟩ : ByteArray).size = 1 := rfl; simp only [ByteArray.size_append, hs_] at h_; omega)
        try have c11b2 : (9223372036854775807 < ((⟨#[63, 63, 98, 109, 106, 105, 104, 110, 116, 100]⟩ : ByteArray).extract (((rd_T45 l0 a1).f0) : Int).toNat ((wrap64 (((rd_T45 l0 a1).f0) + 1)) : Int).toNat).size + 1) = False := eq_false (Nat.not_lt.2 c11)
        replace H := Option.bind_eq_some_iff.mp H
        obtain ⟨t191, A120, H⟩ := H
        replace H : (if (((⟨#[63, 63, 98, 109, 106, 105, 104, 110, 116, 100]⟩ : ByteArray).extract (((rd_T45 l0 a1).f0) : Int).toNat ((wrap64 (((rd_T45 l0 a1).f0) + 1)) : Int).toNat) ++ (⟨#[40]⟩ : ByteArray)).size + t191.size ≤ 9223372036854775807 then ((impl_isPair.f ((rd_T45 l0 a1).f0)).bind fun t192 => (if t192 = true then ((impl_playText.f k l0 ((rd_T45 l0 a1).f3)).bind fun t193 => (if 1 + t193.size ≤ 9223372036854775807 then (if ((((⟨#[63, 63, 98, 109, 106, 105, 104, 110, 116, 100]⟩ : ByteArray).extract (((rd_T45 l0 a1).f0) : Int).toNat ((wrap64 (((rd_T45 l0 a1).f0) + 1)) : Int).toNat) ++ (⟨#[40]⟩ : ByteArray)) ++ t191).size + ((⟨#[44]⟩ : ByteArray) ++ t193).size ≤ 9223372036854775807 then (if (((((⟨#[63, 63, 98, 109, 106, 105, 104, 110, 116, 100]⟩ : ByteArray).extract (((rd_T45 l0 a1).f0) : Int).toNat ((wrap64 (((rd_T45 l0 a1).f0) + 1)) : Int).toNat) ++ (⟨#[40]⟩ : ByteArray)) ++ t191) ++ ((⟨#[44]⟩ : ByteArray) ++ t193)).size + 1 ≤ 9223372036854775807 then (some ((((((⟨#[63, 63, 98, 109, 106, 105, 104, 110, 116, 100]⟩ : ByteArray).extract (((rd_T45 l0 a1).f0) : Int).toNat ((wrap64 (((rd_T45 l0 a1).f0) + 1)) : Int).toNat) ++ (⟨#[40]⟩ : ByteArray)) ++ t191) ++ ((⟨#[44]⟩ : ByteArray) ++ t193)) ++ (⟨#[41]⟩ : ByteArray))) else (none)) else (none)) else (none))) else (if ((((⟨#[63, 63, 98, 109, 106, 105, 104, 110, 116, 100]⟩ : ByteArray).extract (((rd_T45 l0 a1).f0) : Int).toNat ((wrap64 (((rd_T45 l0 a1).f0) + 1)) : Int).toNat) ++ (⟨#[40]⟩ : ByteArray)) ++ t191).size + 1 ≤ 9223372036854775807 then (some (((((⟨#[63, 63, 98, 109, 106, 105, 104, 110, 116, 100]⟩ : ByteArray).extract (((rd_T45 l0 a1).f0) : Int).toNat ((wrap64 (((rd_T45 l0 a1).f0) + 1)) : Int).toNat) ++ (⟨#[40]⟩ : ByteArray)) ++ t191) ++ (⟨#[41]⟩ : ByteArray))) else (none)))) else (none)) = some r := H
        have A12 := Aside0.mk A120
        clear A120
        by_cases c13 : (((⟨#[63, 63, 98, 109, 106, 105, 104, 110, 116, 100]⟩ : ByteArray).extract (((rd_T45 l0 a1).f0) : Int).toNat ((wrap64 (((rd_T45 l0 a1).f0) + 1)) : Int).toNat) ++ (⟨#[40]⟩ : ByteArray)).size + t191.size ≤ 9223372036854775807
        ·rw [if_pos c13] at H
         have c13b0 := eq_true c13
         have c13b1 : decide ((((⟨#[63, 63, 98, 109, 106, 105, 104, 110, 116, 100]⟩ : ByteArray).extract (((rd_T45 l0 a1).f0) : Int).toNat ((wrap64 (((rd_T45 l0 a1).f0) + 1)) : Int).toNat) ++ (⟨#[40]⟩ : ByteArray)).size + t191.size ≤ 9223372036854775807) = true := decide_eq_true c13
         have c13z : (9223372036854775807 < (wrap64 ((rd_T45 l0 a1).f0 + 1)).toNat - ((rd_T45 l0 a1).f0).toNat + 1 + t191.size) = False := eq_false (by have hz_ : wrap64 ((rd_T45 l0 a1).f0 + 1) ≤ 10 := OD; have hs_ : ((⟨#[63, 63, 98, 109, 106, 105, 104, 110, 116, 100]⟩ : ByteArray).extract (((rd_T45 l0 a1).f0) : Int).toNat ((wrap64 (((rd_T45 l0 a1).f0) + 1)) : Int).toNat).size = (wrap64 ((rd_T45 l0 a1).f0 + 1)).toNat - ((rd_T45 l0 a1).f0).toNat := (by rw [ByteArray.size_extract]; show min _ 10 - _ = _; omega); have h_ := of_decide_eq_true c13b1; have e1_ : (⟨#[40]⟩ : ByteArray).size = 1 := rfl; have e2_ : (⟨#[44]⟩ : ByteArray).size = 1 := rfl; simp only [ByteArray.size_append, hs_] at h_; omega)
         try have c13b2 : (9223372036854775807 < (((⟨#[63, 63, 98, 109, 106, 105, 104, 110, 116, 100]⟩ : ByteArray).extract (((rd_T45 l0 a1).f0) : Int).toNat ((wrap64 (((rd_T45 l0 a1).f0) + 1)) : Int).toNat) ++ (⟨#[40]⟩ : ByteArray)).size + t191.size) = False := eq_false (Nat.not_lt.2 c13)
         replace H := Option.bind_eq_some_iff.mp H
         obtain ⟨t192, A140, H⟩ := H
         replace H : (if t192 = true then ((impl_playText.f k l0 ((rd_T45 l0 a1).f3)).bind fun t193 => (if 1 + t193.size ≤ 9223372036854775807 then (if ((((⟨#[63, 63, 98, 109, 106, 105, 104, 110, 116, 100]⟩ : ByteArray).extract (((rd_T45 l0 a1).f0) : Int).toNat ((wrap64 (((rd_T45 l0 a1).f0) + 1)) : Int).toNat) ++ (⟨#[40]⟩ : ByteArray)) ++ t191).size + ((⟨#[44]⟩ : ByteArray) ++ t193).size ≤ 9223372036854775807 then (if (((((⟨#[63, 63, 98, 109, 106, 105, 104, 110, 116, 100]⟩ : ByteArray).extract (((rd_T45 l0 a1).f0) : Int).toNat ((wrap64 (((rd_T45 l0 a1).f0) + 1)) : Int).toNat) ++ (⟨#[40]⟩ : ByteArray)) ++ t191) ++ ((⟨#[44]⟩ : ByteArray) ++ t193)).size + 1 ≤ 9223372036854775807 then (some ((((((⟨#[63, 63, 98, 109, 106, 105, 104, 110, 116, 100]⟩ : ByteArray).extract (((rd_T45 l0 a1).f0) : Int).toNat ((wrap64 (((rd_T45 l0 a1).f0) + 1)) : Int).toNat) ++ (⟨#[40]⟩ : ByteArray)) ++ t191) ++ ((⟨#[44]⟩ : ByteArray) ++ t193)) ++ (⟨#[41]⟩ : ByteArray))) else (none)) else (none)) else (none))) else (if ((((⟨#[63, 63, 98, 109, 106, 105, 104, 110, 116, 100]⟩ : ByteArray).extract (((rd_T45 l0 a1).f0) : Int).toNat ((wrap64 (((rd_T45 l0 a1).f0) + 1)) : Int).toNat) ++ (⟨#[40]⟩ : ByteArray)) ++ t191).size + 1 ≤ 9223372036854775807 then (some (((((⟨#[63, 63, 98, 109, 106, 105, 104, 110, 116, 100]⟩ : ByteArray).extract (((rd_T45 l0 a1).f0) : Int).toNat ((wrap64 (((rd_T45 l0 a1).f0) + 1)) : Int).toNat) ++ (⟨#[40]⟩ : ByteArray)) ++ t191) ++ (⟨#[41]⟩ : ByteArray))) else (none))) = some r := H
         have A14 := Aside0.mk A140
         clear A140
         by_cases c15 : t192 = true
         ·subst c15
          have H1 : ((impl_playText.f k l0 ((rd_T45 l0 a1).f3)).bind fun t193 => (if 1 + t193.size ≤ 9223372036854775807 then (if ((((⟨#[63, 63, 98, 109, 106, 105, 104, 110, 116, 100]⟩ : ByteArray).extract (((rd_T45 l0 a1).f0) : Int).toNat ((wrap64 (((rd_T45 l0 a1).f0) + 1)) : Int).toNat) ++ (⟨#[40]⟩ : ByteArray)) ++ t191).size + ((⟨#[44]⟩ : ByteArray) ++ t193).size ≤ 9223372036854775807 then (if (((((⟨#[63, 63, 98, 109, 106, 105, 104, 110, 116, 100]⟩ : ByteArray).extract (((rd_T45 l0 a1).f0) : Int).toNat ((wrap64 (((rd_T45 l0 a1).f0) + 1)) : Int).toNat) ++ (⟨#[40]⟩ : ByteArray)) ++ t191) ++ ((⟨#[44]⟩ : ByteArray) ++ t193)).size + 1 ≤ 9223372036854775807 then (some ((((((⟨#[63, 63, 98, 109, 106, 105, 104, 110, 116, 100]⟩ : ByteArray).extract (((rd_T45 l0 a1).f0) : Int).toNat ((wrap64 (((rd_T45 l0 a1).f0) + 1)) : Int).toNat) ++ (⟨#[40]⟩ : ByteArray)) ++ t191) ++ ((⟨#[44]⟩ : ByteArray) ++ t193)) ++ (⟨#[41]⟩ : ByteArray))) else (none)) else (none)) else (none))) = some r := by rw [if_pos rfl] at H; exact H
          clear H
          have H := H1
          clear H1
          replace H := Option.bind_eq_some_iff.mp H
          obtain ⟨t193, A160, H⟩ := H
          replace H : (if 1 + t193.size ≤ 9223372036854775807 then (if ((((⟨#[63, 63, 98, 109, 106, 105, 104, 110, 116, 100]⟩ : ByteArray).extract (((rd_T45 l0 a1).f0) : Int).toNat ((wrap64 (((rd_T45 l0 a1).f0) + 1)) : Int).toNat) ++ (⟨#[40]⟩ : ByteArray)) ++ t191).size + ((⟨#[44]⟩ : ByteArray) ++ t193).size ≤ 9223372036854775807 then (if (((((⟨#[63, 63, 98, 109, 106, 105, 104, 110, 116, 100]⟩ : ByteArray).extract (((rd_T45 l0 a1).f0) : Int).toNat ((wrap64 (((rd_T45 l0 a1).f0) + 1)) : Int).toNat) ++ (⟨#[40]⟩ : ByteArray)) ++ t191) ++ ((⟨#[44]⟩ : ByteArray) ++ t193)).size + 1 ≤ 9223372036854775807 then (some ((((((⟨#[63, 63, 98, 109, 106, 105, 104, 110, 116, 100]⟩ : ByteArray).extract (((rd_T45 l0 a1).f0) : Int).toNat ((wrap64 (((rd_T45 l0 a1).f0) + 1)) : Int).toNat) ++ (⟨#[40]⟩ : ByteArray)) ++ t191) ++ ((⟨#[44]⟩ : ByteArray) ++ t193)) ++ (⟨#[41]⟩ : ByteArray))) else (none)) else (none)) else (none)) = some r := H
          have A16 := Aside0.mk A160
          clear A160
          by_cases c17 : 1 + t193.size ≤ 9223372036854775807
          ·rw [if_pos c17] at H
           have c17b0 := eq_true c17
           have c17b1 : decide (1 + t193.size ≤ 9223372036854775807) = true := decide_eq_true c17
           try have c17b2 : (9223372036854775807 < 1 + t193.size) = False := eq_false (Nat.not_lt.2 c17)
           by_cases c18 : ((((⟨#[63, 63, 98, 109, 106, 105, 104, 110, 116, 100]⟩ : ByteArray).extract (((rd_T45 l0 a1).f0) : Int).toNat ((wrap64 (((rd_T45 l0 a1).f0) + 1)) : Int).toNat) ++ (⟨#[40]⟩ : ByteArray)) ++ t191).size + ((⟨#[44]⟩ : ByteArray) ++ t193).size ≤ 9223372036854775807
           ·rw [if_pos c18] at H
            have c18b0 := eq_true c18
            have c18b1 : decide (((((⟨#[63, 63, 98, 109, 106, 105, 104, 110, 116, 100]⟩ : ByteArray).extract (((rd_T45 l0 a1).f0) : Int).toNat ((wrap64 (((rd_T45 l0 a1).f0) + 1)) : Int).toNat) ++ (⟨#[40]⟩ : ByteArray)) ++ t191).size + ((⟨#[44]⟩ : ByteArray) ++ t193).size ≤ 9223372036854775807) = true := decide_eq_true c18
            have c18z : (9223372036854775807 < (wrap64 ((rd_T45 l0 a1).f0 + 1)).toNat - ((rd_T45 l0 a1).f0).toNat + 1 + t191.size + (1 + t193.size)) = False := eq_false (by have hz_ : wrap64 ((rd_T45 l0 a1).f0 + 1) ≤ 10 := OD; have hs_ : ((⟨#[63, 63, 98, 109, 106, 105, 104, 110, 116, 100]⟩ : ByteArray).extract (((rd_T45 l0 a1).f0) : Int).toNat ((wrap64 (((rd_T45 l0 a1).f0) + 1)) : Int).toNat).size = (wrap64 ((rd_T45 l0 a1).f0 + 1)).toNat - ((rd_T45 l0 a1).f0).toNat := (by rw [ByteArray.size_extract]; show min _ 10 - _ = _; omega); have h_ := of_decide_eq_true c18b1; have e1_ : (⟨#[40]⟩ : ByteArray).size = 1 := rfl; have e2_ : (⟨#[44]⟩ : ByteArray).size = 1 := rfl; simp only [ByteArray.size_append, hs_] at h_; omega)
            try have c18b2 : (9223372036854775807 < ((((⟨#[63, 63, 98, 109, 106, 105, 104, 110, 116, 100]⟩ : ByteArray).extract (((rd_T45 l0 a1).f0) : Int).toNat ((wrap64 (((rd_T45 l0 a1).f0) + 1)) : Int).toNat) ++ (⟨#[40]⟩ : ByteArray)) ++ t191).size + ((⟨#[44]⟩ : ByteArray) ++ t193).size) = False := eq_false (Nat.not_lt.2 c18)
            by_cases c19 : (((((⟨#[63, 63, 98, 109, 106, 105, 104, 110, 116, 100]⟩ : ByteArray).extract (((rd_T45 l0 a1).f0) : Int).toNat ((wrap64 (((rd_T45 l0 a1).f0) + 1)) : Int).toNat) ++ (⟨#[40]⟩ : ByteArray)) ++ t191) ++ ((⟨#[44]⟩ : ByteArray) ++ t193)).size + 1 ≤ 9223372036854775807
            ·rw [if_pos c19] at H
             have c19b0 := eq_true c19
             have c19b1 : decide ((((((⟨#[63, 63, 98, 109, 106, 105, 104, 110, 116, 100]⟩ : ByteArray).extract (((rd_T45 l0 a1).f0) : Int).toNat ((wrap64 (((rd_T45 l0 a1).f0) + 1)) : Int).toNat) ++ (⟨#[40]⟩ : ByteArray)) ++ t191) ++ ((⟨#[44]⟩ : ByteArray) ++ t193)).size + 1 ≤ 9223372036854775807) = true := decide_eq_true c19
             have c19z : (9223372036854775807 < (wrap64 ((rd_T45 l0 a1).f0 + 1)).toNat - ((rd_T45 l0 a1).f0).toNat + 1 + t191.size + (1 + t193.size) + 1) = False := eq_false (by have hz_ : wrap64 ((rd_T45 l0 a1).f0 + 1) ≤ 10 := OD; have hs_ : ((⟨#[63, 63, 98, 109, 106, 105, 104, 110, 116, 100]⟩ : ByteArray).extract (((rd_T45 l0 a1).f0) : Int).toNat ((wrap64 (((rd_T45 l0 a1).f0) + 1)) : Int).toNat).size = (wrap64 ((rd_T45 l0 a1).f0 + 1)).toNat - ((rd_T45 l0 a1).f0).toNat := (by rw [ByteArray.size_extract]; show min _ 10 - _ = _; omega); have h_ := of_decide_eq_true c19b1; have e1_ : (⟨#[40]⟩ : ByteArray).size = 1 := rfl; have e2_ : (⟨#[44]⟩ : ByteArray).size = 1 := rfl; simp only [ByteArray.size_append, hs_] at h_; omega)
             try have c19b2 : (9223372036854775807 < (((((⟨#[63, 63, 98, 109, 106, 105, 104, 110, 116, 100]⟩ : ByteArray).extract (((rd_T45 l0 a1).f0) : Int).toNat ((wrap64 (((rd_T45 l0 a1).f0) + 1)) : Int).toNat) ++ (⟨#[40]⟩ : ByteArray)) ++ t191) ++ ((⟨#[44]⟩ : ByteArray) ++ t193)).size + 1) = False := eq_false (Nat.not_lt.2 c19)
             obtain rfl := Option.some.inj H
             have p189 : 0 ≤ (a1 : Int) := OD
             have q189 : a1 < (l0.length : Int) := OD
             obtain ⟨ad189, e189, hx189_0, hx189_1, hx189_2, hx189_3⟩ := at_T45 HR0.out a1 p189 q189
             cases e189
             replace p189 := eq_true p189
             replace q189 := eq_true q189
             go_enter Tryd.func39, Tryd.ntmps39
             try go_wp2_with (first | ((with_reducible refine gate_dst (N := 5) rfl ?_); refine box_ev (N := 5) (cs := #[.int .i64 0, .string (⟨#[]⟩ : ByteArray), .int .i64 0, .int .i64 0]) (t := 45) ?_; intro gb190 hg w20 hbox hb; have n0_ := Aside0.mk (below_step BL hb); have n1_ := Aside0.mk (hbox); have n2_ := SZ (w := w) hg; have n3_ := SZ (w := w) hg; clear HB; have HB := n0_; have BK190 := n1_; have GW190 := n2_; have GE190 := n3_; clear n0_ n1_ n2_ n3_; clear hb hbox hg; obtain ⟨hcz21_0, hcz21_1, hcz21_2, hcz21_3, hfz21_0, hfz21_1, hfz21_2, hfz21_3⟩ := cz4 BK190.out))
             have n0_ : Aside0 (((((w20.setCell ⟨gb190, 0, none⟩ (.int .i64 ((rd_T45 l0 a1).f0))).setCell ⟨gb190, 1, none⟩ (.string ((rd_T45 l0 a1).f1))).setCell ⟨gb190, 2, none⟩ (.int .i64 ((rd_T45 l0 a1).f2))).setCell ⟨gb190, 3, none⟩ (.int .i64 ((rd_T45 l0 a1).f3))).heap[gb190]? = some (.cells #[.int .i64 ((rd_T45 l0 a1).f0), .string ((rd_T45 l0 a1).f1), .int .i64 ((rd_T45 l0 a1).f2), .int .i64 ((rd_T45 l0 a1).f3)] 45 (0, 0))) := ⟨by (with_reducible repeat (first | refine blk_drewN ?_ _ | refine blk_drew ?_ | refine blk_alloc ?_ _)); refine blk_put (cs := #[.int .i64 ((rd_T45 l0 a1).f0), .string ((rd_T45 l0 a1).f1), .int .i64 ((rd_T45 l0 a1).f2), .int .i64 0]) ?_ 3 _ rfl; (with_reducible repeat (first | refine blk_drewN ?_ _ | refine blk_drew ?_ | refine blk_alloc ?_ _)); refine blk_put (cs := #[.int .i64 ((rd_T45 l0 a1).f0), .string ((rd_T45 l0 a1).f1), .int .i64 0, .int .i64 0]) ?_ 2 _ rfl; (with_reducible repeat (first | refine blk_drewN ?_ _ | refine blk_drew ?_ | refine blk_alloc ?_ _)); refine blk_put (cs := #[.int .i64 ((rd_T45 l0 a1).f0), .string (⟨#[]⟩ : ByteArray), .int .i64 0, .int .i64 0]) ?_ 1 _ rfl; (with_reducible repeat (first | refine blk_drewN ?_ _ | refine blk_drew ?_ | refine blk_alloc ?_ _)); refine blk_put (cs := #[.int .i64 0, .string (⟨#[]⟩ : ByteArray), .int .i64 0, .int .i64 0]) ?_ 0 _ rfl; (with_reducible repeat (first | refine blk_drewN ?_ _ | refine blk_drew ?_ | refine blk_alloc ?_ _)); exact BK190.out⟩
             have n1_ : Aside0 (Below w.heap.size w ((((w20.setCell ⟨gb190, 0, none⟩ (.int .i64 ((rd_T45 l0 a1).f0))).setCell ⟨gb190, 1, none⟩ (.string ((rd_T45 l0 a1).f1))).setCell ⟨gb190, 2, none⟩ (.int .i64 ((rd_T45 l0 a1).f2))).setCell ⟨gb190, 3, none⟩ (.int .i64 ((rd_T45 l0 a1).f3)))) := ⟨BL⟩
             (try clear BK190)
             (try clear HB)
             generalize ((((w20.setCell ⟨gb190, 0, none⟩ (.int .i64 ((rd_T45 l0 a1).f0))).setCell ⟨gb190, 1, none⟩ (.string ((rd_T45 l0 a1).f1))).setCell ⟨gb190, 2, none⟩ (.int .i64 ((rd_T45 l0 a1).f2))).setCell ⟨gb190, 3, none⟩ (.int .i64 ((rd_T45 l0 a1).f3))) = w22 at n0_ n1_ ⊢
             have BK190 := n0_
             have HB := n1_
             clear n0_ n1_
             have n0_ := Aside0.mk (blk_drew BK190.out)
             have n1_ := Aside0.mk (below_drew1 HB.out)
             clear BK190
             clear HB
             have BK190 := n0_
             have HB := n1_
             clear n0_ n1_
             refine start_ (n := 13) (S := fun w' => w'.cell? ⟨gb190, 0, none⟩ = some (.int .i64 ((rd_T45 l0 a1).f0)) ∧ w'.cell? ⟨gb190, 1, none⟩ = some (.string ((rd_T45 l0 a1).f1)) ∧ w'.cell? ⟨gb190, 2, none⟩ = some (.int .i64 ((rd_T45 l0 a1).f2)) ∧ w'.cell? ⟨gb190, 3, none⟩ = some (.int .i64 ((rd_T45 l0 a1).f3))) (ds := []) #[false, false, false, false, false, false, false, false, false, false, false, false, false] (by kernel_rfl) rfl rfl ⟨(blk_cell BK190.out 0).trans rfl, (blk_cell BK190.out 1).trans rfl, (blk_cell BK190.out 2).trans rfl, (blk_cell BK190.out 3).trans rfl⟩ (fun hHeld => ?_); refine with_tabW impl_playText.tab4 impl_playText.bits4 (fun HT_ HW_ => ?_)
             generalize w22.drew = w23 at BK190 HB hHeld ⊢
             refine pure_ (i := 0) (N := some 16) (v := ?_) (a' := ?_) #[true, false, false, false, false, false, false, false, false, false, false, false, false] rfl rfl (any_of HT_.out (by kernel_rfl)) (fun _ _ _ h => h) (Or.inl ⟨by rfl, ?_⟩) ?_ ?_
             rotate_left
             ·intro w'
              go_simp
              with_reducible rfl
             rotate_left
             ·simp only [Act.put, List.setIfInBounds_toArray, List.set_cons_zero, List.set_cons_succ, i64_w, i32_w]
              rfl
             refine pure_ (i := 2) (N := some 18) (v := ?_) (a' := ?_) #[true, false, true, false, false, false, false, false, false, false, false, false, false] rfl rfl (any_of HT_.out (by kernel_rfl)) (fun _ _ _ h => h) (Or.inl ⟨by rfl, ?_⟩) ?_ ?_
             rotate_left
             ·intro w'
              go_simp
              with_reducible rfl
             rotate_left
             ·simp only [Act.put, List.setIfInBounds_toArray, List.set_cons_zero, List.set_cons_succ, i64_w, i32_w]
              rfl
             refine pure_ (i := 7) (N := some 23) (v := ?_) (a' := ?_) #[true, false, true, false, false, false, false, true, false, false, false, false, false] rfl rfl (any_of HT_.out (by kernel_rfl)) (fun _ _ _ h => h) (Or.inl ⟨by rfl, ?_⟩) ?_ ?_
             rotate_left
             ·intro w'
              go_simp
              with_reducible rfl
             rotate_left
             ·simp only [Act.put, List.setIfInBounds_toArray, List.set_cons_zero, List.set_cons_succ, i64_w, i32_w]
              rfl
             refine pure_ (i := 8) (N := some 24) (v := ?_) (a' := ?_) #[true, false, true, false, false, false, false, true, true, false, false, false, false] rfl rfl (any_of HT_.out (by kernel_rfl)) (fun _ _ _ h => h) (Or.inl ⟨by rfl, ?_⟩) ?_ ?_
             rotate_left
             ·intro w'
              go_simp
              with_reducible rfl
             rotate_left
             ·simp only [Act.put, List.setIfInBounds_toArray, List.set_cons_zero, List.set_cons_succ, i64_w, i32_w]
              rfl
             refine take_ (i := 1) (N := some 17) (v := ?_) (a' := ?_) #[true, true, true, false, false, false, false, true, true, false, false, false, false] rfl rfl (take_ofW HT_.out HW_.out (by kernel_rfl)) (fun _ _ _ h => h) (Or.inl ⟨by rfl, ?_⟩) hHeld ?_ ?_
             rotate_left
             ·rintro w' ⟨s0, s1, s2, s3⟩
              go_simp
              with_reducible rfl
             rotate_left
             ·simp only [Act.put, List.setIfInBounds_toArray, List.set_cons_zero, List.set_cons_succ, i64_w, i32_w]
              rfl
             refine take_ (i := 3) (N := some 19) (v := ?_) (a' := ?_) #[true, true, true, true, false, false, false, true, true, false, false, false, false] rfl rfl (take_ofW HT_.out HW_.out (by kernel_rfl)) (fun _ _ _ h => h) (Or.inl ⟨by rfl, ?_⟩) hHeld ?_ ?_
             rotate_left
             ·rintro w' ⟨s0, s1, s2, s3⟩
              go_simp
              with_reducible rfl
             rotate_left
             ·simp only [Act.put, List.setIfInBounds_toArray, List.set_cons_zero, List.set_cons_succ, i64_w, i32_w]
              rfl
             refine pure_ (i := 4) (N := some 20) (v := ?_) (a' := ?_) #[true, true, true, true, true, false, false, true, true, false, false, false, false] rfl rfl (any_of HT_.out (by kernel_rfl)) (fun _ _ _ h => h) (Or.inl ⟨by rfl, ?_⟩) ?_ ?_
             rotate_left
             ·intro w'
              go_simp
              with_reducible rfl
             rotate_left
             ·simp only [Act.put, List.setIfInBounds_toArray, List.set_cons_zero, List.set_cons_succ, i64_w, i32_w]
              rfl
             refine pure_ (i := 5) (N := some 21) (v := ?_) (a' := ?_) #[true, true, true, true, true, true, false, true, true, false, false, false, false] rfl rfl (any_of HT_.out (by kernel_rfl)) (fun _ _ _ h => h) (Or.inl ⟨by rfl, ?_⟩) ?_ ?_
             rotate_left
             ·intro w'
              go_simp
              with_reducible rfl
             rotate_left
             ·simp only [Act.put, List.setIfInBounds_toArray, List.set_cons_zero, List.set_cons_succ, i64_w, i32_w]
              rfl
             refine pure_ (i := 6) (N := some 22) (v := ?_) (a' := ?_) #[true, true, true, true, true, true, true, true, true, false, false, false, false] rfl rfl (any_of HT_.out (by kernel_rfl)) (fun _ _ _ h => h) (Or.inl ⟨by rfl, ?_⟩) ?_ ?_
             rotate_left
             ·intro w'
              go_simp
              with_reducible rfl
             rotate_left
             ·simp only [Act.put, List.setIfInBounds_toArray, List.set_cons_zero, List.set_cons_succ, i64_w, i32_w]
              rfl
             refine take_ (i := 9) (N := some 25) (v := ?_) (a' := ?_) #[true, true, true, true, true, true, true, true, true, true, false, false, false] rfl rfl (take_ofW HT_.out HW_.out (by kernel_rfl)) (fun _ _ _ h => h) (Or.inl ⟨by rfl, ?_⟩) hHeld ?_ ?_
             rotate_left
             ·rintro w' ⟨s0, s1, s2, s3⟩
              go_simp
              with_reducible rfl
             rotate_left
             ·simp only [Act.put, List.setIfInBounds_toArray, List.set_cons_zero, List.set_cons_succ, i64_w, i32_w]
              rfl
             refine one_ (i := 10) (N := some 26) #[true, true, true, true, true, true, true, true, true, true, true, false, false] rfl rfl (one_of HT_.out (by kernel_rfl)) (by decide) (fun K hK => ?_)
             refine goes_ Tryd.func39 (by kernel_rfl) rfl #[.slice (some ad189) l0.length c0, .int .i64 ((rd_T45 l0 a1).f2)] (by rfl) rfl rfl (by (try simp only [List.map_toArray, List.map_cons, List.map_nil]); first | done | rfl | (simp only [List.length_drop, List.length_take]; rfl)) ?_
             with_reducible refine (ih k (by omega) _ _ l0 ((rd_T45 l0 a1).f2) t191 _ ?side1 ?side2 A12.out).mono ?_
             (case side1 => exact CB HR0)
             (case side2 => exact HC0.out)
             rintro e w24 ⟨rfl, hb⟩
             refine ⟨_, rfl, ?_⟩
             have n0_ := KB BK190 hb
             have n1_ := Aside0.mk (below_step BL hb)
             clear BK190
             clear HB
             have BK190 := n0_
             have HB := n1_
             clear n0_ n1_
             (try clear hb)
             (try clear hb2)
             (try clear hk)
             (try clear hi)
             refine hK.out _ _ ⟨(blk_cell BK190.out 0).trans rfl, (blk_cell BK190.out 1).trans rfl, (blk_cell BK190.out 2).trans rfl, (blk_cell BK190.out 3).trans rfl⟩ (fun hHeld => ?_)
             clear hK K
             refine norm_ (a' := ?_) ?_ ?_
             rotate_left
             ·show Act.put _ (some 26) _ = _
              simp only [Act.put, List.setIfInBounds_toArray, List.set_cons_zero, List.set_cons_succ, i64_w, i32_w]
              rfl
             refine pure_ (i := 11) (N := some 27) (v := ?_) (a' := ?_) #[true, true, true, true, true, true, true, true, true, true, true, true, false] rfl rfl (any_of HT_.out (by kernel_rfl)) (fun _ _ _ h => h) (Or.inl ⟨by rfl, ?_⟩) ?_ ?_
             rotate_left
             ·intro w'
              go_simp
              with_reducible rfl
             rotate_left
             ·simp only [Act.put, List.setIfInBounds_toArray, List.set_cons_zero, List.set_cons_succ, i64_w, i32_w]
              rfl
             refine pure_ (i := 12) (N := some 6) (v := ?_) (a' := ?_) #[true, true, true, true, true, true, true, true, true, true, true, true, true] rfl rfl (any_of HT_.out (by kernel_rfl)) (fun _ _ _ h => h) (Or.inl ⟨by rfl, ?_⟩) ?_ ?_
             rotate_left
             ·intro w'
              go_simp
              with_reducible rfl
             rotate_left
             ·simp only [Act.put, List.setIfInBounds_toArray, List.set_cons_zero, List.set_cons_succ, i64_w, i32_w]
              rfl
             refine done_ (done_of HT_.out (by kernel_rfl)) ?_
             obtain ⟨hcz25_0, hcz25_1, hcz25_2, hcz25_3, hfz25_0, hfz25_1, hfz25_2, hfz25_3⟩ := cz4 BK190.out
             try go_wp2_with (first | ((with_reducible refine gate_callee (f := 47) rfl ?_); refine goesS (some 30) Tryd.func47 #[.int .i64 ((rd_T45 l0 a1).f0)] ?_; (with_reducible refine (impl_isPair.calls ((rd_T45 l0 a1).f0) true _ A14.out).mono ?_); rintro e w' ⟨rfl, ⟨nd, rfl⟩⟩; refine ⟨_, rfl, ?_⟩) | ((with_reducible refine gate_callee (f := 39) rfl ?_); refine goesS (some 35) Tryd.func39 #[.slice (some ad189) l0.length c0, .int .i64 ((rd_T45 l0 a1).f3)] ?_; (with_reducible refine (ih k (by omega) _ _ l0 ((rd_T45 l0 a1).f3) t193 _ ?side1 ?side2 A16.out).mono ?_); (case side1 => repeat (first | exact (Kd.C_below HR0.out BL) | (with_reducible refine Kd.C_alloc ?_ _) | (with_reducible refine Kd.C_drewN ?_ _) | (with_reducible refine Kd.C_drew ?_))); (case side2 => exact HC0.out); rintro e w26 ⟨rfl, hb⟩; refine ⟨_, rfl, ?_⟩; have n0_ := KB BK190 hb; have n1_ := Aside0.mk (below_step BL hb); clear BK190 HB; have BK190 := n0_; have HB := n1_; clear n0_ n1_; (try clear hb)))
             go_ret
             exact ⟨by first | rfl | (simp [errW_none, errW_some] <;> rfl) | (simp [*, errW_none, errW_some] <;> rfl), BL⟩
            ·rw [if_neg c19] at H
             exact absurd H (by simp)
           ·rw [if_neg c18] at H
            exact absurd H (by simp)
          ·rw [if_neg c17] at H
           exact absurd H (by simp)
         ·replace c15 := Bool.eq_false_iff.mpr c15
          subst c15
          have H1 : (if ((((⟨#[63, 63, 98, 109, 106, 105, 104, 110, 116, 100]⟩ : ByteArray).extract (((rd_T45 l0 a1).f0) : Int).toNat ((wrap64 (((rd_T45 l0 a1).f0) + 1)) : Int).toNat) ++ (⟨#[40]⟩ : ByteArray)) ++ t191).size + 1 ≤ 9223372036854775807 then (some (((((⟨#[63, 63, 98, 109, 106, 105, 104, 110, 116, 100]⟩ : ByteArray).extract (((rd_T45 l0 a1).f0) : Int).toNat ((wrap64 (((rd_T45 l0 a1).f0) + 1)) : Int).toNat) ++ (⟨#[40]⟩ : ByteArray)) ++ t191) ++ (⟨#[41]⟩ : ByteArray))) else (none)) = some r := by rw [if_neg (show ¬ (false = true) by decide)] at H; exact H
          clear H
          have H := H1
          clear H1
          by_cases c27 : ((((⟨#[63, 63, 98, 109, 106, 105, 104, 110, 116, 100]⟩ : ByteArray).extract (((rd_T45 l0 a1).f0) : Int).toNat ((wrap64 (((rd_T45 l0 a1).f0) + 1)) : Int).toNat) ++ (⟨#[40]⟩ : ByteArray)) ++ t191).size + 1 ≤ 9223372036854775807
          ·rw [if_pos c27] at H
           have c27b0 := eq_true c27
           have c27b1 : decide (((((⟨#[63, 63, 98, 109, 106, 105, 104, 110, 116, 100]⟩ : ByteArray).extract (((rd_T45 l0 a1).f0) : Int).toNat ((wrap64 (((rd_T45 l0 a1).f0) + 1)) : Int).toNat) ++ (⟨#[40]⟩ : ByteArray)) ++ t191).size + 1 ≤ 9223372036854775807) = true := decide_eq_true c27
           have c27z : (9223372036854775807 < (wrap64 ((rd_T45 l0 a1).f0 + 1)).toNat - ((rd_T45 l0 a1).f0).toNat + 1 + t191.size + 1) = False := eq_false (by have hz_ : wrap64 ((rd_T45 l0 a1).f0 + 1) ≤ 10 := OD; have hs_ : ((⟨#[63, 63, 98, 109, 106, 105, 104, 110, 116, 100]⟩ : ByteArray).extract (((rd_T45 l0 a1).f0) : Int).toNat ((wrap64 (((rd_T45 l0 a1).f0) + 1)) : Int).toNat).size = (wrap64 ((rd_T45 l0 a1).f0 + 1)).toNat - ((rd_T45 l0 a1).f0).toNat := (by rw [ByteArray.size_extract]; show min _ 10 - _ = _; omega); have h_ := of_decide_eq_true c27b1; have e1_ : (⟨#[40]⟩ : ByteArray).size = 1 := rfl; have e2_ : (⟨#[44]⟩ : ByteArray).size = 1 := rfl; simp only [ByteArray.size_append, hs_] at h_; omega)
           try have c27b2 : (9223372036854775807 < ((((⟨#[63, 63, 98, 109, 106, 105, 104, 110, 116, 100]⟩ : ByteArray).extract (((rd_T45 l0 a1).f0) : Int).toNat ((wrap64 (((rd_T45 l0 a1).f0) + 1)) : Int).toNat) ++ (⟨#[40]⟩ : ByteArray)) ++ t191).size + 1) = False := eq_false (Nat.not_lt.2 c27)
           obtain rfl := Option.some.inj H
           have p189 : 0 ≤ (a1 : Int) := OD
           have q189 : a1 < (l0.length : Int) := OD
           obtain ⟨ad189, e189, hx189_0, hx189_1, hx189_2, hx189_3⟩ := at_T45 HR0.out a1 p189 q189
           cases e189
           replace p189 := eq_true p189
           replace q189 := eq_true q189
           go_enter Tryd.func39, Tryd.ntmps39
           try go_wp2_with (first | ((with_reducible refine gate_dst (N := 5) rfl ?_); refine box_ev (N := 5) (cs := #[.int .i64 0, .string (⟨#[]⟩ : ByteArray), .int .i64 0, .int .i64 0]) (t := 45) ?_; intro gb190 hg w28 hbox hb; have n0_ := Aside0.mk (below_step BL hb); have n1_ := Aside0.mk (hbox); have n2_ := SZ (w := w) hg; have n3_ := SZ (w := w) hg; clear HB; have HB := n0_; have BK190 := n1_; have GW190 := n2_; have GE190 := n3_; clear n0_ n1_ n2_ n3_; clear hb hbox hg; obtain ⟨hcz29_0, hcz29_1, hcz29_2, hcz29_3, hfz29_0, hfz29_1, hfz29_2, hfz29_3⟩ := cz4 BK190.out))
           have n0_ : Aside0 (((((w28.setCell ⟨gb190, 0, none⟩ (.int .i64 ((rd_T45 l0 a1).f0))).setCell ⟨gb190, 1, none⟩ (.string ((rd_T45 l0 a1).f1))).setCell ⟨gb190, 2, none⟩ (.int .i64 ((rd_T45 l0 a1).f2))).setCell ⟨gb190, 3, none⟩ (.int .i64 ((rd_T45 l0 a1).f3))).heap[gb190]? = some (.cells #[.int .i64 ((rd_T45 l0 a1).f0), .string ((rd_T45 l0 a1).f1), .int .i64 ((rd_T45 l0 a1).f2), .int .i64 ((rd_T45 l0 a1).f3)] 45 (0, 0))) := ⟨by (with_reducible repeat (first | refine blk_drewN ?_ _ | refine blk_drew ?_ | refine blk_alloc ?_ _)); refine blk_put (cs := #[.int .i64 ((rd_T45 l0 a1).f0), .string ((rd_T45 l0 a1).f1), .int .i64 ((rd_T45 l0 a1).f2), .int .i64 0]) ?_ 3 _ rfl; (with_reducible repeat (first | refine blk_drewN ?_ _ | refine blk_drew ?_ | refine blk_alloc ?_ _)); refine blk_put (cs := #[.int .i64 ((rd_T45 l0 a1).f0), .string ((rd_T45 l0 a1).f1), .int .i64 0, .int .i64 0]) ?_ 2 _ rfl; (with_reducible repeat (first | refine blk_drewN ?_ _ | refine blk_drew ?_ | refine blk_alloc ?_ _)); refine blk_put (cs := #[.int .i64 ((rd_T45 l0 a1).f0), .string (⟨#[]⟩ : ByteArray), .int .i64 0, .int .i64 0]) ?_ 1 _ rfl; (with_reducible repeat (first | refine blk_drewN ?_ _ | refine blk_drew ?_ | refine blk_alloc ?_ _)); refine blk_put (cs := #[.int .i64 0, .string (⟨#[]⟩ : ByteArray), .int .i64 0, .int .i64 0]) ?_ 0 _ rfl; (with_reducible repeat (first | refine blk_drewN ?_ _ | refine blk_drew ?_ | refine blk_alloc ?_ _)); exact BK190.out⟩
           have n1_ : Aside0 (Below w.heap.size w ((((w28.setCell ⟨gb190, 0, none⟩ (.int .i64 ((rd_T45 l0 a1).f0))).setCell ⟨gb190, 1, none⟩ (.string ((rd_T45 l0 a1).f1))).setCell ⟨gb190, 2, none⟩ (.int .i64 ((rd_T45 l0 a1).f2))).setCell ⟨gb190, 3, none⟩ (.int .i64 ((rd_T45 l0 a1).f3)))) := ⟨BL⟩
           (try clear BK190)
           (try clear HB)
           generalize ((((w28.setCell ⟨gb190, 0, none⟩ (.int .i64 ((rd_T45 l0 a1).f0))).setCell ⟨gb190, 1, none⟩ (.string ((rd_T45 l0 a1).f1))).setCell ⟨gb190, 2, none⟩ (.int .i64 ((rd_T45 l0 a1).f2))).setCell ⟨gb190, 3, none⟩ (.int .i64 ((rd_T45 l0 a1).f3))) = w30 at n0_ n1_ ⊢
           have BK190 := n0_
           have HB := n1_
           clear n0_ n1_
           have n0_ := Aside0.mk (blk_drew BK190.out)
           have n1_ := Aside0.mk (below_drew1 HB.out)
           clear BK190
           clear HB
           have BK190 := n0_
           have HB := n1_
           clear n0_ n1_
           refine start_ (n := 13) (S := fun w' => w'.cell? ⟨gb190, 0, none⟩ = some (.int .i64 ((rd_T45 l0 a1).f0)) ∧ w'.cell? ⟨gb190, 1, none⟩ = some (.string ((rd_T45 l0 a1).f1)) ∧ w'.cell? ⟨gb190, 2, none⟩ = some (.int .i64 ((rd_T45 l0 a1).f2)) ∧ w'.cell? ⟨gb190, 3, none⟩ = some (.int .i64 ((rd_T45 l0 a1).f3))) (ds := []) #[false, false, false, false, false, false, false, false, false, false, false, false, false] (by kernel_rfl) rfl rfl ⟨(blk_cell BK190.out 0).trans rfl, (blk_cell BK190.out 1).trans rfl, (blk_cell BK190.out 2).trans rfl, (blk_cell BK190.out 3).trans rfl⟩ (fun hHeld => ?_); refine with_tabW impl_playText.tab4 impl_playText.bits4 (fun HT_ HW_ => ?_)
           generalize w30.drew = w31 at BK190 HB hHeld ⊢
           refine pure_ (i := 0) (N := some 16) (v := ?_) (a' := ?_) #[true, false, false, false, false, false, false, false, false, false, false, false, false] rfl rfl (any_of HT_.out (by kernel_rfl)) (fun _ _ _ h => h) (Or.inl ⟨by rfl, ?_⟩) ?_ ?_
           rotate_left
           ·intro w'
            go_simp
            with_reducible rfl
           rotate_left
           ·simp only [Act.put, List.setIfInBounds_toArray, List.set_cons_zero, List.set_cons_succ, i64_w, i32_w]
            rfl
           refine pure_ (i := 2) (N := some 18) (v := ?_) (a' := ?_) #[true, false, true, false, false, false, false, false, false, false, false, false, false] rfl rfl (any_of HT_.out (by kernel_rfl)) (fun _ _ _ h => h) (Or.inl ⟨by rfl, ?_⟩) ?_ ?_
           rotate_left
           ·intro w'
            go_simp
            with_reducible rfl
           rotate_left
           ·simp only [Act.put, List.setIfInBounds_toArray, List.set_cons_zero, List.set_cons_succ, i64_w, i32_w]
            rfl
           refine pure_ (i := 7) (N := some 23) (v := ?_) (a' := ?_) #[true, false, true, false, false, false, false, true, false, false, false, false, false] rfl rfl (any_of HT_.out (by kernel_rfl)) (fun _ _ _ h => h) (Or.inl ⟨by rfl, ?_⟩) ?_ ?_
           rotate_left
           ·intro w'
            go_simp
            with_reducible rfl
           rotate_left
           ·simp only [Act.put, List.setIfInBounds_toArray, List.set_cons_zero, List.set_cons_succ, i64_w, i32_w]
            rfl
           refine pure_ (i := 8) (N := some 24) (v := ?_) (a' := ?_) #[true, false, true, false, false, false, false, true, true, false, false, false, false] rfl rfl (any_of HT_.out (by kernel_rfl)) (fun _ _ _ h => h) (Or.inl ⟨by rfl, ?_⟩) ?_ ?_
           rotate_left
           ·intro w'
            go_simp
            with_reducible rfl
           rotate_left
           ·simp only [Act.put, List.setIfInBounds_toArray, List.set_cons_zero, List.set_cons_succ, i64_w, i32_w]
            rfl
           refine take_ (i := 1) (N := some 17) (v := ?_) (a' := ?_) #[true, true, true, false, false, false, false, true, true, false, false, false, false] rfl rfl (take_ofW HT_.out HW_.out (by kernel_rfl)) (fun _ _ _ h => h) (Or.inl ⟨by rfl, ?_⟩) hHeld ?_ ?_
           rotate_left
           ·rintro w' ⟨s0, s1, s2, s3⟩
            go_simp
            with_reducible rfl
           rotate_left
           ·simp only [Act.put, List.setIfInBounds_toArray, List.set_cons_zero, List.set_cons_succ, i64_w, i32_w]
            rfl
           refine take_ (i := 3) (N := some 19) (v := ?_) (a' := ?_) #[true, true, true, true, false, false, false, true, true, false, false, false, false] rfl rfl (take_ofW HT_.out HW_.out (by kernel_rfl)) (fun _ _ _ h => h) (Or.inl ⟨by rfl, ?_⟩) hHeld ?_ ?_
           rotate_left
           ·rintro w' ⟨s0, s1, s2, s3⟩
            go_simp
            with_reducible rfl
           rotate_left
           ·simp only [Act.put, List.setIfInBounds_toArray, List.set_cons_zero, List.set_cons_succ, i64_w, i32_w]
            rfl
           refine pure_ (i := 4) (N := some 20) (v := ?_) (a' := ?_) #[true, true, true, true, true, false, false, true, true, false, false, false, false] rfl rfl (any_of HT_.out (by kernel_rfl)) (fun _ _ _ h => h) (Or.inl ⟨by rfl, ?_⟩) ?_ ?_
           rotate_left
           ·intro w'
            go_simp
            with_reducible rfl
           rotate_left
           ·simp only [Act.put, List.setIfInBounds_toArray, List.set_cons_zero, List.set_cons_succ, i64_w, i32_w]
            rfl
           refine pure_ (i := 5) (N := some 21) (v := ?_) (a' := ?_) #[true, true, true, true, true, true, false, true, true, false, false, false, false] rfl rfl (any_of HT_.out (by kernel_rfl)) (fun _ _ _ h => h) (Or.inl ⟨by rfl, ?_⟩) ?_ ?_
           rotate_left
           ·intro w'
            go_simp
            with_reducible rfl
           rotate_left
           ·simp only [Act.put, List.setIfInBounds_toArray, List.set_cons_zero, List.set_cons_succ, i64_w, i32_w]
            rfl
           refine pure_ (i := 6) (N := some 22) (v := ?_) (a' := ?_) #[true, true, true, true, true, true, true, true, true, false, false, false, false] rfl rfl (any_of HT_.out (by kernel_rfl)) (fun _ _ _ h => h) (Or.inl ⟨by rfl, ?_⟩) ?_ ?_
           rotate_left
           ·intro w'
            go_simp
            with_reducible rfl
           rotate_left
           ·simp only [Act.put, List.setIfInBounds_toArray, List.set_cons_zero, List.set_cons_succ, i64_w, i32_w]
            rfl
           refine take_ (i := 9) (N := some 25) (v := ?_) (a' := ?_) #[true, true, true, true, true, true, true, true, true, true, false, false, false] rfl rfl (take_ofW HT_.out HW_.out (by kernel_rfl)) (fun _ _ _ h => h) (Or.inl ⟨by rfl, ?_⟩) hHeld ?_ ?_
           rotate_left
           ·rintro w' ⟨s0, s1, s2, s3⟩
            go_simp
            with_reducible rfl
           rotate_left
           ·simp only [Act.put, List.setIfInBounds_toArray, List.set_cons_zero, List.set_cons_succ, i64_w, i32_w]
            rfl
           refine one_ (i := 10) (N := some 26) #[true, true, true, true, true, true, true, true, true, true, true, false, false] rfl rfl (one_of HT_.out (by kernel_rfl)) (by decide) (fun K hK => ?_)
           refine goes_ Tryd.func39 (by kernel_rfl) rfl #[.slice (some ad189) l0.length c0, .int .i64 ((rd_T45 l0 a1).f2)] (by rfl) rfl rfl (by (try simp only [List.map_toArray, List.map_cons, List.map_nil]); first | done | rfl | (simp only [List.length_drop, List.length_take]; rfl)) ?_
           with_reducible refine (ih k (by omega) _ _ l0 ((rd_T45 l0 a1).f2) t191 _ ?side1 ?side2 A12.out).mono ?_
           (case side1 => exact CB HR0)
           (case side2 => exact HC0.out)
           rintro e w32 ⟨rfl, hb⟩
           refine ⟨_, rfl, ?_⟩
           have n0_ := KB BK190 hb
           have n1_ := Aside0.mk (below_step BL hb)
           clear BK190
           clear HB
           have BK190 := n0_
           have HB := n1_
           clear n0_ n1_
           (try clear hb)
           (try clear hb2)
           (try clear hk)
           (try clear hi)
           refine hK.out _ _ ⟨(blk_cell BK190.out 0).trans rfl, (blk_cell BK190.out 1).trans rfl, (blk_cell BK190.out 2).trans rfl, (blk_cell BK190.out 3).trans rfl⟩ (fun hHeld => ?_)
           clear hK K
           refine norm_ (a' := ?_) ?_ ?_
           rotate_left
           ·show Act.put _ (some 26) _ = _
            simp only [Act.put, List.setIfInBounds_toArray, List.set_cons_zero, List.set_cons_succ, i64_w, i32_w]
            rfl
           refine pure_ (i := 11) (N := some 27) (v := ?_) (a' := ?_) #[true, true, true, true, true, true, true, true, true, true, true, true, false] rfl rfl (any_of HT_.out (by kernel_rfl)) (fun _ _ _ h => h) (Or.inl ⟨by rfl, ?_⟩) ?_ ?_
           rotate_left
           ·intro w'
            go_simp
            with_reducible rfl
           rotate_left
           ·simp only [Act.put, List.setIfInBounds_toArray, List.set_cons_zero, List.set_cons_succ, i64_w, i32_w]
            rfl
           refine pure_ (i := 12) (N := some 6) (v := ?_) (a' := ?_) #[true, true, true, true, true, true, true, true, true, true, true, true, true] rfl rfl (any_of HT_.out (by kernel_rfl)) (fun _ _ _ h => h) (Or.inl ⟨by rfl, ?_⟩) ?_ ?_
           rotate_left
           ·intro w'
            go_simp
            with_reducible rfl
           rotate_left
           ·simp only [Act.put, List.setIfInBounds_toArray, List.set_cons_zero, List.set_cons_succ, i64_w, i32_w]
            rfl
           refine done_ (done_of HT_.out (by kernel_rfl)) ?_
           obtain ⟨hcz33_0, hcz33_1, hcz33_2, hcz33_3, hfz33_0, hfz33_1, hfz33_2, hfz33_3⟩ := cz4 BK190.out
           try go_wp2_with (first | ((with_reducible refine gate_callee (f := 47) rfl ?_); refine goesS (some 30) Tryd.func47 #[.int .i64 ((rd_T45 l0 a1).f0)] ?_; (with_reducible refine (impl_isPair.calls ((rd_T45 l0 a1).f0) false _ A14.out).mono ?_); rintro e w' ⟨rfl, ⟨nd, rfl⟩⟩; refine ⟨_, rfl, ?_⟩))
           go_ret
           exact ⟨by first | rfl | (simp [errW_none, errW_some] <;> rfl) | (simp [*, errW_none, errW_some] <;> rfl), BL⟩
          ·rw [if_neg c27] at H
           exact absurd H (by simp)
        ·rw [if_neg c13] at H
         exact absurd H (by simp)
       ·rw [if_neg c11] at H
        exact absurd H (by simp)
      ·rw [if_neg c10] at H
       exact absurd H (by simp)
     ·rw [if_neg c9] at H
      exact absurd H (by simp)
    ·rw [if_neg c8] at H
     exact absurd H (by simp)
  ·rw [if_neg c4] at H
   exact absurd H (by simp)
 ·rw [if_neg c3] at H
  exact absurd H (by simp)
def impl_PlayText.f (k : Nat) (l0 : List (S45)) : Option (ByteArray) := (impl_IsPlay.f k l0).bind fun t194 => (if t194 = true then ((impl_playText.f k l0 (wrap64 ((l0.length : Int) - 1))).bind fun t195 => (if (t195.size : Int) > 80 then (some (⟨#[]⟩ : ByteArray)) else (some t195))) else (some (⟨#[]⟩ : ByteArray)))
set_option maxHeartbeats 8000000 in
set_option maxRecDepth 100000 in
theorem impl_PlayText.calls (k : Nat) (A0 : Option Addr) (c0 : Nat) (l0 : List (S45)) (r : ByteArray) (w : World) (hr0 : Kd.C k45 w A0 l0.length l0) (hc0 : l0.length ≤ c0) (h : impl_PlayText.f k l0 = some r) :
  Calls Tryd.prog 20 #[.slice A0 l0.length c0] w fun e w' => e = .returned (.string r) ∧ Below w.heap.size w w' := by
 have HR0 := Aside0.mk hr0
 have HC0 := Aside0.mk hc0
 clear hr0 hc0
 have HB := Aside0.mk (Below.refl w.heap.size w)
 have H : ((impl_IsPlay.f k l0).bind fun t194 => (if t194 = true then ((impl_playText.f k l0 (wrap64 ((l0.length : Int) - 1))).bind fun t195 => (if (t195.size : Int) > 80 then (some (⟨#[]⟩ : ByteArray)) else (some t195))) else (some (⟨#[]⟩ : ByteArray)))) = some r := h
 clear h
 replace H := Option.bind_eq_some_iff.mp H
 obtain ⟨t194, A20, H⟩ := H
 replace H : (if t194 = true then ((impl_playText.f k l0 (wrap64 ((l0.length : Int) - 1))).bind fun t195 => (if (t195.size : Int) > 80 then (some (⟨#[]⟩ : ByteArray)) else (some t195))) else (some (⟨#[]⟩ : ByteArray))) = some r := H
 have A2 := Aside0.mk A20
 clear A20
 by_cases c3 : t194 = true
 ·subst c3
  have H1 : ((impl_playText.f k l0 (wrap64 ((l0.length : Int) - 1))).bind fun t195 => (if (t195.size : Int) > 80 then (some (⟨#[]⟩ : ByteArray)) else (some t195))) = some r := by rw [if_pos rfl] at H; exact H
  clear H
  have H := H1
  clear H1
  replace H := Option.bind_eq_some_iff.mp H
  obtain ⟨t195, A40, H⟩ := H
  replace H : (if (t195.size : Int) > 80 then (some (⟨#[]⟩ : ByteArray)) else (some t195)) = some r := H
  have A4 := Aside0.mk A40
  clear A40
  by_cases c5 : (t195.size : Int) > 80
  ·rw [if_pos c5] at H
   have c5b0 : decide (80 < (t195.size : Int)) = true := decide_eq_true c5
   have c5b1 : decide (80 < t195.size) = true := decide_eq_true (by omega)
   clear c5
   obtain rfl := Option.some.inj H
   go_enter Tryd.func20, Tryd.ntmps20
   go_wp2_with (first | ((with_reducible refine gate_callee (f := 38) rfl ?_); refine goesS (some 5) Tryd.func38 #[.slice A0 l0.length c0] ?_; (with_reducible refine (impl_IsPlay.calls k _ _ l0 true _ ?side1 ?side2 A2.out).mono ?_); (case side1 => repeat (first | exact HR0.out | (with_reducible refine Kd.C_alloc ?_ _) | (with_reducible refine Kd.C_drewN ?_ _) | (with_reducible refine Kd.C_drew ?_))); (case side2 => exact HC0.out); rintro e w6 ⟨rfl, hb⟩; refine ⟨_, rfl, ?_⟩; have n0_ := Aside0.mk (below_step BL hb); clear HB; have HB := n0_; clear n0_; (try clear hb)) | ((with_reducible refine gate_callee (f := 39) rfl ?_); refine goesS (some 11) Tryd.func39 #[.slice A0 l0.length c0, .int .i64 (wrap64 ((l0.length : Int) - 1))] ?_; (with_reducible refine (impl_playText.calls k _ _ l0 (wrap64 ((l0.length : Int) - 1)) t195 _ ?side1 ?side2 A4.out).mono ?_); (case side1 => exact CB HR0); (case side2 => exact HC0.out); rintro e w7 ⟨rfl, hb⟩; refine ⟨_, rfl, ?_⟩; have n0_ := Aside0.mk (below_step BL hb); clear HB; have HB := n0_; clear n0_; (try clear hb)))
   go_ret
   exact ⟨by first | rfl | (simp [errW_none, errW_some] <;> rfl) | (simp [*, errW_none, errW_some] <;> rfl), BL⟩
  ·rw [if_neg c5] at H
   have c5b0 : decide (80 < (t195.size : Int)) = false := decide_eq_false c5
   have c5b1 : decide (80 < t195.size) = false := decide_eq_false (by omega)
   clear c5
   obtain rfl := Option.some.inj H
   go_enter Tryd.func20, Tryd.ntmps20
   go_wp2_with (first | ((with_reducible refine gate_callee (f := 38) rfl ?_); refine goesS (some 5) Tryd.func38 #[.slice A0 l0.length c0] ?_; (with_reducible refine (impl_IsPlay.calls k _ _ l0 true _ ?side1 ?side2 A2.out).mono ?_); (case side1 => repeat (first | exact HR0.out | (with_reducible refine Kd.C_alloc ?_ _) | (with_reducible refine Kd.C_drewN ?_ _) | (with_reducible refine Kd.C_drew ?_))); (case side2 => exact HC0.out); rintro e w8 ⟨rfl, hb⟩; refine ⟨_, rfl, ?_⟩; have n0_ := Aside0.mk (below_step BL hb); clear HB; have HB := n0_; clear n0_; (try clear hb)) | ((with_reducible refine gate_callee (f := 39) rfl ?_); refine goesS (some 11) Tryd.func39 #[.slice A0 l0.length c0, .int .i64 (wrap64 ((l0.length : Int) - 1))] ?_; (with_reducible refine (impl_playText.calls k _ _ l0 (wrap64 ((l0.length : Int) - 1)) t195 _ ?side1 ?side2 A4.out).mono ?_); (case side1 => exact CB HR0); (case side2 => exact HC0.out); rintro e w9 ⟨rfl, hb⟩; refine ⟨_, rfl, ?_⟩; have n0_ := Aside0.mk (below_step BL hb); clear HB; have HB := n0_; clear n0_; (try clear hb)))
   go_ret
   exact ⟨by first | rfl | (simp [errW_none, errW_some] <;> rfl) | (simp [*, errW_none, errW_some] <;> rfl), BL⟩
 ·replace c3 := Bool.eq_false_iff.mpr c3
  subst c3
  have H1 : (some (⟨#[]⟩ : ByteArray)) = some r := by rw [if_neg (show ¬ (false = true) by decide)] at H; exact H
  clear H
  have H := H1
  clear H1
  obtain rfl := Option.some.inj H
  go_enter Tryd.func20, Tryd.ntmps20
  go_wp2_with (first | ((with_reducible refine gate_callee (f := 38) rfl ?_); refine goesS (some 5) Tryd.func38 #[.slice A0 l0.length c0] ?_; (with_reducible refine (impl_IsPlay.calls k _ _ l0 false _ ?side1 ?side2 A2.out).mono ?_); (case side1 => repeat (first | exact HR0.out | (with_reducible refine Kd.C_alloc ?_ _) | (with_reducible refine Kd.C_drewN ?_ _) | (with_reducible refine Kd.C_drew ?_))); (case side2 => exact HC0.out); rintro e w10 ⟨rfl, hb⟩; refine ⟨_, rfl, ?_⟩; have n0_ := Aside0.mk (below_step BL hb); clear HB; have HB := n0_; clear n0_; (try clear hb)))
  go_ret
  exact ⟨by first | rfl | (simp [errW_none, errW_some] <;> rfl) | (simp [*, errW_none, errW_some] <;> rfl), BL⟩
def impl_IsClue.f (k : Nat) (a0_0 : Int) (l0_1 : List (S45)) : Option (Bool) := (impl_InRange.f a0_0 1 99).bind fun t197 => (if t197 = true then ((impl_IsPlay.f k l0_1).bind fun t198 => (some t198)) else (some false))
set_option maxHeartbeats 8000000 in
set_option maxRecDepth 100000 in
theorem impl_IsClue.calls (k : Nat) (a0_0 : Int) (A0_1 : Option Addr) (c0_1 : Nat) (l0_1 : List (S45)) (r : Bool) (w : World) (hr0_1 : Kd.C k45 w A0_1 l0_1.length l0_1) (hc0_1 : l0_1.length ≤ c0_1) (h : impl_IsClue.f k a0_0 l0_1 = some r) :
  Calls Tryd.prog 21 #[.agg #[.int .i64 a0_0, .slice A0_1 l0_1.length c0_1]] w fun e w' => e = .returned (.bool r) ∧ Below w.heap.size w w' := by
 have hu29 := Tryd.underlying29
 have HR0_1 := Aside0.mk hr0_1
 have HC0_1 := Aside0.mk hc0_1
 clear hr0_1 hc0_1
 have HB := Aside0.mk (Below.refl w.heap.size w)
 have H : ((impl_InRange.f a0_0 1 99).bind fun t197 => (if t197 = true then ((impl_IsPlay.f k l0_1).bind fun t198 => (some t198)) else (some false))) = some r := h
 clear h
 replace H := Option.bind_eq_some_iff.mp H
 obtain ⟨t197, A20, H⟩ := H
 replace H : (if t197 = true then ((impl_IsPlay.f k l0_1).bind fun t198 => (some t198)) else (some false)) = some r := H
 have A2 := Aside0.mk A20
 clear A20
 by_cases c3 : t197 = true
 ·subst c3
  have H1 : ((impl_IsPlay.f k l0_1).bind fun t198 => (some t198)) = some r := by rw [if_pos rfl] at H; exact H
  clear H
  have H := H1
  clear H1
  replace H := Option.bind_eq_some_iff.mp H
  obtain ⟨t198, A40, H⟩ := H
  replace H : (some t198) = some r := H
  have A4 := Aside0.mk A40
  clear A40
  obtain rfl := Option.some.inj H
  go_enter Tryd.func21, Tryd.ntmps21
  go_wp2_with (first | ((with_reducible refine gate_dst (N := 1) rfl ?_); refine box_ev (N := 1) (cs := #[.int .i64 a0_0, .slice A0_1 l0_1.length c0_1]) (t := 29) ?_; intro gb196 hg w5 hbox hb; have n0_ := Aside0.mk (below_step BL hb); have n1_ := Aside0.mk (hbox); have n2_ := SZ (w := w) hg; have n3_ := SZ (w := w) hg; clear HB; have HB := n0_; have BK196 := n1_; have GW196 := n2_; have GE196 := n3_; clear n0_ n1_ n2_ n3_; clear hb hbox hg; obtain ⟨hcz6_0, hcz6_1, hfz6_0, hfz6_1⟩ := cz2 BK196.out) | ((with_reducible refine gate_callee (f := 40) rfl ?_); refine goesS (some 5) Tryd.func40 #[.int .i64 a0_0, .int .i64 1, .int .i64 99] ?_; (with_reducible refine (impl_InRange.calls a0_0 1 99 true _ A2.out).mono ?_); rintro e w' ⟨rfl, ⟨nd, rfl⟩⟩; refine ⟨_, rfl, ?_⟩) | (go_at_call 38; (with_reducible refine (impl_IsPlay.calls k _ _ l0_1 t198 _ ?side1 ?side2 A4.out).mono ?_); (case side1 => repeat (first | exact (Kd.C_below HR0_1.out BL) | (with_reducible refine Kd.C_alloc ?_ _) | (with_reducible refine Kd.C_drewN ?_ _) | (with_reducible refine Kd.C_drew ?_))); (case side2 => exact HC0_1.out); rintro e w7 ⟨rfl, hb⟩; have n0_ := KB BK196 hb; have n1_ := Aside0.mk (below_step BL hb); clear BK196 HB; have BK196 := n0_; have HB := n1_; clear n0_ n1_; (try clear hb)))
  go_ret
  exact ⟨by first | rfl | (simp [errW_none, errW_some] <;> rfl) | (simp [*, errW_none, errW_some] <;> rfl), BL⟩
 ·replace c3 := Bool.eq_false_iff.mpr c3
  subst c3
  have H1 : (some false) = some r := by rw [if_neg (show ¬ (false = true) by decide)] at H; exact H
  clear H
  have H := H1
  clear H1
  obtain rfl := Option.some.inj H
  go_enter Tryd.func21, Tryd.ntmps21
  go_wp2_with (first | ((with_reducible refine gate_dst (N := 1) rfl ?_); refine box_ev (N := 1) (cs := #[.int .i64 a0_0, .slice A0_1 l0_1.length c0_1]) (t := 29) ?_; intro gb196 hg w8 hbox hb; have n0_ := Aside0.mk (below_step BL hb); have n1_ := Aside0.mk (hbox); have n2_ := SZ (w := w) hg; have n3_ := SZ (w := w) hg; clear HB; have HB := n0_; have BK196 := n1_; have GW196 := n2_; have GE196 := n3_; clear n0_ n1_ n2_ n3_; clear hb hbox hg; obtain ⟨hcz9_0, hcz9_1, hfz9_0, hfz9_1⟩ := cz2 BK196.out) | ((with_reducible refine gate_callee (f := 40) rfl ?_); refine goesS (some 5) Tryd.func40 #[.int .i64 a0_0, .int .i64 1, .int .i64 99] ?_; (with_reducible refine (impl_InRange.calls a0_0 1 99 false _ A2.out).mono ?_); rintro e w' ⟨rfl, ⟨nd, rfl⟩⟩; refine ⟨_, rfl, ?_⟩))
  go_ret
  exact ⟨by first | rfl | (simp [errW_none, errW_some] <;> rfl) | (simp [*, errW_none, errW_some] <;> rfl), BL⟩
def strconv_Itoa.f (a0 : Int) : Option (ByteArray) := if 0 ≤ a0 then (if a0 < 100 then (some (⟨(Go.Lib.decDigits a0.toNat).toArray⟩ : ByteArray)) else (none)) else (none)
theorem strconv_Itoa.calls (a0 : Int) (r : ByteArray) (w : World) (h : strconv_Itoa.f a0 = some r) :
  Calls Tryd.prog 41 #[.int .i64 a0] w fun e w' => e = .returned (.string r) ∧ Below w.heap.size w w' := by
 by_cases h1 : 0 ≤ a0
 ·by_cases h2 : a0 < 100
  ·obtain ⟨m, rfl⟩ : ∃ m : Nat, a0 = (m : Int) := ⟨a0.toNat, by omega⟩
   have hr : r = ⟨(Go.Lib.decDigits m).toArray⟩ := by
    unfold strconv_Itoa.f at h
    rw [if_pos h1, if_pos h2] at h
    exact (Option.some.inj h).symm
   subst hr
   refine (Tryd.strconv_Itoa_small m (by omega) w).mono ?_
   rintro e w' ⟨rfl, rfl⟩
   exact ⟨rfl, Below.refl _ _⟩
  ·simp [strconv_Itoa.f, h2] at h
 ·simp [strconv_Itoa.f, h1] at h
def impl_FormatInt.f (a0 : Int) : Option (ByteArray) := (strconv_Itoa.f a0).bind fun t199 => (some t199)
set_option maxHeartbeats 8000000 in
set_option maxRecDepth 100000 in
theorem impl_FormatInt.calls (a0 : Int) (r : ByteArray) (w : World) (h : impl_FormatInt.f a0 = some r) :
  Calls Tryd.prog 22 #[.int .i64 a0] w fun e w' => e = .returned (.string r) ∧ Below w.heap.size w w' := by
 have HB := Aside0.mk (Below.refl w.heap.size w)
 have H : ((strconv_Itoa.f a0).bind fun t199 => (some t199)) = some r := h
 clear h
 replace H := Option.bind_eq_some_iff.mp H
 obtain ⟨t199, A20, H⟩ := H
 replace H : (some t199) = some r := H
 have A2 := Aside0.mk A20
 clear A20
 obtain rfl := Option.some.inj H
 go_enter Tryd.func22, Tryd.ntmps22
 go_wp2_with (first | ((with_reducible refine gate_callee (f := 41) rfl ?_); refine goesS (some 4) Tryd.func41 #[.int .i64 a0] ?_; (with_reducible refine (strconv_Itoa.calls a0 t199 _ A2.out).mono ?_); rintro e w3 ⟨rfl, hb⟩; refine ⟨_, rfl, ?_⟩; have n0_ := Aside0.mk (below_step BL hb); clear HB; have HB := n0_; clear n0_; (try clear hb)))
 go_ret
 exact ⟨by first | rfl | (simp [errW_none, errW_some] <;> rfl) | (simp [*, errW_none, errW_some] <;> rfl), BL⟩
def impl_ClueText.f (k : Nat) (a0_0 : Int) (l0_1 : List (S45)) : Option (ByteArray) := (impl_PlayText.f k l0_1).bind fun t201 => ((impl_IsClue.f k a0_0 l0_1).bind fun t202 => (if t202 = true then (if t201.toList = ([] : List UInt8) then (some (⟨#[]⟩ : ByteArray)) else ((impl_FormatInt.f a0_0).bind fun t203 => (if t203.size + 1 ≤ 9223372036854775807 then (if (t203 ++ (⟨#[58]⟩ : ByteArray)).size + t201.size ≤ 9223372036854775807 then (some ((t203 ++ (⟨#[58]⟩ : ByteArray)) ++ t201)) else (none)) else (none)))) else (some (⟨#[]⟩ : ByteArray))))
set_option maxHeartbeats 8000000 in
set_option maxRecDepth 100000 in
theorem impl_ClueText.calls (k : Nat) (a0_0 : Int) (A0_1 : Option Addr) (c0_1 : Nat) (l0_1 : List (S45)) (r : ByteArray) (w : World) (hr0_1 : Kd.C k45 w A0_1 l0_1.length l0_1) (hc0_1 : l0_1.length ≤ c0_1) (h : impl_ClueText.f k a0_0 l0_1 = some r) :
  Calls Tryd.prog 9 #[.agg #[.int .i64 a0_0, .slice A0_1 l0_1.length c0_1]] w fun e w' => e = .returned (.string r) ∧ Below w.heap.size w w' := by
 have hu29 := Tryd.underlying29
 have HR0_1 := Aside0.mk hr0_1
 have HC0_1 := Aside0.mk hc0_1
 clear hr0_1 hc0_1
 have HB := Aside0.mk (Below.refl w.heap.size w)
 have H : ((impl_PlayText.f k l0_1).bind fun t201 => ((impl_IsClue.f k a0_0 l0_1).bind fun t202 => (if t202 = true then (if t201.toList = ([] : List UInt8) then (some (⟨#[]⟩ : ByteArray)) else ((impl_FormatInt.f a0_0).bind fun t203 => (if t203.size + 1 ≤ 9223372036854775807 then (if (t203 ++ (⟨#[58]⟩ : ByteArray)).size + t201.size ≤ 9223372036854775807 then (some ((t203 ++ (⟨#[58]⟩ : ByteArray)) ++ t201)) else (none)) else (none)))) else (some (⟨#[]⟩ : ByteArray))))) = some r := h
 clear h
 replace H := Option.bind_eq_some_iff.mp H
 obtain ⟨t201, A20, H⟩ := H
 replace H : ((impl_IsClue.f k a0_0 l0_1).bind fun t202 => (if t202 = true then (if t201.toList = ([] : List UInt8) then (some (⟨#[]⟩ : ByteArray)) else ((impl_FormatInt.f a0_0).bind fun t203 => (if t203.size + 1 ≤ 9223372036854775807 then (if (t203 ++ (⟨#[58]⟩ : ByteArray)).size + t201.size ≤ 9223372036854775807 then (some ((t203 ++ (⟨#[58]⟩ : ByteArray)) ++ t201)) else (none)) else (none)))) else (some (⟨#[]⟩ : ByteArray)))) = some r := H
 have A2 := Aside0.mk A20
 clear A20
 replace H := Option.bind_eq_some_iff.mp H
 obtain ⟨t202, A30, H⟩ := H
 replace H : (if t202 = true then (if t201.toList = ([] : List UInt8) then (some (⟨#[]⟩ : ByteArray)) else ((impl_FormatInt.f a0_0).bind fun t203 => (if t203.size + 1 ≤ 9223372036854775807 then (if (t203 ++ (⟨#[58]⟩ : ByteArray)).size + t201.size ≤ 9223372036854775807 then (some ((t203 ++ (⟨#[58]⟩ : ByteArray)) ++ t201)) else (none)) else (none)))) else (some (⟨#[]⟩ : ByteArray))) = some r := H
 have A3 := Aside0.mk A30
 clear A30
 by_cases c4 : t202 = true
 ·subst c4
  have H1 : (if t201.toList = ([] : List UInt8) then (some (⟨#[]⟩ : ByteArray)) else ((impl_FormatInt.f a0_0).bind fun t203 => (if t203.size + 1 ≤ 9223372036854775807 then (if (t203 ++ (⟨#[58]⟩ : ByteArray)).size + t201.size ≤ 9223372036854775807 then (some ((t203 ++ (⟨#[58]⟩ : ByteArray)) ++ t201)) else (none)) else (none)))) = some r := by rw [if_pos rfl] at H; exact H
  clear H
  have H := H1
  clear H1
  by_cases c5 : t201.toList = ([] : List UInt8)
  ·rw [if_pos c5] at H
   have c5b0 : (t201.toList == ([] : List UInt8)) = true := beq_iff_eq.mpr c5
   have c5b1 : (t201.toList != ([] : List UInt8)) = false := bne_eq_false_iff_eq.mpr c5
   clear c5
   obtain rfl := Option.some.inj H
   go_enter Tryd.func9, Tryd.ntmps9
   go_wp2_with (first | ((with_reducible refine gate_dst (N := 1) rfl ?_); refine box_ev (N := 1) (cs := #[.int .i64 a0_0, .slice A0_1 l0_1.length c0_1]) (t := 29) ?_; intro gb200 hg w6 hbox hb; have n0_ := Aside0.mk (below_step BL hb); have n1_ := Aside0.mk (hbox); have n2_ := SZ (w := w) hg; have n3_ := SZ (w := w) hg; clear HB; have HB := n0_; have BK200 := n1_; have GW200 := n2_; have GE200 := n3_; clear n0_ n1_ n2_ n3_; clear hb hbox hg; obtain ⟨hcz7_0, hcz7_1, hfz7_0, hfz7_1⟩ := cz2 BK200.out) | ((with_reducible refine gate_callee (f := 20) rfl ?_); refine goesS (some 6) Tryd.func20 #[.slice A0_1 l0_1.length c0_1] ?_; (with_reducible refine (impl_PlayText.calls k _ _ l0_1 t201 _ ?side1 ?side2 A2.out).mono ?_); (case side1 => exact CB HR0_1); (case side2 => exact HC0_1.out); rintro e w8 ⟨rfl, hb⟩; refine ⟨_, rfl, ?_⟩; have n0_ := KB BK200 hb; have n1_ := Aside0.mk (below_step BL hb); clear BK200 HB; have BK200 := n0_; have HB := n1_; clear n0_ n1_; (try clear hb); obtain ⟨hcz9_0, hcz9_1, hfz9_0, hfz9_1⟩ := cz2 BK200.out) | ((with_reducible refine gate_callee (f := 21) rfl ?_); refine goesS (some 8) Tryd.func21 #[.agg #[.int .i64 a0_0, .slice A0_1 l0_1.length c0_1]] ?_; (with_reducible refine (impl_IsClue.calls k a0_0 _ _ l0_1 true _ ?side1 ?side2 A3.out).mono ?_); (case side1 => exact CB HR0_1); (case side2 => exact HC0_1.out); rintro e w10 ⟨rfl, hb⟩; refine ⟨_, rfl, ?_⟩; have n0_ := KB BK200 hb; have n1_ := Aside0.mk (below_step BL hb); clear BK200 HB; have BK200 := n0_; have HB := n1_; clear n0_ n1_; (try clear hb)))
   go_ret
   exact ⟨by first | rfl | (simp [errW_none, errW_some] <;> rfl) | (simp [*, errW_none, errW_some] <;> rfl), BL⟩
  ·rw [if_neg c5] at H
   have c5b0 : (t201.toList == ([] : List UInt8)) = false := beq_eq_false_iff_ne.mpr c5
   have c5b1 : (t201.toList != ([] : List UInt8)) = true := bne_iff_ne.mpr c5
   replace H := Option.bind_eq_some_iff.mp H
   obtain ⟨t203, A110, H⟩ := H
   replace H : (if t203.size + 1 ≤ 9223372036854775807 then (if (t203 ++ (⟨#[58]⟩ : ByteArray)).size + t201.size ≤ 9223372036854775807 then (some ((t203 ++ (⟨#[58]⟩ : ByteArray)) ++ t201)) else (none)) else (none)) = some r := H
   have A11 := Aside0.mk A110
   clear A110
   by_cases c12 : t203.size + 1 ≤ 9223372036854775807
   ·rw [if_pos c12] at H
    have c12b0 := eq_true c12
    have c12b1 : decide (t203.size + 1 ≤ 9223372036854775807) = true := decide_eq_true c12
    try have c12b2 : (9223372036854775807 < t203.size + 1) = False := eq_false (Nat.not_lt.2 c12)
    by_cases c13 : (t203 ++ (⟨#[58]⟩ : ByteArray)).size + t201.size ≤ 9223372036854775807
    ·rw [if_pos c13] at H
     have c13b0 := eq_true c13
     have c13b1 : decide ((t203 ++ (⟨#[58]⟩ : ByteArray)).size + t201.size ≤ 9223372036854775807) = true := decide_eq_true c13
     try have c13b2 : (9223372036854775807 < (t203 ++ (⟨#[58]⟩ : ByteArray)).size + t201.size) = False := eq_false (Nat.not_lt.2 c13)
     obtain rfl := Option.some.inj H
     go_enter Tryd.func9, Tryd.ntmps9
     go_wp2_with (first | ((with_reducible refine gate_dst (N := 1) rfl ?_); refine box_ev (N := 1) (cs := #[.int .i64 a0_0, .slice A0_1 l0_1.length c0_1]) (t := 29) ?_; intro gb200 hg w14 hbox hb; have n0_ := Aside0.mk (below_step BL hb); have n1_ := Aside0.mk (hbox); have n2_ := SZ (w := w) hg; have n3_ := SZ (w := w) hg; clear HB; have HB := n0_; have BK200 := n1_; have GW200 := n2_; have GE200 := n3_; clear n0_ n1_ n2_ n3_; clear hb hbox hg; obtain ⟨hcz15_0, hcz15_1, hfz15_0, hfz15_1⟩ := cz2 BK200.out) | ((with_reducible refine gate_callee (f := 20) rfl ?_); refine goesS (some 6) Tryd.func20 #[.slice A0_1 l0_1.length c0_1] ?_; (with_reducible refine (impl_PlayText.calls k _ _ l0_1 t201 _ ?side1 ?side2 A2.out).mono ?_); (case side1 => exact CB HR0_1); (case side2 => exact HC0_1.out); rintro e w16 ⟨rfl, hb⟩; refine ⟨_, rfl, ?_⟩; have n0_ := KB BK200 hb; have n1_ := Aside0.mk (below_step BL hb); clear BK200 HB; have BK200 := n0_; have HB := n1_; clear n0_ n1_; (try clear hb); obtain ⟨hcz17_0, hcz17_1, hfz17_0, hfz17_1⟩ := cz2 BK200.out) | ((with_reducible refine gate_callee (f := 21) rfl ?_); refine goesS (some 8) Tryd.func21 #[.agg #[.int .i64 a0_0, .slice A0_1 l0_1.length c0_1]] ?_; (with_reducible refine (impl_IsClue.calls k a0_0 _ _ l0_1 true _ ?side1 ?side2 A3.out).mono ?_); (case side1 => exact CB HR0_1); (case side2 => exact HC0_1.out); rintro e w18 ⟨rfl, hb⟩; refine ⟨_, rfl, ?_⟩; have n0_ := KB BK200 hb; have n1_ := Aside0.mk (below_step BL hb); clear BK200 HB; have BK200 := n0_; have HB := n1_; clear n0_ n1_; (try clear hb); obtain ⟨hcz19_0, hcz19_1, hfz19_0, hfz19_1⟩ := cz2 BK200.out) | ((with_reducible refine gate_callee (f := 22) rfl ?_); refine goesS (some 16) Tryd.func22 #[.int .i64 a0_0] ?_; (with_reducible refine (impl_FormatInt.calls a0_0 t203 _ A11.out).mono ?_); rintro e w20 ⟨rfl, hb⟩; refine ⟨_, rfl, ?_⟩; have n0_ := KB BK200 hb; have n1_ := Aside0.mk (below_step BL hb); clear BK200 HB; have BK200 := n0_; have HB := n1_; clear n0_ n1_; (try clear hb)))
     go_ret
     exact ⟨by first | rfl | (simp [errW_none, errW_some] <;> rfl) | (simp [*, errW_none, errW_some] <;> rfl), BL⟩
    ·rw [if_neg c13] at H
     exact absurd H (by simp)
   ·rw [if_neg c12] at H
    exact absurd H (by simp)
 ·replace c4 := Bool.eq_false_iff.mpr c4
  subst c4
  have H1 : (some (⟨#[]⟩ : ByteArray)) = some r := by rw [if_neg (show ¬ (false = true) by decide)] at H; exact H
  clear H
  have H := H1
  clear H1
  obtain rfl := Option.some.inj H
  go_enter Tryd.func9, Tryd.ntmps9
  go_wp2_with (first | ((with_reducible refine gate_dst (N := 1) rfl ?_); refine box_ev (N := 1) (cs := #[.int .i64 a0_0, .slice A0_1 l0_1.length c0_1]) (t := 29) ?_; intro gb200 hg w21 hbox hb; have n0_ := Aside0.mk (below_step BL hb); have n1_ := Aside0.mk (hbox); have n2_ := SZ (w := w) hg; have n3_ := SZ (w := w) hg; clear HB; have HB := n0_; have BK200 := n1_; have GW200 := n2_; have GE200 := n3_; clear n0_ n1_ n2_ n3_; clear hb hbox hg; obtain ⟨hcz22_0, hcz22_1, hfz22_0, hfz22_1⟩ := cz2 BK200.out) | ((with_reducible refine gate_callee (f := 20) rfl ?_); refine goesS (some 6) Tryd.func20 #[.slice A0_1 l0_1.length c0_1] ?_; (with_reducible refine (impl_PlayText.calls k _ _ l0_1 t201 _ ?side1 ?side2 A2.out).mono ?_); (case side1 => exact CB HR0_1); (case side2 => exact HC0_1.out); rintro e w23 ⟨rfl, hb⟩; refine ⟨_, rfl, ?_⟩; have n0_ := KB BK200 hb; have n1_ := Aside0.mk (below_step BL hb); clear BK200 HB; have BK200 := n0_; have HB := n1_; clear n0_ n1_; (try clear hb); obtain ⟨hcz24_0, hcz24_1, hfz24_0, hfz24_1⟩ := cz2 BK200.out) | ((with_reducible refine gate_callee (f := 21) rfl ?_); refine goesS (some 8) Tryd.func21 #[.agg #[.int .i64 a0_0, .slice A0_1 l0_1.length c0_1]] ?_; (with_reducible refine (impl_IsClue.calls k a0_0 _ _ l0_1 false _ ?side1 ?side2 A3.out).mono ?_); (case side1 => exact CB HR0_1); (case side2 => exact HC0_1.out); rintro e w25 ⟨rfl, hb⟩; refine ⟨_, rfl, ?_⟩; have n0_ := KB BK200 hb; have n1_ := Aside0.mk (below_step BL hb); clear BK200 HB; have BK200 := n0_; have HB := n1_; clear n0_ n1_; (try clear hb)))
  go_ret
  exact ⟨by first | rfl | (simp [errW_none, errW_some] <;> rfl) | (simp [*, errW_none, errW_some] <;> rfl), BL⟩
def laws_eqStep.f (a0_0 : Int) (a0_1 : ByteArray) (a0_2 : Int) (a0_3 : Int) (a1_0 : Int) (a1_1 : ByteArray) (a1_2 : Int) (a1_3 : Int) : Option (Bool) := if a0_0 = a1_0 then (if a0_1.toList = a1_1.toList then (if a0_2 = a1_2 then (if a0_3 = a1_3 then (some true) else (some false)) else (some false)) else (some false)) else (some false)
set_option maxHeartbeats 8000000 in
set_option maxRecDepth 100000 in
theorem laws_eqStep.calls (a0_0 : Int) (a0_1 : ByteArray) (a0_2 : Int) (a0_3 : Int) (a1_0 : Int) (a1_1 : ByteArray) (a1_2 : Int) (a1_3 : Int) (r : Bool) (w : World) (h : laws_eqStep.f a0_0 a0_1 a0_2 a0_3 a1_0 a1_1 a1_2 a1_3 = some r) :
  Calls Tryd.prog 42 #[.agg #[.int .i64 a0_0, .string a0_1, .int .i64 a0_2, .int .i64 a0_3], .agg #[.int .i64 a1_0, .string a1_1, .int .i64 a1_2, .int .i64 a1_3]] w fun e w' => e = .returned (.bool r) ∧ Below w.heap.size w w' := by
 have hu45 := Tryd.underlying45
 have HB := Aside0.mk (Below.refl w.heap.size w)
 have H : (if a0_0 = a1_0 then (if a0_1.toList = a1_1.toList then (if a0_2 = a1_2 then (if a0_3 = a1_3 then (some true) else (some false)) else (some false)) else (some false)) else (some false)) = some r := h
 clear h
 by_cases c3 : a0_0 = a1_0
 ·rw [if_pos c3] at H
  have c3b0 : (a0_0 == a1_0) = true := beq_iff_eq.mpr c3
  have c3b1 : (a0_0 != a1_0) = false := bne_eq_false_iff_eq.mpr c3
  clear c3
  by_cases c4 : a0_1.toList = a1_1.toList
  ·rw [if_pos c4] at H
   have c4b0 : (a0_1.toList == a1_1.toList) = true := beq_iff_eq.mpr c4
   have c4b1 : (a0_1.toList != a1_1.toList) = false := bne_eq_false_iff_eq.mpr c4
   clear c4
   by_cases c5 : a0_2 = a1_2
   ·rw [if_pos c5] at H
    have c5b0 : (a0_2 == a1_2) = true := beq_iff_eq.mpr c5
    have c5b1 : (a0_2 != a1_2) = false := bne_eq_false_iff_eq.mpr c5
    clear c5
    by_cases c6 : a0_3 = a1_3
    ·rw [if_pos c6] at H
     have c6b0 : (a0_3 == a1_3) = true := beq_iff_eq.mpr c6
     have c6b1 : (a0_3 != a1_3) = false := bne_eq_false_iff_eq.mpr c6
     clear c6
     obtain rfl := Option.some.inj H
     go_enter Tryd.func42, Tryd.ntmps42
     go_wp2_with (first | ((with_reducible refine gate_dst (N := 2) rfl ?_); refine box_ev (N := 2) (cs := #[.int .i64 a0_0, .string a0_1, .int .i64 a0_2, .int .i64 a0_3]) (t := 45) ?_; intro gb204 hg w7 hbox hb; have n0_ := Aside0.mk (below_step BL hb); have n1_ := Aside0.mk (hbox); have n2_ := SZ (w := w) hg; have n3_ := SZ (w := w) hg; clear HB; have HB := n0_; have BK204 := n1_; have GW204 := n2_; have GE204 := n3_; clear n0_ n1_ n2_ n3_; clear hb hbox hg) | ((with_reducible refine gate_dst (N := 3) rfl ?_); refine box_ev (N := 3) (cs := #[.int .i64 a1_0, .string a1_1, .int .i64 a1_2, .int .i64 a1_3]) (t := 45) ?_; intro gb205 hg w8 hbox hb; have n0_ := KB BK204 hb; have n1_ := Aside0.mk (below_step BL hb); have n2_ := Aside0.mk (hbox); have n3_ := SZ (w := w) hg; have n4_ := SZ (w := w) hg; have n5_ := NL BK204 hg; have n6_ := NG BK204 hg; clear BK204 HB; have BK204 := n0_; have HB := n1_; have BK205 := n2_; have GW205 := n3_; have GE205 := n4_; have NB204_205 := n5_; have NB205_204 := n6_; clear n0_ n1_ n2_ n3_ n4_ n5_ n6_; clear hb hbox hg; have hnb9 := NB204_205.out; have hnc9 := NB205_204.out; obtain ⟨hcz10_0, hcz10_1, hcz10_2, hcz10_3, hfz10_0, hfz10_1, hfz10_2, hfz10_3⟩ := cz4 BK204.out; obtain ⟨hcz11_0, hcz11_1, hcz11_2, hcz11_3, hfz11_0, hfz11_1, hfz11_2, hfz11_3⟩ := cz4 BK205.out))
     go_ret
     exact ⟨by first | rfl | (simp [errW_none, errW_some] <;> rfl) | (simp [*, errW_none, errW_some] <;> rfl), BL⟩
    ·rw [if_neg c6] at H
     have c6b0 : (a0_3 == a1_3) = false := beq_eq_false_iff_ne.mpr c6
     have c6b1 : (a0_3 != a1_3) = true := bne_iff_ne.mpr c6
     obtain rfl := Option.some.inj H
     go_enter Tryd.func42, Tryd.ntmps42
     go_wp2_with (first | ((with_reducible refine gate_dst (N := 2) rfl ?_); refine box_ev (N := 2) (cs := #[.int .i64 a0_0, .string a0_1, .int .i64 a0_2, .int .i64 a0_3]) (t := 45) ?_; intro gb204 hg w12 hbox hb; have n0_ := Aside0.mk (below_step BL hb); have n1_ := Aside0.mk (hbox); have n2_ := SZ (w := w) hg; have n3_ := SZ (w := w) hg; clear HB; have HB := n0_; have BK204 := n1_; have GW204 := n2_; have GE204 := n3_; clear n0_ n1_ n2_ n3_; clear hb hbox hg) | ((with_reducible refine gate_dst (N := 3) rfl ?_); refine box_ev (N := 3) (cs := #[.int .i64 a1_0, .string a1_1, .int .i64 a1_2, .int .i64 a1_3]) (t := 45) ?_; intro gb205 hg w13 hbox hb; have n0_ := KB BK204 hb; have n1_ := Aside0.mk (below_step BL hb); have n2_ := Aside0.mk (hbox); have n3_ := SZ (w := w) hg; have n4_ := SZ (w := w) hg; have n5_ := NL BK204 hg; have n6_ := NG BK204 hg; clear BK204 HB; have BK204 := n0_; have HB := n1_; have BK205 := n2_; have GW205 := n3_; have GE205 := n4_; have NB204_205 := n5_; have NB205_204 := n6_; clear n0_ n1_ n2_ n3_ n4_ n5_ n6_; clear hb hbox hg; have hnb14 := NB204_205.out; have hnc14 := NB205_204.out; obtain ⟨hcz15_0, hcz15_1, hcz15_2, hcz15_3, hfz15_0, hfz15_1, hfz15_2, hfz15_3⟩ := cz4 BK204.out; obtain ⟨hcz16_0, hcz16_1, hcz16_2, hcz16_3, hfz16_0, hfz16_1, hfz16_2, hfz16_3⟩ := cz4 BK205.out))
     go_ret
     exact ⟨by first | rfl | (simp [errW_none, errW_some] <;> rfl) | (simp [*, errW_none, errW_some] <;> rfl), BL⟩
   ·rw [if_neg c5] at H
    have c5b0 : (a0_2 == a1_2) = false := beq_eq_false_iff_ne.mpr c5
    have c5b1 : (a0_2 != a1_2) = true := bne_iff_ne.mpr c5
    obtain rfl := Option.some.inj H
    go_enter Tryd.func42, Tryd.ntmps42
    go_wp2_with (first | ((with_reducible refine gate_dst (N := 2) rfl ?_); refine box_ev (N := 2) (cs := #[.int .i64 a0_0, .string a0_1, .int .i64 a0_2, .int .i64 a0_3]) (t := 45) ?_; intro gb204 hg w17 hbox hb; have n0_ := Aside0.mk (below_step BL hb); have n1_ := Aside0.mk (hbox); have n2_ := SZ (w := w) hg; have n3_ := SZ (w := w) hg; clear HB; have HB := n0_; have BK204 := n1_; have GW204 := n2_; have GE204 := n3_; clear n0_ n1_ n2_ n3_; clear hb hbox hg) | ((with_reducible refine gate_dst (N := 3) rfl ?_); refine box_ev (N := 3) (cs := #[.int .i64 a1_0, .string a1_1, .int .i64 a1_2, .int .i64 a1_3]) (t := 45) ?_; intro gb205 hg w18 hbox hb; have n0_ := KB BK204 hb; have n1_ := Aside0.mk (below_step BL hb); have n2_ := Aside0.mk (hbox); have n3_ := SZ (w := w) hg; have n4_ := SZ (w := w) hg; have n5_ := NL BK204 hg; have n6_ := NG BK204 hg; clear BK204 HB; have BK204 := n0_; have HB := n1_; have BK205 := n2_; have GW205 := n3_; have GE205 := n4_; have NB204_205 := n5_; have NB205_204 := n6_; clear n0_ n1_ n2_ n3_ n4_ n5_ n6_; clear hb hbox hg; have hnb19 := NB204_205.out; have hnc19 := NB205_204.out; obtain ⟨hcz20_0, hcz20_1, hcz20_2, hcz20_3, hfz20_0, hfz20_1, hfz20_2, hfz20_3⟩ := cz4 BK204.out; obtain ⟨hcz21_0, hcz21_1, hcz21_2, hcz21_3, hfz21_0, hfz21_1, hfz21_2, hfz21_3⟩ := cz4 BK205.out))
    go_ret
    exact ⟨by first | rfl | (simp [errW_none, errW_some] <;> rfl) | (simp [*, errW_none, errW_some] <;> rfl), BL⟩
  ·rw [if_neg c4] at H
   have c4b0 : (a0_1.toList == a1_1.toList) = false := beq_eq_false_iff_ne.mpr c4
   have c4b1 : (a0_1.toList != a1_1.toList) = true := bne_iff_ne.mpr c4
   obtain rfl := Option.some.inj H
   go_enter Tryd.func42, Tryd.ntmps42
   go_wp2_with (first | ((with_reducible refine gate_dst (N := 2) rfl ?_); refine box_ev (N := 2) (cs := #[.int .i64 a0_0, .string a0_1, .int .i64 a0_2, .int .i64 a0_3]) (t := 45) ?_; intro gb204 hg w22 hbox hb; have n0_ := Aside0.mk (below_step BL hb); have n1_ := Aside0.mk (hbox); have n2_ := SZ (w := w) hg; have n3_ := SZ (w := w) hg; clear HB; have HB := n0_; have BK204 := n1_; have GW204 := n2_; have GE204 := n3_; clear n0_ n1_ n2_ n3_; clear hb hbox hg) | ((with_reducible refine gate_dst (N := 3) rfl ?_); refine box_ev (N := 3) (cs := #[.int .i64 a1_0, .string a1_1, .int .i64 a1_2, .int .i64 a1_3]) (t := 45) ?_; intro gb205 hg w23 hbox hb; have n0_ := KB BK204 hb; have n1_ := Aside0.mk (below_step BL hb); have n2_ := Aside0.mk (hbox); have n3_ := SZ (w := w) hg; have n4_ := SZ (w := w) hg; have n5_ := NL BK204 hg; have n6_ := NG BK204 hg; clear BK204 HB; have BK204 := n0_; have HB := n1_; have BK205 := n2_; have GW205 := n3_; have GE205 := n4_; have NB204_205 := n5_; have NB205_204 := n6_; clear n0_ n1_ n2_ n3_ n4_ n5_ n6_; clear hb hbox hg; have hnb24 := NB204_205.out; have hnc24 := NB205_204.out; obtain ⟨hcz25_0, hcz25_1, hcz25_2, hcz25_3, hfz25_0, hfz25_1, hfz25_2, hfz25_3⟩ := cz4 BK204.out; obtain ⟨hcz26_0, hcz26_1, hcz26_2, hcz26_3, hfz26_0, hfz26_1, hfz26_2, hfz26_3⟩ := cz4 BK205.out))
   go_ret
   exact ⟨by first | rfl | (simp [errW_none, errW_some] <;> rfl) | (simp [*, errW_none, errW_some] <;> rfl), BL⟩
 ·rw [if_neg c3] at H
  have c3b0 : (a0_0 == a1_0) = false := beq_eq_false_iff_ne.mpr c3
  have c3b1 : (a0_0 != a1_0) = true := bne_iff_ne.mpr c3
  obtain rfl := Option.some.inj H
  go_enter Tryd.func42, Tryd.ntmps42
  go_wp2_with (first | ((with_reducible refine gate_dst (N := 2) rfl ?_); refine box_ev (N := 2) (cs := #[.int .i64 a0_0, .string a0_1, .int .i64 a0_2, .int .i64 a0_3]) (t := 45) ?_; intro gb204 hg w27 hbox hb; have n0_ := Aside0.mk (below_step BL hb); have n1_ := Aside0.mk (hbox); have n2_ := SZ (w := w) hg; have n3_ := SZ (w := w) hg; clear HB; have HB := n0_; have BK204 := n1_; have GW204 := n2_; have GE204 := n3_; clear n0_ n1_ n2_ n3_; clear hb hbox hg) | ((with_reducible refine gate_dst (N := 3) rfl ?_); refine box_ev (N := 3) (cs := #[.int .i64 a1_0, .string a1_1, .int .i64 a1_2, .int .i64 a1_3]) (t := 45) ?_; intro gb205 hg w28 hbox hb; have n0_ := KB BK204 hb; have n1_ := Aside0.mk (below_step BL hb); have n2_ := Aside0.mk (hbox); have n3_ := SZ (w := w) hg; have n4_ := SZ (w := w) hg; have n5_ := NL BK204 hg; have n6_ := NG BK204 hg; clear BK204 HB; have BK204 := n0_; have HB := n1_; have BK205 := n2_; have GW205 := n3_; have GE205 := n4_; have NB204_205 := n5_; have NB205_204 := n6_; clear n0_ n1_ n2_ n3_ n4_ n5_ n6_; clear hb hbox hg; have hnb29 := NB204_205.out; have hnc29 := NB205_204.out; obtain ⟨hcz30_0, hcz30_1, hcz30_2, hcz30_3, hfz30_0, hfz30_1, hfz30_2, hfz30_3⟩ := cz4 BK204.out; obtain ⟨hcz31_0, hcz31_1, hcz31_2, hcz31_3, hfz31_0, hfz31_1, hfz31_2, hfz31_3⟩ := cz4 BK205.out))
  go_ret
  exact ⟨by first | rfl | (simp [errW_none, errW_some] <;> rfl) | (simp [*, errW_none, errW_some] <;> rfl), BL⟩
end Go.Proofs.YtddacmgigolcbaaDoor.PFnExactClueText
