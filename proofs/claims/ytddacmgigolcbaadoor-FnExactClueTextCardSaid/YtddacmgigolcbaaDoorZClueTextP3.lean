/- Walks of functions: what each computes. -/
import Derived.Test.YtddacmgigolcbaaDoorZClueTextP0
import Derived.Test.YtddacmgigolcbaaDoorZClueTextP1
import Derived.Test.YtddacmgigolcbaaDoorZClueTextP2
import Derived.Test.YtddacmgigolcbaaDoorZClueTextW
import Derived.Test.YtddacmgigolcbaaDoorZClueTextShelf
namespace Go.Proofs.YtddacmgigolcbaaDoor.PFnExactClueText
open Go.RowKit Go.Proofs.YtddacmgigolcbaaDoorW.PrintWords Go.Proofs.YtddacmgigolcbaaDoorW.PrintLast Go.Proofs.YtddacmgigolcbaaDoorW.PrintMore Go.Proofs.YtddacmgigolcbaaDoor.Sq
attribute [local go_sem] max2_int min2_int max_two min_two max_three min_three max_four min_four
set_option linter.unusedVariables false
set_option linter.unusedSimpArgs false
def spec_l16Text.f : Nat → List (S45) → Int → Option (ByteArray)
 | 0, _, _ => none
 | k + 1, l0, a1 => if 0 ≤ a1 then (if a1 < (l0.length : Int) then (if ((rd_T45 l0 a1).f0) = 1 then (some ((rd_T45 l0 a1).f1)) else (if 0 ≤ ((rd_T45 l0 a1).f0) then (if ((rd_T45 l0 a1).f0) ≤ (wrap64 (((rd_T45 l0 a1).f0) + 1)) then (if (wrap64 (((rd_T45 l0 a1).f0) + 1)) ≤ 10 then (if ((⟨#[32, 32, 98, 109, 106, 105, 104, 110, 116, 100]⟩ : ByteArray).extract (((rd_T45 l0 a1).f0) : Int).toNat ((wrap64 (((rd_T45 l0 a1).f0) + 1)) : Int).toNat).size + 1 ≤ 9223372036854775807 then ((spec_l16Text.f k l0 ((rd_T45 l0 a1).f2)).bind fun t138 => (if (((⟨#[32, 32, 98, 109, 106, 105, 104, 110, 116, 100]⟩ : ByteArray).extract (((rd_T45 l0 a1).f0) : Int).toNat ((wrap64 (((rd_T45 l0 a1).f0) + 1)) : Int).toNat) ++ (⟨#[40]⟩ : ByteArray)).size + t138.size ≤ 9223372036854775807 then (if ((rd_T45 l0 a1).f0) = 4 then (if ((((⟨#[32, 32, 98, 109, 106, 105, 104, 110, 116, 100]⟩ : ByteArray).extract (((rd_T45 l0 a1).f0) : Int).toNat ((wrap64 (((rd_T45 l0 a1).f0) + 1)) : Int).toNat) ++ (⟨#[40]⟩ : ByteArray)) ++ t138).size + 1 ≤ 9223372036854775807 then ((spec_l16Text.f k l0 ((rd_T45 l0 a1).f3)).bind fun t139 => (if (((((⟨#[32, 32, 98, 109, 106, 105, 104, 110, 116, 100]⟩ : ByteArray).extract (((rd_T45 l0 a1).f0) : Int).toNat ((wrap64 (((rd_T45 l0 a1).f0) + 1)) : Int).toNat) ++ (⟨#[40]⟩ : ByteArray)) ++ t138) ++ (⟨#[44]⟩ : ByteArray)).size + t139.size ≤ 9223372036854775807 then (if ((((((⟨#[32, 32, 98, 109, 106, 105, 104, 110, 116, 100]⟩ : ByteArray).extract (((rd_T45 l0 a1).f0) : Int).toNat ((wrap64 (((rd_T45 l0 a1).f0) + 1)) : Int).toNat) ++ (⟨#[40]⟩ : ByteArray)) ++ t138) ++ (⟨#[44]⟩ : ByteArray)) ++ t139).size + 1 ≤ 9223372036854775807 then (some (((((((⟨#[32, 32, 98, 109, 106, 105, 104, 110, 116, 100]⟩ : ByteArray).extract (((rd_T45 l0 a1).f0) : Int).toNat ((wrap64 (((rd_T45 l0 a1).f0) + 1)) : Int).toNat) ++ (⟨#[40]⟩ : ByteArray)) ++ t138) ++ (⟨#[44]⟩ : ByteArray)) ++ t139) ++ (⟨#[41]⟩ : ByteArray))) else (none)) else (none))) else (none)) else (if ((rd_T45 l0 a1).f0) = 5 then (if ((((⟨#[32, 32, 98, 109, 106, 105, 104, 110, 116, 100]⟩ : ByteArray).extract (((rd_T45 l0 a1).f0) : Int).toNat ((wrap64 (((rd_T45 l0 a1).f0) + 1)) : Int).toNat) ++ (⟨#[40]⟩ : ByteArray)) ++ t138).size + 1 ≤ 9223372036854775807 then ((spec_l16Text.f k l0 ((rd_T45 l0 a1).f3)).bind fun t140 => (if (((((⟨#[32, 32, 98, 109, 106, 105, 104, 110, 116, 100]⟩ : ByteArray).extract (((rd_T45 l0 a1).f0) : Int).toNat ((wrap64 (((rd_T45 l0 a1).f0) + 1)) : Int).toNat) ++ (⟨#[40]⟩ : ByteArray)) ++ t138) ++ (⟨#[44]⟩ : ByteArray)).size + t140.size ≤ 9223372036854775807 then (if ((((((⟨#[32, 32, 98, 109, 106, 105, 104, 110, 116, 100]⟩ : ByteArray).extract (((rd_T45 l0 a1).f0) : Int).toNat ((wrap64 (((rd_T45 l0 a1).f0) + 1)) : Int).toNat) ++ (⟨#[40]⟩ : ByteArray)) ++ t138) ++ (⟨#[44]⟩ : ByteArray)) ++ t140).size + 1 ≤ 9223372036854775807 then (some (((((((⟨#[32, 32, 98, 109, 106, 105, 104, 110, 116, 100]⟩ : ByteArray).extract (((rd_T45 l0 a1).f0) : Int).toNat ((wrap64 (((rd_T45 l0 a1).f0) + 1)) : Int).toNat) ++ (⟨#[40]⟩ : ByteArray)) ++ t138) ++ (⟨#[44]⟩ : ByteArray)) ++ t140) ++ (⟨#[41]⟩ : ByteArray))) else (none)) else (none))) else (none)) else (if ((((⟨#[32, 32, 98, 109, 106, 105, 104, 110, 116, 100]⟩ : ByteArray).extract (((rd_T45 l0 a1).f0) : Int).toNat ((wrap64 (((rd_T45 l0 a1).f0) + 1)) : Int).toNat) ++ (⟨#[40]⟩ : ByteArray)) ++ t138).size + 1 ≤ 9223372036854775807 then (some (((((⟨#[32, 32, 98, 109, 106, 105, 104, 110, 116, 100]⟩ : ByteArray).extract (((rd_T45 l0 a1).f0) : Int).toNat ((wrap64 (((rd_T45 l0 a1).f0) + 1)) : Int).toNat) ++ (⟨#[40]⟩ : ByteArray)) ++ t138) ++ (⟨#[41]⟩ : ByteArray))) else (none)))) else (none))) else (none)) else (none)) else (none)) else (none))) else (none)) else (none)
def spec_l16Text.T4 : Bool × List (List Nat × List Nat) := (true, [([], []), ([0], [0]), ([], []), ([2], [2]), ([3], [3]), ([1, 4], [1, 4]), ([5], [5]), ([], []), ([], []), ([8], [8]), ([7, 9], [7, 9]), ([6, 10], [6, 10]), ([11, 10, 0, 1, 2, 3, 4, 5, 6, 7, 8, 9, 10, 11], [11])])
def spec_l16Text.B4 : List Nat := [0, 1, 0, 4, 12, 31, 63, 0, 0, 256, 896, 2047, 4095]
theorem spec_l16Text.tab4 : rtab .any (opsOf Tryd.f35 4) = spec_l16Text.T4 := by kernel_rfl
theorem spec_l16Text.bits4 : waitsOk spec_l16Text.T4.2 spec_l16Text.B4 = true := by kernel_rfl
set_option maxHeartbeats 8000000 in
set_option maxRecDepth 100000 in
theorem spec_l16Text.calls (k : Nat) : ∀ (A0 : Option Addr) (c0 : Nat) (l0 : List (S45)) (a1 : Int) (r : ByteArray) (w : World) (hr0 : Kd.C k45 w A0 l0.length l0) (hc0 : l0.length ≤ c0) (h : spec_l16Text.f k l0 a1 = some r),
  Calls Tryd.prog 35 #[.slice A0 l0.length c0, .int .i64 a1] w fun e w' => e = .returned (.string r) ∧ Below w.heap.size w w' := by
 induction k using Nat.strongRecOn with
 | _ k ih =>
 intro A0 c0 l0 a1 r w hr0 hc0 h
 cases k with
 | zero => exact absurd h (by simp [spec_l16Text.f])
 | succ k =>
 simp only [spec_l16Text.f] at h
 have hu45 := Tryd.underlying45
 have HR0 := Aside0.mk hr0
 have HC0 := Aside0.mk hc0
 clear hr0 hc0
 have HB := Aside0.mk (Below.refl w.heap.size w)
 have H : (if 0 ≤ a1 then (if a1 < (l0.length : Int) then (if ((rd_T45 l0 a1).f0) = 1 then (some ((rd_T45 l0 a1).f1)) else (if 0 ≤ ((rd_T45 l0 a1).f0) then (if ((rd_T45 l0 a1).f0) ≤ (wrap64 (((rd_T45 l0 a1).f0) + 1)) then (if (wrap64 (((rd_T45 l0 a1).f0) + 1)) ≤ 10 then (if ((⟨#[32, 32, 98, 109, 106, 105, 104, 110, 116, 100]⟩ : ByteArray).extract (((rd_T45 l0 a1).f0) : Int).toNat ((wrap64 (((rd_T45 l0 a1).f0) + 1)) : Int).toNat).size + 1 ≤ 9223372036854775807 then ((spec_l16Text.f k l0 ((rd_T45 l0 a1).f2)).bind fun t138 => (if (((⟨#[32, 32, 98, 109, 106, 105, 104, 110, 116, 100]⟩ : ByteArray).extract (((rd_T45 l0 a1).f0) : Int).toNat ((wrap64 (((rd_T45 l0 a1).f0) + 1)) : Int).toNat) ++ (⟨#[40]⟩ : ByteArray)).size + t138.size ≤ 9223372036854775807 then (if ((rd_T45 l0 a1).f0) = 4 then (if ((((⟨#[32, 32, 98, 109, 106, 105, 104, 110, 116, 100]⟩ : ByteArray).extract (((rd_T45 l0 a1).f0) : Int).toNat ((wrap64 (((rd_T45 l0 a1).f0) + 1)) : Int).toNat) ++ (⟨#[40]⟩ : ByteArray)) ++ t138).size + 1 ≤ 9223372036854775807 then ((spec_l16Text.f k l0 ((rd_T45 l0 a1).f3)).bind fun t139 => (if (((((⟨#[32, 32, 98, 109, 106, 105, 104, 110, 116, 100]⟩ : ByteArray).extract (((rd_T45 l0 a1).f0) : Int).toNat ((wrap64 (((rd_T45 l0 a1).f0) + 1)) : Int).toNat) ++ (⟨#[40]⟩ : ByteArray)) ++ t138) ++ (⟨#[44]⟩ : ByteArray)).size + t139.size ≤ 9223372036854775807 then (if ((((((⟨#[32, 32, 98, 109, 106, 105, 104, 110, 116, 100]⟩ : ByteArray).extract (((rd_T45 l0 a1).f0) : Int).toNat ((wrap64 (((rd_T45 l0 a1).f0) + 1)) : Int).toNat) ++ (⟨#[40]⟩ : ByteArray)) ++ t138) ++ (⟨#[44]⟩ : ByteArray)) ++ t139).size + 1 ≤ 9223372036854775807 then (some (((((((⟨#[32, 32, 98, 109, 106, 105, 104, 110, 116, 100]⟩ : ByteArray).extract (((rd_T45 l0 a1).f0) : Int).toNat ((wrap64 (((rd_T45 l0 a1).f0) + 1)) : Int).toNat) ++ (⟨#[40]⟩ : ByteArray)) ++ t138) ++ (⟨#[44]⟩ : ByteArray)) ++ t139) ++ (⟨#[41]⟩ : ByteArray))) else (none)) else (none))) else (none)) else (if ((rd_T45 l0 a1).f0) = 5 then (if ((((⟨#[32, 32, 98, 109, 106, 105, 104, 110, 116, 100]⟩ : ByteArray).extract (((rd_T45 l0 a1).f0) : Int).toNat ((wrap64 (((rd_T45 l0 a1).f0) + 1)) : Int).toNat) ++ (⟨#[40]⟩ : ByteArray)) ++ t138).size + 1 ≤ 9223372036854775807 then ((spec_l16Text.f k l0 ((rd_T45 l0 a1).f3)).bind fun t140 => (if (((((⟨#[32, 32, 98, 109, 106, 105, 104, 110, 116, 100]⟩ : ByteArray).extract (((rd_T45 l0 a1).f0) : Int).toNat ((wrap64 (((rd_T45 l0 a1).f0) + 1)) : Int).toNat) ++ (⟨#[40]⟩ : ByteArray)) ++ t138) ++ (⟨#[44]⟩ : ByteArray)).size + t140.size ≤ 9223372036854775807 then (if ((((((⟨#[32, 32, 98, 109, 106, 105, 104, 110, 116, 100]⟩ : ByteArray).extract (((rd_T45 l0 a1).f0) : Int).toNat ((wrap64 (((rd_T45 l0 a1).f0) + 1)) : Int).toNat) ++ (⟨#[40]⟩ : ByteArray)) ++ t138) ++ (⟨#[44]⟩ : ByteArray)) ++ t140).size + 1 ≤ 9223372036854775807 then (some (((((((⟨#[32, 32, 98, 109, 106, 105, 104, 110, 116, 100]⟩ : ByteArray).extract (((rd_T45 l0 a1).f0) : Int).toNat ((wrap64 (((rd_T45 l0 a1).f0) + 1)) : Int).toNat) ++ (⟨#[40]⟩ : ByteArray)) ++ t138) ++ (⟨#[44]⟩ : ByteArray)) ++ t140) ++ (⟨#[41]⟩ : ByteArray))) else (none)) else (none))) else (none)) else (if ((((⟨#[32, 32, 98, 109, 106, 105, 104, 110, 116, 100]⟩ : ByteArray).extract (((rd_T45 l0 a1).f0) : Int).toNat ((wrap64 (((rd_T45 l0 a1).f0) + 1)) : Int).toNat) ++ (⟨#[40]⟩ : ByteArray)) ++ t138).size + 1 ≤ 9223372036854775807 then (some (((((⟨#[32, 32, 98, 109, 106, 105, 104, 110, 116, 100]⟩ : ByteArray).extract (((rd_T45 l0 a1).f0) : Int).toNat ((wrap64 (((rd_T45 l0 a1).f0) + 1)) : Int).toNat) ++ (⟨#[40]⟩ : ByteArray)) ++ t138) ++ (⟨#[41]⟩ : ByteArray))) else (none)))) else (none))) else (none)) else (none)) else (none)) else (none))) else (none)) else (none)) = some r := h
 clear h
 by_cases c3 : 0 ≤ a1
 ·rw [if_pos c3] at H
  have c3b0 : decide (0 ≤ a1) = true := decide_eq_true c3
  clear c3
  by_cases c4 : a1 < (l0.length : Int)
  ·rw [if_pos c4] at H
   have c4b0 : decide (a1 < (l0.length : Int)) = true := decide_eq_true c4
   clear c4
   by_cases c5 : ((rd_T45 l0 a1).f0) = 1
   ·rw [if_pos c5] at H
    have c5b0 : (((rd_T45 l0 a1).f0) == 1) = true := beq_iff_eq.mpr c5
    have c5b1 : (((rd_T45 l0 a1).f0) != 1) = false := bne_eq_false_iff_eq.mpr c5
    clear c5
    obtain rfl := Option.some.inj H
    have p136 : 0 ≤ (a1 : Int) := OD
    have q136 : a1 < (l0.length : Int) := OD
    obtain ⟨ad136, e136, hx136_0, hx136_1, hx136_2, hx136_3⟩ := at_T45 HR0.out a1 p136 q136
    cases e136
    replace p136 := eq_true p136
    replace q136 := eq_true q136
    go_enter Tryd.func35, Tryd.ntmps35
    go_wp2_with (first | ((with_reducible refine gate_dst (N := 5) rfl ?_); refine box_ev (N := 5) (cs := #[.int .i64 0, .string (⟨#[]⟩ : ByteArray), .int .i64 0, .int .i64 0]) (t := 45) ?_; intro gb137 hg w6 hbox hb; have n0_ := Aside0.mk (below_step BL hb); have n1_ := Aside0.mk (hbox); have n2_ := SZ (w := w) hg; have n3_ := SZ (w := w) hg; clear HB; have HB := n0_; have BK137 := n1_; have GW137 := n2_; have GE137 := n3_; clear n0_ n1_ n2_ n3_; clear hb hbox hg; obtain ⟨hcz7_0, hcz7_1, hcz7_2, hcz7_3, hfz7_0, hfz7_1, hfz7_2, hfz7_3⟩ := cz4 BK137.out))
    go_ret
    exact ⟨by first | rfl | (simp [errW_none, errW_some] <;> rfl) | (simp [*, errW_none, errW_some] <;> rfl), BL⟩
   ·rw [if_neg c5] at H
    have c5b0 : (((rd_T45 l0 a1).f0) == 1) = false := beq_eq_false_iff_ne.mpr c5
    have c5b1 : (((rd_T45 l0 a1).f0) != 1) = true := bne_iff_ne.mpr c5
    by_cases c8 : 0 ≤ ((rd_T45 l0 a1).f0)
    ·rw [if_pos c8] at H
     have c8b0 := eq_true c8
     have c8b1 : decide (0 ≤ ((rd_T45 l0 a1).f0)) = true := decide_eq_true c8
     clear c8
     by_cases c9 : ((rd_T45 l0 a1).f0) ≤ (wrap64 (((rd_T45 l0 a1).f0) + 1))
     ·rw [if_pos c9] at H
      have c9b0 := eq_true c9
      have c9b1 : decide (((rd_T45 l0 a1).f0) ≤ (wrap64 (((rd_T45 l0 a1).f0) + 1))) = true := decide_eq_true c9
      by_cases c10 : (wrap64 (((rd_T45 l0 a1).f0) + 1)) ≤ 10
      ·rw [if_pos c10] at H
       have c10b0 := eq_true c10
       have c10b1 : decide ((wrap64 (((rd_T45 l0 a1).f0) + 1)) ≤ 10) = true := decide_eq_true c10
       by_cases c11 : ((⟨#[32, 32, 98, 109, 106, 105, 104, 110, 116, 100]⟩ : ByteArray).extract (((rd_T45 l0 a1).f0) : Int).toNat ((wrap64 (((rd_T45 l0 a1).f0) + 1)) : Int).toNat).size + 1 ≤ 9223372036854775807
       ·rw [if_pos c11] at H
        have c11b0 := eq_true c11
        have c11b1 : decide (((⟨#[32, 32, 98, 109, 106, 105, 104, 110, 116, 100]⟩ : ByteArray).extract (((rd_T45 l0 a1).f0) : Int).toNat ((wrap64 (((rd_T45 l0 a1).f0) + 1)) : Int).toNat).size + 1 ≤ 9223372036854775807) = true := decide_eq_true c11
        have c11z : (9223372036854775807 < (wrap64 ((rd_T45 l0 a1).f0 + 1)).toNat - ((rd_T45 l0 a1).f0).toNat + 1) = False := eq_false (by have hz_ : wrap64 ((rd_T45 l0 a1).f0 + 1) ≤ 10 := OD; have hs_ : ((⟨#[32, 32, 98, 109, 106, 105, 104, 110, 116, 100]⟩ : ByteArray).extract (((rd_T45 l0 a1).f0) : Int).toNat ((wrap64 (((rd_T45 l0 a1).f0) + 1)) : Int).toNat).size = (wrap64 ((rd_T45 l0 a1).f0 + 1)).toNat - ((rd_T45 l0 a1).f0).toNat := (by rw [ByteArray.size_extract]; show min _ 10 - _ = _; omega); have h_ := of_decide_eq_true c11b1; have e1_ : (⟨#[40]⟩ : ByteArray).size = 1 := rfl; have e2_ : (⟨#[44]⟩ : ByteArray).size = 1 := rfl; simp only [ByteArray.size_append, hs_] at h_; omega)
        try have c11b2 : (9223372036854775807 < ((⟨#[32, 32, 98, 109, 106, 105, 104, 110, 116, 100]⟩ : ByteArray).extract (((rd_T45 l0 a1).f0) : Int).toNat ((wrap64 (((rd_T45 l0 a1).f0) + 1)) : Int).toNat).size + 1) = False := eq_false (Nat.not_lt.2 c11)
        replace H := Option.bind_eq_some_iff.mp H
        obtain ⟨t138, A120, H⟩ := H
        replace H : (if (((⟨#[32, 32, 98, 109, 106, 105, 104, 110, 116, 100]⟩ : ByteArray).extract (((rd_T45 l0 a1).f0) : Int).toNat ((wrap64 (((rd_T45 l0 a1).f0) + 1)) : Int).toNat) ++ (⟨#[40]⟩ : ByteArray)).size + t138.size ≤ 9223372036854775807 then (if ((rd_T45 l0 a1).f0) = 4 then (if ((((⟨#[32, 32, 98, 109, 106, 105, 104, 110, 116, 100]⟩ : ByteArray).extract (((rd_T45 l0 a1).f0) : Int).toNat ((wrap64 (((rd_T45 l0 a1).f0) + 1)) : Int).toNat) ++ (⟨#[40]⟩ : ByteArray)) ++ t138).size + 1 ≤ 9223372036854775807 then ((spec_l16Text.f k l0 ((rd_T45 l0 a1).f3)).bind fun t139 => (if (((((⟨#[32, 32, 98, 109, 106, 105, 104, 110, 116, 100]⟩ : ByteArray).extract (((rd_T45 l0 a1).f0) : Int).toNat ((wrap64 (((rd_T45 l0 a1).f0) + 1)) : Int).toNat) ++ (⟨#[40]⟩ : ByteArray)) ++ t138) ++ (⟨#[44]⟩ : ByteArray)).size + t139.size ≤ 9223372036854775807 then (if ((((((⟨#[32, 32, 98, 109, 106, 105, 104, 110, 116, 100]⟩ : ByteArray).extract (((rd_T45 l0 a1).f0) : Int).toNat ((wrap64 (((rd_T45 l0 a1).f0) + 1)) : Int).toNat) ++ (⟨#[40]⟩ : ByteArray)) ++ t138) ++ (⟨#[44]⟩ : ByteArray)) ++ t139).size + 1 ≤ 9223372036854775807 then (some (((((((⟨#[32, 32, 98, 109, 106, 105, 104, 110, 116, 100]⟩ : ByteArray).extract (((rd_T45 l0 a1).f0) : Int).toNat ((wrap64 (((rd_T45 l0 a1).f0) + 1)) : Int).toNat) ++ (⟨#[40]⟩ : ByteArray)) ++ t138) ++ (⟨#[44]⟩ : ByteArray)) ++ t139) ++ (⟨#[41]⟩ : ByteArray))) else (none)) else (none))) else (none)) else (if ((rd_T45 l0 a1).f0) = 5 then (if ((((⟨#[32, 32, 98, 109, 106, 105, 104, 110, 116, 100]⟩ : ByteArray).extract (((rd_T45 l0 a1).f0) : Int).toNat ((wrap64 (((rd_T45 l0 a1).f0) + 1)) : Int).toNat) ++ (⟨#[40]⟩ : ByteArray)) ++ t138).size + 1 ≤ 9223372036854775807 then ((spec_l16Text.f k l0 ((rd_T45 l0 a1).f3)).bind fun t140 => (if (((((⟨#[32, 32, 98, 109, 106, 105, 104, 110, 116, 100]⟩ : ByteArray).extract (((rd_T45 l0 a1).f0) : Int).toNat ((wrap64 (((rd_T45 l0 a1).f0) + 1)) : Int).toNat) ++ (⟨#[40]⟩ : ByteArray)) ++ t138) ++ (⟨#[44]⟩ : ByteArray)).size + t140.size ≤ 9223372036854775807 then (if ((((((⟨#[32, 32, 98, 109, 106, 105, 104, 110, 116, 100]⟩ : ByteArray).extract (((rd_T45 l0 a1).f0) : Int).toNat ((wrap64 (((rd_T45 l0 a1).f0) + 1)) : Int).toNat) ++ (⟨#[40]⟩ : ByteArray)) ++ t138) ++ (⟨#[44]⟩ : ByteArray)) ++ t140).size + 1 ≤ 9223372036854775807 then (some (((((((⟨#[32, 32, 98, 109, 106, 105, 104, 110, 116, 100]⟩ : ByteArray).extract (((rd_T45 l0 a1).f0) : Int).toNat ((wrap64 (((rd_T45 l0 a1).f0) + 1)) : Int).toNat) ++ (⟨#[40]⟩ : ByteArray)) ++ t138) ++ (⟨#[44]⟩ : ByteArray)) ++ t140) ++ (⟨#[41]⟩ : ByteArray))) else (none)) else (none))) else (none)) else (if ((((⟨#[32, 32, 98, 109, 106, 105, 104, 110, 116, 100]⟩ : ByteArray).extract (((rd_T45 l0 a1).f0) : Int).toNat ((wrap64 (((rd_T45 l0 a1).f0) + 1)) : Int).toNat) ++ (⟨#[40]⟩ : ByteArray)) ++ t138).size + 1 ≤ 9223372036854775807 then (some (((((⟨#[32, 32, 98, 109, 106, 105, 104, 110, 116, 100]⟩ : ByteArray).extract (((rd_T45 l0 a1).f0) : Int).toNat ((wrap64 (((rd_T45 l0 a1).f0) + 1)) : Int).toNat) ++ (⟨#[40]⟩ : ByteArray)) ++ t138) ++ (⟨#[41]⟩ : ByteArray))) else (none)))) else (none)) = some r := H
        have A12 := Aside0.mk A120
        clear A120
        by_cases c13 : (((⟨#[32, 32, 98, 109, 106, 105, 104, 110, 116, 100]⟩ : ByteArray).extract (((rd_T45 l0 a1).f0) : Int).toNat ((wrap64 (((rd_T45 l0 a1).f0) + 1)) : Int).toNat) ++ (⟨#[40]⟩ : ByteArray)).size + t138.size ≤ 9223372036854775807
        ·rw [if_pos c13] at H
         have c13b0 := eq_true c13
         have c13b1 : decide ((((⟨#[32, 32, 98, 109, 106, 105, 104, 110, 116, 100]⟩ : ByteArray).extract (((rd_T45 l0 a1).f0) : Int).toNat ((wrap64 (((rd_T45 l0 a1).f0) + 1)) : Int).toNat) ++ (⟨#[40]⟩ : ByteArray)).size + t138.size ≤ 9223372036854775807) = true := decide_eq_true c13
         have c13z : (9223372036854775807 < (wrap64 ((rd_T45 l0 a1).f0 + 1)).toNat - ((rd_T45 l0 a1).f0).toNat + 1 + t138.size) = False := eq_false (by have hz_ : wrap64 ((rd_T45 l0 a1).f0 + 1) ≤ 10 := OD; have hs_ : ((⟨#[32, 32, 98, 109, 106, 105, 104, 110, 116, 100]⟩ : ByteArray).extract (((rd_T45 l0 a1).f0) : Int).toNat ((wrap64 (((rd_T45 l0 a1).f0) + 1)) : Int).toNat).size = (wrap64 ((rd_T45 l0 a1).f0 + 1)).toNat - ((rd_T45 l0 a1).f0).toNat := (by rw [ByteArray.size_extract]; show min _ 10 - _ = _; omega); have h_ := of_decide_eq_true c13b1; have e1_ : (⟨#[40]⟩ : ByteArray).size = 1 := rfl; have e2_ : (⟨#[44]⟩ : ByteArray).size = 1 := rfl; simp only [ByteArray.size_append, hs_] at h_; omega)
         try have c13b2 : (9223372036854775807 < (((⟨#[32, 32, 98, 109, 106, 105, 104, 110, 116, 100]⟩ : ByteArray).extract (((rd_T45 l0 a1).f0) : Int).toNat ((wrap64 (((rd_T45 l0 a1).f0) + 1)) : Int).toNat) ++ (⟨#[40]⟩ : ByteArray)).size + t138.size) = False := eq_false (Nat.not_lt.2 c13)
         by_cases c14 : ((rd_T45 l0 a1).f0) = 4
         ·rw [if_pos c14] at H
          have c14b0 : (((rd_T45 l0 a1).f0) == 4) = true := beq_iff_eq.mpr c14
          have c14b1 : (((rd_T45 l0 a1).f0) != 4) = false := bne_eq_false_iff_eq.mpr c14
          clear c14
          by_cases c15 : ((((⟨#[32, 32, 98, 109, 106, 105, 104, 110, 116, 100]⟩ : ByteArray).extract (((rd_T45 l0 a1).f0) : Int).toNat ((wrap64 (((rd_T45 l0 a1).f0) + 1)) : Int).toNat) ++ (⟨#[40]⟩ : ByteArray)) ++ t138).size + 1 ≤ 9223372036854775807
          ·rw [if_pos c15] at H
           have c15b0 := eq_true c15
           have c15b1 : decide (((((⟨#[32, 32, 98, 109, 106, 105, 104, 110, 116, 100]⟩ : ByteArray).extract (((rd_T45 l0 a1).f0) : Int).toNat ((wrap64 (((rd_T45 l0 a1).f0) + 1)) : Int).toNat) ++ (⟨#[40]⟩ : ByteArray)) ++ t138).size + 1 ≤ 9223372036854775807) = true := decide_eq_true c15
           have c15z : (9223372036854775807 < (wrap64 ((rd_T45 l0 a1).f0 + 1)).toNat - ((rd_T45 l0 a1).f0).toNat + 1 + t138.size + 1) = False := eq_false (by have hz_ : wrap64 ((rd_T45 l0 a1).f0 + 1) ≤ 10 := OD; have hs_ : ((⟨#[32, 32, 98, 109, 106, 105, 104, 110, 116, 100]⟩ : ByteArray).extract (((rd_T45 l0 a1).f0) : Int).toNat ((wrap64 (((rd_T45 l0 a1).f0) + 1)) : Int).toNat).size = (wrap64 ((rd_T45 l0 a1).f0 + 1)).toNat - ((rd_T45 l0 a1).f0).toNat := (by rw [ByteArray.size_extract]; show min _ 10 - _ = _; omega); have h_ := of_decide_eq_true c15b1; have e1_ : (⟨#[40]⟩ : ByteArray).size = 1 := rfl; have e2_ : (⟨#[44]⟩ : ByteArray).size = 1 := rfl; simp only [ByteArray.size_append, hs_] at h_; omega)
           try have c15b2 : (9223372036854775807 < ((((⟨#[32, 32, 98, 109, 106, 105, 104, 110, 116, 100]⟩ : ByteArray).extract (((rd_T45 l0 a1).f0) : Int).toNat ((wrap64 (((rd_T45 l0 a1).f0) + 1)) : Int).toNat) ++ (⟨#[40]⟩ : ByteArray)) ++ t138).size + 1) = False := eq_false (Nat.not_lt.2 c15)
           replace H := Option.bind_eq_some_iff.mp H
           obtain ⟨t139, A160, H⟩ := H
           replace H : (if (((((⟨#[32, 32, 98, 109, 106, 105, 104, 110, 116, 100]⟩ : ByteArray).extract (((rd_T45 l0 a1).f0) : Int).toNat ((wrap64 (((rd_T45 l0 a1).f0) + 1)) : Int).toNat) ++ (⟨#[40]⟩ : ByteArray)) ++ t138) ++ (⟨#[44]⟩ : ByteArray)).size + t139.size ≤ 9223372036854775807 then (if ((((((⟨#[32, 32, 98, 109, 106, 105, 104, 110, 116, 100]⟩ : ByteArray).extract (((rd_T45 l0 a1).f0) : Int).toNat ((wrap64 (((rd_T45 l0 a1).f0) + 1)) : Int).toNat) ++ (⟨#[40]⟩ : ByteArray)) ++ t138) ++ (⟨#[44]⟩ : ByteArray)) ++ t139).size + 1 ≤ 9223372036854775807 then (some (((((((⟨#[32, 32, 98, 109, 106, 105, 104, 110, 116, 100]⟩ : ByteArray).extract (((rd_T45 l0 a1).f0) : Int).toNat ((wrap64 (((rd_T45 l0 a1).f0) + 1)) : Int).toNat) ++ (⟨#[40]⟩ : ByteArray)) ++ t138) ++ (⟨#[44]⟩ : ByteArray)) ++ t139) ++ (⟨#[41]⟩ : ByteArray))) else (none)) else (none)) = some r := H
           have A16 := Aside0.mk A160
           clear A160
           by_cases c17 : (((((⟨#[32, 32, 98, 109, 106, 105, 104, 110, 116, 100]⟩ : ByteArray).extract (((rd_T45 l0 a1).f0) : Int).toNat ((wrap64 (((rd_T45 l0 a1).f0) + 1)) : Int).toNat) ++ (⟨#[40]⟩ : ByteArray)) ++ t138) ++ (⟨#[44]⟩ : ByteArray)).size + t139.size ≤ 9223372036854775807
           ·rw [if_pos c17] at H
            have c17b0 := eq_true c17
            have c17b1 : decide ((((((⟨#[32, 32, 98, 109, 106, 105, 104, 110, 116, 100]⟩ : ByteArray).extract (((rd_T45 l0 a1).f0) : Int).toNat ((wrap64 (((rd_T45 l0 a1).f0) + 1)) : Int).toNat) ++ (⟨#[40]⟩ : ByteArray)) ++ t138) ++ (⟨#[44]⟩ : ByteArray)).size + t139.size ≤ 9223372036854775807) = true := decide_eq_true c17
            have c17z : (9223372036854775807 < (wrap64 ((rd_T45 l0 a1).f0 + 1)).toNat - ((rd_T45 l0 a1).f0).toNat + 1 + t138.size + 1 + t139.size) = False := eq_false (by have hz_ : wrap64 ((rd_T45 l0 a1).f0 + 1) ≤ 10 := OD; have hs_ : ((⟨#[32, 32, 98, 109, 106, 105, 104, 110, 116, 100]⟩ : ByteArray).extract (((rd_T45 l0 a1).f0) : Int).toNat ((wrap64 (((rd_T45 l0 a1).f0) + 1)) : Int).toNat).size = (wrap64 ((rd_T45 l0 a1).f0 + 1)).toNat - ((rd_T45 l0 a1).f0).toNat := (by rw [ByteArray.size_extract]; show min _ 10 - _ = _; omega); have h_ := of_decide_eq_true c17b1; have e1_ : (⟨#[40]⟩ : ByteArray).size = 1 := rfl; have e2_ : (⟨#[44]⟩ : ByteArray).size = 1 := rfl; simp only [ByteArray.size_append, hs_] at h_; omega)
            try have c17b2 : (9223372036854775807 < (((((⟨#[32, 32, 98, 109, 106, 105, 104, 110, 116, 100]⟩ : ByteArray).extract (((rd_T45 l0 a1).f0) : Int).toNat ((wrap64 (((rd_T45 l0 a1).f0) + 1)) : Int).toNat) ++ (⟨#[40]⟩ : ByteArray)) ++ t138) ++ (⟨#[44]⟩ : ByteArray)).size + t139.size) = False := eq_false (Nat.not_lt.2 c17)
            by_cases c18 : ((((((⟨#[32, 32, 98, 109, 106, 105, 104, 110, 116, 100]⟩ : ByteArray).extract (((rd_T45 l0 a1).f0) : Int).toNat ((wrap64 (((rd_T45 l0 a1).f0) + 1)) : Int).toNat) ++ (⟨#[40]⟩ : ByteArray)) ++ t138) ++ (⟨#[44]⟩ : ByteArray)) ++ t139).size + 1 ≤ 9223372036854775807
            ·rw [if_pos c18] at H
             have c18b0 := eq_true c18
             have c18b1 : decide (((((((⟨#[32, 32, 98, 109, 106, 105, 104, 110, 116, 100]⟩ : ByteArray).extract (((rd_T45 l0 a1).f0) : Int).toNat ((wrap64 (((rd_T45 l0 a1).f0) + 1)) : Int).toNat) ++ (⟨#[40]⟩ : ByteArray)) ++ t138) ++ (⟨#[44]⟩ : ByteArray)) ++ t139).size + 1 ≤ 9223372036854775807) = true := decide_eq_true c18
             have c18z : (9223372036854775807 < (wrap64 ((rd_T45 l0 a1).f0 + 1)).toNat - ((rd_T45 l0 a1).f0).toNat + 1 + t138.size + 1 + t139.size + 1) = False := eq_false (by have hz_ : wrap64 ((rd_T45 l0 a1).f0 + 1) ≤ 10 := OD; have hs_ : ((⟨#[32, 32, 98, 109, 106, 105, 104, 110, 116, 100]⟩ : ByteArray).extract (((rd_T45 l0 a1).f0) : Int).toNat ((wrap64 (((rd_T45 l0 a1).f0) + 1)) : Int).toNat).size = (wrap64 ((rd_T45 l0 a1).f0 + 1)).toNat - ((rd_T45 l0 a1).f0).toNat := (by rw [ByteArray.size_extract]; show min _ 10 - _ = _; omega); have h_ := of_decide_eq_true c18b1; have e1_ : (⟨#[40]⟩ : ByteArray).size = 1 := rfl; have e2_ : (⟨#[44]⟩ : ByteArray).size = 1 := rfl; simp only [ByteArray.size_append, hs_] at h_; omega)
             try have c18b2 : (9223372036854775807 < ((((((⟨#[32, 32, 98, 109, 106, 105, 104, 110, 116, 100]⟩ : ByteArray).extract (((rd_T45 l0 a1).f0) : Int).toNat ((wrap64 (((rd_T45 l0 a1).f0) + 1)) : Int).toNat) ++ (⟨#[40]⟩ : ByteArray)) ++ t138) ++ (⟨#[44]⟩ : ByteArray)) ++ t139).size + 1) = False := eq_false (Nat.not_lt.2 c18)
             obtain rfl := Option.some.inj H
             have p136 : 0 ≤ (a1 : Int) := OD
             have q136 : a1 < (l0.length : Int) := OD
             obtain ⟨ad136, e136, hx136_0, hx136_1, hx136_2, hx136_3⟩ := at_T45 HR0.out a1 p136 q136
             cases e136
             replace p136 := eq_true p136
             replace q136 := eq_true q136
             go_enter Tryd.func35, Tryd.ntmps35
             try go_wp2_with (first | ((with_reducible refine gate_dst (N := 5) rfl ?_); refine box_ev (N := 5) (cs := #[.int .i64 0, .string (⟨#[]⟩ : ByteArray), .int .i64 0, .int .i64 0]) (t := 45) ?_; intro gb137 hg w19 hbox hb; have n0_ := Aside0.mk (below_step BL hb); have n1_ := Aside0.mk (hbox); have n2_ := SZ (w := w) hg; have n3_ := SZ (w := w) hg; clear HB; have HB := n0_; have BK137 := n1_; have GW137 := n2_; have GE137 := n3_; clear n0_ n1_ n2_ n3_; clear hb hbox hg; obtain ⟨hcz20_0, hcz20_1, hcz20_2, hcz20_3, hfz20_0, hfz20_1, hfz20_2, hfz20_3⟩ := cz4 BK137.out))
             have n0_ : Aside0 (((((w19.setCell ⟨gb137, 0, none⟩ (.int .i64 ((rd_T45 l0 a1).f0))).setCell ⟨gb137, 1, none⟩ (.string ((rd_T45 l0 a1).f1))).setCell ⟨gb137, 2, none⟩ (.int .i64 ((rd_T45 l0 a1).f2))).setCell ⟨gb137, 3, none⟩ (.int .i64 ((rd_T45 l0 a1).f3))).heap[gb137]? = some (.cells #[.int .i64 ((rd_T45 l0 a1).f0), .string ((rd_T45 l0 a1).f1), .int .i64 ((rd_T45 l0 a1).f2), .int .i64 ((rd_T45 l0 a1).f3)] 45 (0, 0))) := ⟨by (with_reducible repeat (first | refine blk_drewN ?_ _ | refine blk_drew ?_ | refine blk_alloc ?_ _)); refine blk_put (cs := #[.int .i64 ((rd_T45 l0 a1).f0), .string ((rd_T45 l0 a1).f1), .int .i64 ((rd_T45 l0 a1).f2), .int .i64 0]) ?_ 3 _ rfl; (with_reducible repeat (first | refine blk_drewN ?_ _ | refine blk_drew ?_ | refine blk_alloc ?_ _)); refine blk_put (cs := #[.int .i64 ((rd_T45 l0 a1).f0), .string ((rd_T45 l0 a1).f1), .int .i64 0, .int .i64 0]) ?_ 2 _ rfl; (with_reducible repeat (first | refine blk_drewN ?_ _ | refine blk_drew ?_ | refine blk_alloc ?_ _)); refine blk_put (cs := #[.int .i64 ((rd_T45 l0 a1).f0), .string (⟨#[]⟩ : ByteArray), .int .i64 0, .int .i64 0]) ?_ 1 _ rfl; (with_reducible repeat (first | refine blk_drewN ?_ _ | refine blk_drew ?_ | refine blk_alloc ?_ _)); refine blk_put (cs := #[.int .i64 0, .string (⟨#[]⟩ : ByteArray), .int .i64 0, .int .i64 0]) ?_ 0 _ rfl; (with_reducible repeat (first | refine blk_drewN ?_ _ | refine blk_drew ?_ | refine blk_alloc ?_ _)); exact BK137.out⟩
             have n1_ : Aside0 (Below w.heap.size w ((((w19.setCell ⟨gb137, 0, none⟩ (.int .i64 ((rd_T45 l0 a1).f0))).setCell ⟨gb137, 1, none⟩ (.string ((rd_T45 l0 a1).f1))).setCell ⟨gb137, 2, none⟩ (.int .i64 ((rd_T45 l0 a1).f2))).setCell ⟨gb137, 3, none⟩ (.int .i64 ((rd_T45 l0 a1).f3)))) := ⟨BL⟩
             (try clear BK137)
             (try clear HB)
             generalize ((((w19.setCell ⟨gb137, 0, none⟩ (.int .i64 ((rd_T45 l0 a1).f0))).setCell ⟨gb137, 1, none⟩ (.string ((rd_T45 l0 a1).f1))).setCell ⟨gb137, 2, none⟩ (.int .i64 ((rd_T45 l0 a1).f2))).setCell ⟨gb137, 3, none⟩ (.int .i64 ((rd_T45 l0 a1).f3))) = w21 at n0_ n1_ ⊢
             have BK137 := n0_
             have HB := n1_
             clear n0_ n1_
             have n0_ := Aside0.mk (blk_drew BK137.out)
             have n1_ := Aside0.mk (below_drew1 HB.out)
             clear BK137
             clear HB
             have BK137 := n0_
             have HB := n1_
             clear n0_ n1_
             refine start_ (n := 13) (S := fun w' => w'.cell? ⟨gb137, 0, none⟩ = some (.int .i64 ((rd_T45 l0 a1).f0)) ∧ w'.cell? ⟨gb137, 1, none⟩ = some (.string ((rd_T45 l0 a1).f1)) ∧ w'.cell? ⟨gb137, 2, none⟩ = some (.int .i64 ((rd_T45 l0 a1).f2)) ∧ w'.cell? ⟨gb137, 3, none⟩ = some (.int .i64 ((rd_T45 l0 a1).f3))) (ds := []) #[false, false, false, false, false, false, false, false, false, false, false, false, false] (by kernel_rfl) rfl rfl ⟨(blk_cell BK137.out 0).trans rfl, (blk_cell BK137.out 1).trans rfl, (blk_cell BK137.out 2).trans rfl, (blk_cell BK137.out 3).trans rfl⟩ (fun hHeld => ?_); refine with_tabW spec_l16Text.tab4 spec_l16Text.bits4 (fun HT_ HW_ => ?_)
             generalize w21.drew = w22 at BK137 HB hHeld ⊢
             refine pure_ (i := 0) (N := some 16) (v := ?_) (a' := ?_) #[true, false, false, false, false, false, false, false, false, false, false, false, false] rfl rfl (any_of HT_.out (by kernel_rfl)) (fun _ _ _ h => h) (Or.inl ⟨by rfl, ?_⟩) ?_ ?_
             rotate_left
             ·intro w'
              go_simp
              with_reducible rfl
             rotate_left
             ·simp only [Act.put, List.setIfInBounds_toArray, List.set_cons_zero, List.set_cons_succ, i64_w, i32_w]
              rfl
             refine pure_ (i := 2) (N := some 18) (v := ?_) (a' := ?_) #[true, false, true, false, false, false, false, false, false, false, false, false, false] rfl rfl (any_of HT_.out (by kernel_rfl)) (fun _ _ _ h => h) (Or.inl ⟨by rfl, ?_⟩) ?_ ?_
             rotate_left
             ·intro w'
              go_simp
              with_reducible rfl
             rotate_left
             ·simp only [Act.put, List.setIfInBounds_toArray, List.set_cons_zero, List.set_cons_succ, i64_w, i32_w]
              rfl
             refine pure_ (i := 7) (N := some 23) (v := ?_) (a' := ?_) #[true, false, true, false, false, false, false, true, false, false, false, false, false] rfl rfl (any_of HT_.out (by kernel_rfl)) (fun _ _ _ h => h) (Or.inl ⟨by rfl, ?_⟩) ?_ ?_
             rotate_left
             ·intro w'
              go_simp
              with_reducible rfl
             rotate_left
             ·simp only [Act.put, List.setIfInBounds_toArray, List.set_cons_zero, List.set_cons_succ, i64_w, i32_w]
              rfl
             refine pure_ (i := 8) (N := some 24) (v := ?_) (a' := ?_) #[true, false, true, false, false, false, false, true, true, false, false, false, false] rfl rfl (any_of HT_.out (by kernel_rfl)) (fun _ _ _ h => h) (Or.inl ⟨by rfl, ?_⟩) ?_ ?_
             rotate_left
             ·intro w'
              go_simp
              with_reducible rfl
             rotate_left
             ·simp only [Act.put, List.setIfInBounds_toArray, List.set_cons_zero, List.set_cons_succ, i64_w, i32_w]
              rfl
             refine take_ (i := 1) (N := some 17) (v := ?_) (a' := ?_) #[true, true, true, false, false, false, false, true, true, false, false, false, false] rfl rfl (take_ofW HT_.out HW_.out (by kernel_rfl)) (fun _ _ _ h => h) (Or.inl ⟨by rfl, ?_⟩) hHeld ?_ ?_
             rotate_left
             ·rintro w' ⟨s0, s1, s2, s3⟩
              go_simp
              with_reducible rfl
             rotate_left
             ·simp only [Act.put, List.setIfInBounds_toArray, List.set_cons_zero, List.set_cons_succ, i64_w, i32_w]
              rfl
             refine take_ (i := 3) (N := some 19) (v := ?_) (a' := ?_) #[true, true, true, true, false, false, false, true, true, false, false, false, false] rfl rfl (take_ofW HT_.out HW_.out (by kernel_rfl)) (fun _ _ _ h => h) (Or.inl ⟨by rfl, ?_⟩) hHeld ?_ ?_
             rotate_left
             ·rintro w' ⟨s0, s1, s2, s3⟩
              go_simp
              with_reducible rfl
             rotate_left
             ·simp only [Act.put, List.setIfInBounds_toArray, List.set_cons_zero, List.set_cons_succ, i64_w, i32_w]
              rfl
             refine pure_ (i := 4) (N := some 20) (v := ?_) (a' := ?_) #[true, true, true, true, true, false, false, true, true, false, false, false, false] rfl rfl (any_of HT_.out (by kernel_rfl)) (fun _ _ _ h => h) (Or.inl ⟨by rfl, ?_⟩) ?_ ?_
             rotate_left
             ·intro w'
              go_simp
              with_reducible rfl
             rotate_left
             ·simp only [Act.put, List.setIfInBounds_toArray, List.set_cons_zero, List.set_cons_succ, i64_w, i32_w]
              rfl
             refine pure_ (i := 5) (N := some 21) (v := ?_) (a' := ?_) #[true, true, true, true, true, true, false, true, true, false, false, false, false] rfl rfl (any_of HT_.out (by kernel_rfl)) (fun _ _ _ h => h) (Or.inl ⟨by rfl, ?_⟩) ?_ ?_
             rotate_left
             ·intro w'
              go_simp
              with_reducible rfl
             rotate_left
             ·simp only [Act.put, List.setIfInBounds_toArray, List.set_cons_zero, List.set_cons_succ, i64_w, i32_w]
              rfl
             refine pure_ (i := 6) (N := some 22) (v := ?_) (a' := ?_) #[true, true, true, true, true, true, true, true, true, false, false, false, false] rfl rfl (any_of HT_.out (by kernel_rfl)) (fun _ _ _ h => h) (Or.inl ⟨by rfl, ?_⟩) ?_ ?_
             rotate_left
             ·intro w'
              go_simp
              with_reducible rfl
             rotate_left
             ·simp only [Act.put, List.setIfInBounds_toArray, List.set_cons_zero, List.set_cons_succ, i64_w, i32_w]
              rfl
             refine take_ (i := 9) (N := some 25) (v := ?_) (a' := ?_) #[true, true, true, true, true, true, true, true, true, true, false, false, false] rfl rfl (take_ofW HT_.out HW_.out (by kernel_rfl)) (fun _ _ _ h => h) (Or.inl ⟨by rfl, ?_⟩) hHeld ?_ ?_
             rotate_left
             ·rintro w' ⟨s0, s1, s2, s3⟩
              go_simp
              with_reducible rfl
             rotate_left
             ·simp only [Act.put, List.setIfInBounds_toArray, List.set_cons_zero, List.set_cons_succ, i64_w, i32_w]
              rfl
             refine one_ (i := 10) (N := some 26) #[true, true, true, true, true, true, true, true, true, true, true, false, false] rfl rfl (one_of HT_.out (by kernel_rfl)) (by decide) (fun K hK => ?_)
             refine goes_ Tryd.func35 (by kernel_rfl) rfl #[.slice (some ad136) l0.length c0, .int .i64 ((rd_T45 l0 a1).f2)] (by rfl) rfl rfl (by (try simp only [List.map_toArray, List.map_cons, List.map_nil]); first | done | rfl | (simp only [List.length_drop, List.length_take]; rfl)) ?_
             with_reducible refine (ih k (by omega) _ _ l0 ((rd_T45 l0 a1).f2) t138 _ ?side1 ?side2 A12.out).mono ?_
             (case side1 => exact CB HR0)
             (case side2 => exact HC0.out)
             rintro e w23 ⟨rfl, hb⟩
             refine ⟨_, rfl, ?_⟩
             have n0_ := KB BK137 hb
             have n1_ := Aside0.mk (below_step BL hb)
             clear BK137
             clear HB
             have BK137 := n0_
             have HB := n1_
             clear n0_ n1_
             (try clear hb)
             (try clear hb2)
             (try clear hk)
             (try clear hi)
             refine hK.out _ _ ⟨(blk_cell BK137.out 0).trans rfl, (blk_cell BK137.out 1).trans rfl, (blk_cell BK137.out 2).trans rfl, (blk_cell BK137.out 3).trans rfl⟩ (fun hHeld => ?_)
             clear hK K
             refine norm_ (a' := ?_) ?_ ?_
             rotate_left
             ·show Act.put _ (some 26) _ = _
              simp only [Act.put, List.setIfInBounds_toArray, List.set_cons_zero, List.set_cons_succ, i64_w, i32_w]
              rfl
             refine pure_ (i := 11) (N := some 27) (v := ?_) (a' := ?_) #[true, true, true, true, true, true, true, true, true, true, true, true, false] rfl rfl (any_of HT_.out (by kernel_rfl)) (fun _ _ _ h => h) (Or.inl ⟨by rfl, ?_⟩) ?_ ?_
             rotate_left
             ·intro w'
              go_simp
              with_reducible rfl
             rotate_left
             ·simp only [Act.put, List.setIfInBounds_toArray, List.set_cons_zero, List.set_cons_succ, i64_w, i32_w]
              rfl
             refine pure_ (i := 12) (N := some 6) (v := ?_) (a' := ?_) #[true, true, true, true, true, true, true, true, true, true, true, true, true] rfl rfl (any_of HT_.out (by kernel_rfl)) (fun _ _ _ h => h) (Or.inl ⟨by rfl, ?_⟩) ?_ ?_
             rotate_left
             ·intro w'
              go_simp
              with_reducible rfl
             rotate_left
             ·simp only [Act.put, List.setIfInBounds_toArray, List.set_cons_zero, List.set_cons_succ, i64_w, i32_w]
              rfl
             refine done_ (done_of HT_.out (by kernel_rfl)) ?_
             obtain ⟨hcz24_0, hcz24_1, hcz24_2, hcz24_3, hfz24_0, hfz24_1, hfz24_2, hfz24_3⟩ := cz4 BK137.out
             try go_wp2_with (first | ((with_reducible refine gate_callee (f := 35) rfl ?_); refine goesS (some 41) Tryd.func35 #[.slice (some ad136) l0.length c0, .int .i64 ((rd_T45 l0 a1).f3)] ?_; (with_reducible refine (ih k (by omega) _ _ l0 ((rd_T45 l0 a1).f3) t139 _ ?side1 ?side2 A16.out).mono ?_); (case side1 => exact CB HR0); (case side2 => exact HC0.out); rintro e w25 ⟨rfl, hb⟩; refine ⟨_, rfl, ?_⟩; have n0_ := KB BK137 hb; have n1_ := Aside0.mk (below_step BL hb); clear BK137 HB; have BK137 := n0_; have HB := n1_; clear n0_ n1_; (try clear hb)))
             go_ret
             exact ⟨by first | rfl | (simp [errW_none, errW_some] <;> rfl) | (simp [*, errW_none, errW_some] <;> rfl), BL⟩
            ·rw [if_neg c18] at H
             exact absurd H (by simp)
           ·rw [if_neg c17] at H
            exact absurd H (by simp)
          ·rw [if_neg c15] at H
           exact absurd H (by simp)
         ·rw [if_neg c14] at H
          have c14b0 : (((rd_T45 l0 a1).f0) == 4) = false := beq_eq_false_iff_ne.mpr c14
          have c14b1 : (((rd_T45 l0 a1).f0) != 4) = true := bne_iff_ne.mpr c14
          by_cases c26 : ((rd_T45 l0 a1).f0) = 5
          ·rw [if_pos c26] at H
           have c26b0 : (((rd_T45 l0 a1).f0) == 5) = true := beq_iff_eq.mpr c26
           have c26b1 : (((rd_T45 l0 a1).f0) != 5) = false := bne_eq_false_iff_eq.mpr c26
           clear c26
           by_cases c27 : ((((⟨#[32, 32, 98, 109, 106, 105, 104, 110, 116, 100]⟩ : ByteArray).extract (((rd_T45 l0 a1).f0) : Int).toNat ((wrap64 (((rd_T45 l0 a1).f0) + 1)) : Int).toNat) ++ (⟨#[40]⟩ : ByteArray)) ++ t138).size + 1 ≤ 9223372036854775807
           ·rw [if_pos c27] at H
            have c27b0 := eq_true c27
            have c27b1 : decide (((((⟨#[32, 32, 98, 109, 106, 105, 104, 110, 116, 100]⟩ : ByteArray).extract (((rd_T45 l0 a1).f0) : Int).toNat ((wrap64 (((rd_T45 l0 a1).f0) + 1)) : Int).toNat) ++ (⟨#[40]⟩ : ByteArray)) ++ t138).size + 1 ≤ 9223372036854775807) = true := decide_eq_true c27
            have c27z : (9223372036854775807 < (wrap64 ((rd_T45 l0 a1).f0 + 1)).toNat - ((rd_T45 l0 a1).f0).toNat + 1 + t138.size + 1) = False := eq_false (by have hz_ : wrap64 ((rd_T45 l0 a1).f0 + 1) ≤ 10 := OD; have hs_ : ((⟨#[32, 32, 98, 109, 106, 105, 104, 110, 116, 100]⟩ : ByteArray).extract (((rd_T45 l0 a1).f0) : Int).toNat ((wrap64 (((rd_T45 l0 a1).f0) + 1)) : Int).toNat).size = (wrap64 ((rd_T45 l0 a1).f0 + 1)).toNat - ((rd_T45 l0 a1).f0).toNat := (by rw [ByteArray.size_extract]; show min _ 10 - _ = _; omega); have h_ := of_decide_eq_true c27b1; have e1_ : (⟨#[40]⟩ : ByteArray).size = 1 := rfl; have e2_ : (⟨#[44]⟩ : ByteArray).size = 1 := rfl; simp only [ByteArray.size_append, hs_] at h_; omega)
            try have c27b2 : (9223372036854775807 < ((((⟨#[32, 32, 98, 109, 106, 105, 104, 110, 116, 100]⟩ : ByteArray).extract (((rd_T45 l0 a1).f0) : Int).toNat ((wrap64 (((rd_T45 l0 a1).f0) + 1)) : Int).toNat) ++ (⟨#[40]⟩ : ByteArray)) ++ t138).size + 1) = False := eq_false (Nat.not_lt.2 c27)
            replace H := Option.bind_eq_some_iff.mp H
            obtain ⟨t140, A280, H⟩ := H
            replace H : (if (((((⟨#[32, 32, 98, 109, 106, 105, 104, 110, 116, 100]⟩ : ByteArray).extract (((rd_T45 l0 a1).f0) : Int).toNat ((wrap64 (((rd_T45 l0 a1).f0) + 1)) : Int).toNat) ++ (⟨#[40]⟩ : ByteArray)) ++ t138) ++ (⟨#[44]⟩ : ByteArray)).size + t140.size ≤ 9223372036854775807 then (if ((((((⟨#[32, 32, 98, 109, 106, 105, 104, 110, 116, 100]⟩ : ByteArray).extract (((rd_T45 l0 a1).f0) : Int).toNat ((wrap64 (((rd_T45 l0 a1).f0) + 1)) : Int).toNat) ++ (⟨#[40]⟩ : ByteArray)) ++ t138) ++ (⟨#[44]⟩ : ByteArray)) ++ t140).size + 1 ≤ 9223372036854775807 then (some (((((((⟨#[32, 32, 98, 109, 106, 105, 104, 110, 116, 100]⟩ : ByteArray).extract (((rd_T45 l0 a1).f0) : Int).toNat ((wrap64 (((rd_T45 l0 a1).f0) + 1)) : Int).toNat) ++ (⟨#[40]⟩ : ByteArray)) ++ t138) ++ (⟨#[44]⟩ : ByteArray)) ++ t140) ++ (⟨#[41]⟩ : ByteArray))) else (none)) else (none)) = some r := H
            have A28 := Aside0.mk A280
            clear A280
            by_cases c29 : (((((⟨#[32, 32, 98, 109, 106, 105, 104, 110, 116, 100]⟩ : ByteArray).extract (((rd_T45 l0 a1).f0) : Int).toNat ((wrap64 (((rd_T45 l0 a1).f0) + 1)) : Int).toNat) ++ (⟨#[40]⟩ : ByteArray)) ++ t138) ++ (⟨#[44]⟩ : ByteArray)).size + t140.size ≤ 9223372036854775807
            ·rw [if_pos c29] at H
             have c29b0 := eq_true c29
             have c29b1 : decide ((((((⟨#[32, 32, 98, 109, 106, 105, 104, 110, 116, 100]⟩ : ByteArray).extract (((rd_T45 l0 a1).f0) : Int).toNat ((wrap64 (((rd_T45 l0 a1).f0) + 1)) : Int).toNat) ++ (⟨#[40]⟩ : ByteArray)) ++ t138) ++ (⟨#[44]⟩ : ByteArray)).size + t140.size ≤ 9223372036854775807) = true := decide_eq_true c29
             have c29z : (9223372036854775807 < (wrap64 ((rd_T45 l0 a1).f0 + 1)).toNat - ((rd_T45 l0 a1).f0).toNat + 1 + t138.size + 1 + t140.size) = False := eq_false (by have hz_ : wrap64 ((rd_T45 l0 a1).f0 + 1) ≤ 10 := OD; have hs_ : ((⟨#[32, 32, 98, 109, 106, 105, 104, 110, 116, 100]⟩ : ByteArray).extract (((rd_T45 l0 a1).f0) : Int).toNat ((wrap64 (((rd_T45 l0 a1).f0) + 1)) : Int).toNat).size = (wrap64 ((rd_T45 l0 a1).f0 + 1)).toNat - ((rd_T45 l0 a1).f0).toNat := (by rw [ByteArray.size_extract]; show min _ 10 - _ = _; omega); have h_ := of_decide_eq_true c29b1; have e1_ : (⟨#[40]⟩ : ByteArray).size = 1 := rfl; have e2_ : (⟨#[44]⟩ : ByteArray).size = 1 := rfl; simp only [ByteArray.size_append, hs_] at h_; omega)
             try have c29b2 : (9223372036854775807 < (((((⟨#[32, 32, 98, 109, 106, 105, 104, 110, 116, 100]⟩ : ByteArray).extract (((rd_T45 l0 a1).f0) : Int).toNat ((wrap64 (((rd_T45 l0 a1).f0) + 1)) : Int).toNat) ++ (⟨#[40]⟩ : ByteArray)) ++ t138) ++ (⟨#[44]⟩ : ByteArray)).size + t140.size) = False := eq_false (Nat.not_lt.2 c29)
             by_cases c30 : ((((((⟨#[32, 32, 98, 109, 106, 105, 104, 110, 116, 100]⟩ : ByteArray).extract (((rd_T45 l0 a1).f0) : Int).toNat ((wrap64 (((rd_T45 l0 a1).f0) + 1)) : Int).toNat) ++ (⟨#[40]⟩ : ByteArray)) ++ t138) ++ (⟨#[44]⟩ : ByteArray)) ++ t140).size + 1 ≤ 9223372036854775807
             ·rw [if_pos c30] at H
              have c30b0 := eq_true c30
              have c30b1 : decide (((((((⟨#[32, 32, 98, 109, 106, 105, 104, 110, 116, 100]⟩ : ByteArray).extract (((rd_T45 l0 a1).f0) : Int).toNat ((wrap64 (((rd_T45 l0 a1).f0) + 1)) : Int).toNat) ++ (⟨#[40]⟩ : ByteArray)) ++ t138) ++ (⟨#[44]⟩ : ByteArray)) ++ t140).size + 1 ≤ 9223372036854775807) = true := decide_eq_true c30
              have c30z : (9223372036854775807 < (wrap64 ((rd_T45 l0 a1).f0 + 1)).toNat - ((rd_T45 l0 a1).f0).toNat + 1 + t138.size + 1 + t140.size + 1) = False := eq_false (by have hz_ : wrap64 ((rd_T45 l0 a1).f0 + 1) ≤ 10 := OD; have hs_ : ((⟨#[32, 32, 98, 109, 106, 105, 104, 110, 116, 100]⟩ : ByteArray).extract (((rd_T45 l0 a1).f0) : Int).toNat ((wrap64 (((rd_T45 l0 a1).f0) + 1)) : Int).toNat).size = (wrap64 ((rd_T45 l0 a1).f0 + 1)).toNat - ((rd_T45 l0 a1).f0).toNat := (by rw [ByteArray.size_extract]; show min _ 10 - _ = _; omega); have h_ := of_decide_eq_true c30b1; have e1_ : (⟨#[40]⟩ : ByteArray).size = 1 := rfl; have e2_ : (⟨#[44]⟩ : ByteArray).size = 1 := rfl; simp only [ByteArray.size_append, hs_] at h_; omega)
              try have c30b2 : (9223372036854775807 < ((((((⟨#[32, 32, 98, 109, 106, 105, 104, 110, 116, 100]⟩ : ByteArray).extract (((rd_T45 l0 a1).f0) : Int).toNat ((wrap64 (((rd_T45 l0 a1).f0) + 1)) : Int).toNat) ++ (⟨#[40]⟩ : ByteArray)) ++ t138) ++ (⟨#[44]⟩ : ByteArray)) ++ t140).size + 1) = False := eq_false (Nat.not_lt.2 c30)
              obtain rfl := Option.some.inj H
              have p136 : 0 ≤ (a1 : Int) := OD
              have q136 : a1 < (l0.length : Int) := OD
              obtain ⟨ad136, e136, hx136_0, hx136_1, hx136_2, hx136_3⟩ := at_T45 HR0.out a1 p136 q136
              cases e136
              replace p136 := eq_true p136
              replace q136 := eq_true q136
              go_enter Tryd.func35, Tryd.ntmps35
              try go_wp2_with (first | ((with_reducible refine gate_dst (N := 5) rfl ?_); refine box_ev (N := 5) (cs := #[.int .i64 0, .string (⟨#[]⟩ : ByteArray), .int .i64 0, .int .i64 0]) (t := 45) ?_; intro gb137 hg w31 hbox hb; have n0_ := Aside0.mk (below_step BL hb); have n1_ := Aside0.mk (hbox); have n2_ := SZ (w := w) hg; have n3_ := SZ (w := w) hg; clear HB; have HB := n0_; have BK137 := n1_; have GW137 := n2_; have GE137 := n3_; clear n0_ n1_ n2_ n3_; clear hb hbox hg; obtain ⟨hcz32_0, hcz32_1, hcz32_2, hcz32_3, hfz32_0, hfz32_1, hfz32_2, hfz32_3⟩ := cz4 BK137.out))
              have n0_ : Aside0 (((((w31.setCell ⟨gb137, 0, none⟩ (.int .i64 ((rd_T45 l0 a1).f0))).setCell ⟨gb137, 1, none⟩ (.string ((rd_T45 l0 a1).f1))).setCell ⟨gb137, 2, none⟩ (.int .i64 ((rd_T45 l0 a1).f2))).setCell ⟨gb137, 3, none⟩ (.int .i64 ((rd_T45 l0 a1).f3))).heap[gb137]? = some (.cells #[.int .i64 ((rd_T45 l0 a1).f0), .string ((rd_T45 l0 a1).f1), .int .i64 ((rd_T45 l0 a1).f2), .int .i64 ((rd_T45 l0 a1).f3)] 45 (0, 0))) := ⟨by (with_reducible repeat (first | refine blk_drewN ?_ _ | refine blk_drew ?_ | refine blk_alloc ?_ _)); refine blk_put (cs := #[.int .i64 ((rd_T45 l0 a1).f0), .string ((rd_T45 l0 a1).f1), .int .i64 ((rd_T45 l0 a1).f2), .int .i64 0]) ?_ 3 _ rfl; (with_reducible repeat (first | refine blk_drewN ?_ _ | refine blk_drew ?_ | refine blk_alloc ?_ _)); refine blk_put (cs := #[.int .i64 ((rd_T45 l0 a1).f0), .string ((rd_T45 l0 a1).f1), .int .i64 0, .int .i64 0]) ?_ 2 _ rfl; (with_reducible repeat (first | refine blk_drewN ?_ _ | refine blk_drew ?_ | refine blk_alloc ?_ _)); refine blk_put (cs := #[.int .i64 ((rd_T45 l0 a1).f0), .string (⟨#[]⟩ : ByteArray), .int .i64 0, .int .i64 0]) ?_ 1 _ rfl; (with_reducible repeat (first | refine blk_drewN ?_ _ | refine blk_drew ?_ | refine blk_alloc ?_ _)); refine blk_put (cs := #[.int .i64 0, .string (⟨#[]⟩ : ByteArray), .int .i64 0, .int .i64 0]) ?_ 0 _ rfl; (with_reducible repeat (first | refine blk_drewN ?_ _ | refine blk_drew ?_ | refine blk_alloc ?_ _)); exact BK137.out⟩
              have n1_ : Aside0 (Below w.heap.size w ((((w31.setCell ⟨gb137, 0, none⟩ (.int .i64 ((rd_T45 l0 a1).f0))).setCell ⟨gb137, 1, none⟩ (.string ((rd_T45 l0 a1).f1))).setCell ⟨gb137, 2, none⟩ (.int .i64 ((rd_T45 l0 a1).f2))).setCell ⟨gb137, 3, none⟩ (.int .i64 ((rd_T45 l0 a1).f3)))) := ⟨BL⟩
              (try clear BK137)
              (try clear HB)
              generalize ((((w31.setCell ⟨gb137, 0, none⟩ (.int .i64 ((rd_T45 l0 a1).f0))).setCell ⟨gb137, 1, none⟩ (.string ((rd_T45 l0 a1).f1))).setCell ⟨gb137, 2, none⟩ (.int .i64 ((rd_T45 l0 a1).f2))).setCell ⟨gb137, 3, none⟩ (.int .i64 ((rd_T45 l0 a1).f3))) = w33 at n0_ n1_ ⊢
              have BK137 := n0_
              have HB := n1_
              clear n0_ n1_
              have n0_ := Aside0.mk (blk_drew BK137.out)
              have n1_ := Aside0.mk (below_drew1 HB.out)
              clear BK137
              clear HB
              have BK137 := n0_
              have HB := n1_
              clear n0_ n1_
              refine start_ (n := 13) (S := fun w' => w'.cell? ⟨gb137, 0, none⟩ = some (.int .i64 ((rd_T45 l0 a1).f0)) ∧ w'.cell? ⟨gb137, 1, none⟩ = some (.string ((rd_T45 l0 a1).f1)) ∧ w'.cell? ⟨gb137, 2, none⟩ = some (.int .i64 ((rd_T45 l0 a1).f2)) ∧ w'.cell? ⟨gb137, 3, none⟩ = some (.int .i64 ((rd_T45 l0 a1).f3))) (ds := []) #[false, false, false, false, false, false, false, false, false, false, false, false, false] (by kernel_rfl) rfl rfl ⟨(blk_cell BK137.out 0).trans rfl, (blk_cell BK137.out 1).trans rfl, (blk_cell BK137.out 2).trans rfl, (blk_cell BK137.out 3).trans rfl⟩ (fun hHeld => ?_); refine with_tabW spec_l16Text.tab4 spec_l16Text.bits4 (fun HT_ HW_ => ?_)
              generalize w33.drew = w34 at BK137 HB hHeld ⊢
              refine pure_ (i := 0) (N := some 16) (v := ?_) (a' := ?_) #[true, false, false, false, false, false, false, false, false, false, false, false, false] rfl rfl (any_of HT_.out (by kernel_rfl)) (fun _ _ _ h => h) (Or.inl ⟨by rfl, ?_⟩) ?_ ?_
              rotate_left
              ·intro w'
               go_simp
               with_reducible rfl
              rotate_left
              ·simp only [Act.put, List.setIfInBounds_toArray, List.set_cons_zero, List.set_cons_succ, i64_w, i32_w]
               rfl
              refine pure_ (i := 2) (N := some 18) (v := ?_) (a' := ?_) #[true, false, true, false, false, false, false, false, false, false, false, false, false] rfl rfl (any_of HT_.out (by kernel_rfl)) (fun _ _ _ h => h) (Or.inl ⟨by rfl, ?_⟩) ?_ ?_
              rotate_left
              ·intro w'
               go_simp
               with_reducible rfl
              rotate_left
              ·simp only [Act.put, List.setIfInBounds_toArray, List.set_cons_zero, List.set_cons_succ, i64_w, i32_w]
               rfl
              refine pure_ (i := 7) (N := some 23) (v := ?_) (a' := ?_) #[true, false, true, false, false, false, false, true, false, false, false, false, false] rfl rfl (any_of HT_.out (by kernel_rfl)) (fun _ _ _ h => h) (Or.inl ⟨by rfl, ?_⟩) ?_ ?_
              rotate_left
              ·intro w'
               go_simp
               with_reducible rfl
              rotate_left
              ·simp only [Act.put, List.setIfInBounds_toArray, List.set_cons_zero, List.set_cons_succ, i64_w, i32_w]
               rfl
              refine pure_ (i := 8) (N := some 24) (v := ?_) (a' := ?_) #[true, false, true, false, false, false, false, true, true, false, false, false, false] rfl rfl (any_of HT_.out (by kernel_rfl)) (fun _ _ _ h => h) (Or.inl ⟨by rfl, ?_⟩) ?_ ?_
              rotate_left
              ·intro w'
               go_simp
               with_reducible rfl
              rotate_left
              ·simp only [Act.put, List.setIfInBounds_toArray, List.set_cons_zero, List.set_cons_succ, i64_w, i32_w]
               rfl
              refine take_ (i := 1) (N := some 17) (v := ?_) (a' := ?_) #[true, true, true, false, false, false, false, true, true, false, false, false, false] rfl rfl (take_ofW HT_.out HW_.out (by kernel_rfl)) (fun _ _ _ h => h) (Or.inl ⟨by rfl, ?_⟩) hHeld ?_ ?_
              rotate_left
              ·rintro w' ⟨s0, s1, s2, s3⟩
               go_simp
               with_reducible rfl
              rotate_left
              ·simp only [Act.put, List.setIfInBounds_toArray, List.set_cons_zero, List.set_cons_succ, i64_w, i32_w]
               rfl
              refine take_ (i := 3) (N := some 19) (v := ?_) (a' := ?_) #[true, true, true, true, false, false, false, true, true, false, false, false, false] rfl rfl (take_ofW HT_.out HW_.out (by kernel_rfl)) (fun _ _ _ h => h) (Or.inl ⟨by rfl, ?_⟩) hHeld ?_ ?_
              rotate_left
              ·rintro w' ⟨s0, s1, s2, s3⟩
               go_simp
               with_reducible rfl
              rotate_left
              ·simp only [Act.put, List.setIfInBounds_toArray, List.set_cons_zero, List.set_cons_succ, i64_w, i32_w]
               rfl
              refine pure_ (i := 4) (N := some 20) (v := ?_) (a' := ?_) #[true, true, true, true, true, false, false, true, true, false, false, false, false] rfl rfl (any_of HT_.out (by kernel_rfl)) (fun _ _ _ h => h) (Or.inl ⟨by rfl, ?_⟩) ?_ ?_
              rotate_left
              ·intro w'
               go_simp
               with_reducible rfl
              rotate_left
              ·simp only [Act.put, List.setIfInBounds_toArray, List.set_cons_zero, List.set_cons_succ, i64_w, i32_w]
               rfl
              refine pure_ (i := 5) (N := some 21) (v := ?_) (a' := ?_) #[true, true, true, true, true, true, false, true, true, false, false, false, false] rfl rfl (any_of HT_.out (by kernel_rfl)) (fun _ _ _ h => h) (Or.inl ⟨by rfl, ?_⟩) ?_ ?_
              rotate_left
              ·intro w'
               go_simp
               with_reducible rfl
              rotate_left
              ·simp only [Act.put, List.setIfInBounds_toArray, List.set_cons_zero, List.set_cons_succ, i64_w, i32_w]
               rfl
              refine pure_ (i := 6) (N := some 22) (v := ?_) (a' := ?_) #[true, true, true, true, true, true, true, true, true, false, false, false, false] rfl rfl (any_of HT_.out (by kernel_rfl)) (fun _ _ _ h => h) (Or.inl ⟨by rfl, ?_⟩) ?_ ?_
              rotate_left
              ·intro w'
               go_simp
               with_reducible rfl
              rotate_left
              ·simp only [Act.put, List.setIfInBounds_toArray, List.set_cons_zero, List.set_cons_succ, i64_w, i32_w]
               rfl
              refine take_ (i := 9) (N := some 25) (v := ?_) (a' := ?_) #[true, true, true, true, true, true, true, true, true, true, false, false, false] rfl rfl (take_ofW HT_.out HW_.out (by kernel_rfl)) (fun _ _ _ h => h) (Or.inl ⟨by rfl, ?_⟩) hHeld ?_ ?_
              rotate_left
              ·rintro w' ⟨s0, s1, s2, s3⟩
               go_simp
               with_reducible rfl
              rotate_left
              ·simp only [Act.put, List.setIfInBounds_toArray, List.set_cons_zero, List.set_cons_succ, i64_w, i32_w]
               rfl
              refine one_ (i := 10) (N := some 26) #[true, true, true, true, true, true, true, true, true, true, true, false, false] rfl rfl (one_of HT_.out (by kernel_rfl)) (by decide) (fun K hK => ?_)
              refine goes_ Tryd.func35 (by kernel_rfl) rfl #[.slice (some ad136) l0.length c0, .int .i64 ((rd_T45 l0 a1).f2)] (by rfl) rfl rfl (by (try simp only [List.map_toArray, List.map_cons, List.map_nil]); first | done | rfl | (simp only [List.length_drop, List.length_take]; rfl)) ?_
              with_reducible refine (ih k (by omega) _ _ l0 ((rd_T45 l0 a1).f2) t138 _ ?side1 ?side2 A12.out).mono ?_
              (case side1 => exact CB HR0)
              (case side2 => exact HC0.out)
              rintro e w35 ⟨rfl, hb⟩
              refine ⟨_, rfl, ?_⟩
              have n0_ := KB BK137 hb
              have n1_ := Aside0.mk (below_step BL hb)
              clear BK137
              clear HB
              have BK137 := n0_
              have HB := n1_
              clear n0_ n1_
              (try clear hb)
              (try clear hb2)
              (try clear hk)
              (try clear hi)
              refine hK.out _ _ ⟨(blk_cell BK137.out 0).trans rfl, (blk_cell BK137.out 1).trans rfl, (blk_cell BK137.out 2).trans rfl, (blk_cell BK137.out 3).trans rfl⟩ (fun hHeld => ?_)
              clear hK K
              refine norm_ (a' := ?_) ?_ ?_
              rotate_left
              ·show Act.put _ (some 26) _ = _
               simp only [Act.put, List.setIfInBounds_toArray, List.set_cons_zero, List.set_cons_succ, i64_w, i32_w]
               rfl
              refine pure_ (i := 11) (N := some 27) (v := ?_) (a' := ?_) #[true, true, true, true, true, true, true, true, true, true, true, true, false] rfl rfl (any_of HT_.out (by kernel_rfl)) (fun _ _ _ h => h) (Or.inl ⟨by rfl, ?_⟩) ?_ ?_
              rotate_left
              ·intro w'
               go_simp
               with_reducible rfl
              rotate_left
              ·simp only [Act.put, List.setIfInBounds_toArray, List.set_cons_zero, List.set_cons_succ, i64_w, i32_w]
               rfl
              refine pure_ (i := 12) (N := some 6) (v := ?_) (a' := ?_) #[true, true, true, true, true, true, true, true, true, true, true, true, true] rfl rfl (any_of HT_.out (by kernel_rfl)) (fun _ _ _ h => h) (Or.inl ⟨by rfl, ?_⟩) ?_ ?_
              rotate_left
              ·intro w'
               go_simp
               with_reducible rfl
              rotate_left
              ·simp only [Act.put, List.setIfInBounds_toArray, List.set_cons_zero, List.set_cons_succ, i64_w, i32_w]
               rfl
              refine done_ (done_of HT_.out (by kernel_rfl)) ?_
              obtain ⟨hcz36_0, hcz36_1, hcz36_2, hcz36_3, hfz36_0, hfz36_1, hfz36_2, hfz36_3⟩ := cz4 BK137.out
              try go_wp2_with (first | ((with_reducible refine gate_callee (f := 35) rfl ?_); refine goesS (some 41) Tryd.func35 #[.slice (some ad136) l0.length c0, .int .i64 ((rd_T45 l0 a1).f3)] ?_; (with_reducible refine (ih k (by omega) _ _ l0 ((rd_T45 l0 a1).f3) t140 _ ?side1 ?side2 A28.out).mono ?_); (case side1 => exact CB HR0); (case side2 => exact HC0.out); rintro e w37 ⟨rfl, hb⟩; refine ⟨_, rfl, ?_⟩; have n0_ := KB BK137 hb; have n1_ := Aside0.mk (below_step BL hb); clear BK137 HB; have BK137 := n0_; have HB := n1_; clear n0_ n1_; (try clear hb)))
              go_ret
              exact ⟨by first | rfl | (simp [errW_none, errW_some] <;> rfl) | (simp [*, errW_none, errW_some] <;> rfl), BL⟩
             ·rw [if_neg c30] at H
              exact absurd H (by simp)
            ·rw [if_neg c29] at H
             exact absurd H (by simp)
           ·rw [if_neg c27] at H
            exact absurd H (by simp)
          ·rw [if_neg c26] at H
           have c26b0 : (((rd_T45 l0 a1).f0) == 5) = false := beq_eq_false_iff_ne.mpr c26
           have c26b1 : (((rd_T45 l0 a1).f0) != 5) = true := bne_iff_ne.mpr c26
           by_cases c38 : ((((⟨#[32, 32, 98, 109, 106, 105, 104, 110, 116, 100]⟩ : ByteArray).extract (((rd_T45 l0 a1).f0) : Int).toNat ((wrap64 (((rd_T45 l0 a1).f0) + 1)) : Int).toNat) ++ (⟨#[40]⟩ : ByteArray)) ++ t138).size + 1 ≤ 9223372036854775807
           ·rw [if_pos c38] at H
            have c38b0 := eq_true c38
            have c38b1 : decide (((((⟨#[32, 32, 98, 109, 106, 105, 104, 110, 116, 100]⟩ : ByteArray).extract (((rd_T45 l0 a1).f0) : Int).toNat ((wrap64 (((rd_T45 l0 a1).f0) + 1)) : Int).toNat) ++ (⟨#[40]⟩ : ByteArray)) ++ t138).size + 1 ≤ 9223372036854775807) = true := decide_eq_true c38
            have c38z : (9223372036854775807 < (wrap64 ((rd_T45 l0 a1).f0 + 1)).toNat - ((rd_T45 l0 a1).f0).toNat + 1 + t138.size + 1) = False := eq_false (by have hz_ : wrap64 ((rd_T45 l0 a1).f0 + 1) ≤ 10 := OD; have hs_ : ((⟨#[32, 32, 98, 109, 106, 105, 104, 110, 116, 100]⟩ : ByteArray).extract (((rd_T45 l0 a1).f0) : Int).toNat ((wrap64 (((rd_T45 l0 a1).f0) + 1)) : Int).toNat).size = (wrap64 ((rd_T45 l0 a1).f0 + 1)).toNat - ((rd_T45 l0 a1).f0).toNat := (by rw [ByteArray.size_extract]; show min _ 10 - _ = _; omega); have h_ := of_decide_eq_true c38b1; have e1_ : (⟨#[40]⟩ : ByteArray).size = 1 := rfl; have e2_ : (⟨#[44]⟩ : ByteArray).size = 1 := rfl; simp only [ByteArray.size_append, hs_] at h_; omega)
            try have c38b2 : (9223372036854775807 < ((((⟨#[32, 32, 98, 109, 106, 105, 104, 110, 116, 100]⟩ : ByteArray).extract (((rd_T45 l0 a1).f0) : Int).toNat ((wrap64 (((rd_T45 l0 a1).f0) + 1)) : Int).toNat) ++ (⟨#[40]⟩ : ByteArray)) ++ t138).size + 1) = False := eq_false (Nat.not_lt.2 c38)
            obtain rfl := Option.some.inj H
            have p136 : 0 ≤ (a1 : Int) := OD
            have q136 : a1 < (l0.length : Int) := OD
            obtain ⟨ad136, e136, hx136_0, hx136_1, hx136_2, hx136_3⟩ := at_T45 HR0.out a1 p136 q136
            cases e136
            replace p136 := eq_true p136
            replace q136 := eq_true q136
            go_enter Tryd.func35, Tryd.ntmps35
            try go_wp2_with (first | ((with_reducible refine gate_dst (N := 5) rfl ?_); refine box_ev (N := 5) (cs := #[.int .i64 0, .string (⟨#[]⟩ : ByteArray), .int .i64 0, .int .i64 0]) (t := 45) ?_; intro gb137 hg w39 hbox hb; have n0_ := Aside0.mk (below_step BL hb); have n1_ := Aside0.mk (hbox); have n2_ := SZ (w := w) hg; have n3_ := SZ (w := w) hg; clear HB; have HB := n0_; have BK137 := n1_; have GW137 := n2_; have GE137 := n3_; clear n0_ n1_ n2_ n3_; clear hb hbox hg; obtain ⟨hcz40_0, hcz40_1, hcz40_2, hcz40_3, hfz40_0, hfz40_1, hfz40_2, hfz40_3⟩ := cz4 BK137.out))
            have n0_ : Aside0 (((((w39.setCell ⟨gb137, 0, none⟩ (.int .i64 ((rd_T45 l0 a1).f0))).setCell ⟨gb137, 1, none⟩ (.string ((rd_T45 l0 a1).f1))).setCell ⟨gb137, 2, none⟩ (.int .i64 ((rd_T45 l0 a1).f2))).setCell ⟨gb137, 3, none⟩ (.int .i64 ((rd_T45 l0 a1).f3))).heap[gb137]? = some (.cells #[.int .i64 ((rd_T45 l0 a1).f0), .string ((rd_T45 l0 a1).f1), .int .i64 ((rd_T45 l0 a1).f2), .int .i64 ((rd_T45 l0 a1).f3)] 45 (0, 0))) := ⟨by (with_reducible repeat (first | refine blk_drewN ?_ _ | refine blk_drew ?_ | refine blk_alloc ?_ _)); refine blk_put (cs := #[.int .i64 ((rd_T45 l0 a1).f0), .string ((rd_T45 l0 a1).f1), .int .i64 ((rd_T45 l0 a1).f2), .int .i64 0]) ?_ 3 _ rfl; (with_reducible repeat (first | refine blk_drewN ?_ _ | refine blk_drew ?_ | refine blk_alloc ?_ _)); refine blk_put (cs := #[.int .i64 ((rd_T45 l0 a1).f0), .string ((rd_T45 l0 a1).f1), .int .i64 0, .int .i64 0]) ?_ 2 _ rfl; (with_reducible repeat (first | refine blk_drewN ?_ _ | refine blk_drew ?_ | refine blk_alloc ?_ _)); refine blk_put (cs := #[.int .i64 ((rd_T45 l0 a1).f0), .string (⟨#[]⟩ : ByteArray), .int .i64 0, .int .i64 0]) ?_ 1 _ rfl; (with_reducible repeat (first | refine blk_drewN ?_ _ | refine blk_drew ?_ | refine blk_alloc ?_ _)); refine blk_put (cs := #[.int .i64 0, .string (⟨#[]⟩ : ByteArray), .int .i64 0, .int .i64 0]) ?_ 0 _ rfl; (with_reducible repeat (first | refine blk_drewN ?_ _ | refine blk_drew ?_ | refine blk_alloc ?_ _)); exact BK137.out⟩
            have n1_ : Aside0 (Below w.heap.size w ((((w39.setCell ⟨gb137, 0, none⟩ (.int .i64 ((rd_T45 l0 a1).f0))).setCell ⟨gb137, 1, none⟩ (.string ((rd_T45 l0 a1).f1))).setCell ⟨gb137, 2, none⟩ (.int .i64 ((rd_T45 l0 a1).f2))).setCell ⟨gb137, 3, none⟩ (.int .i64 ((rd_T45 l0 a1).f3)))) := ⟨BL⟩
            (try clear BK137)
            (try clear HB)
            generalize ((((w39.setCell ⟨gb137, 0, none⟩ (.int .i64 ((rd_T45 l0 a1).f0))).setCell ⟨gb137, 1, none⟩ (.string ((rd_T45 l0 a1).f1))).setCell ⟨gb137, 2, none⟩ (.int .i64 ((rd_T45 l0 a1).f2))).setCell ⟨gb137, 3, none⟩ (.int .i64 ((rd_T45 l0 a1).f3))) = w41 at n0_ n1_ ⊢
            have BK137 := n0_
            have HB := n1_
            clear n0_ n1_
            have n0_ := Aside0.mk (blk_drew BK137.out)
            have n1_ := Aside0.mk (below_drew1 HB.out)
            clear BK137
            clear HB
            have BK137 := n0_
            have HB := n1_
            clear n0_ n1_
            refine start_ (n := 13) (S := fun w' => w'.cell? ⟨gb137, 0, none⟩ = some (.int .i64 ((rd_T45 l0 a1).f0)) ∧ w'.cell? ⟨gb137, 1, none⟩ = some (.string ((rd_T45 l0 a1).f1)) ∧ w'.cell? ⟨gb137, 2, none⟩ = some (.int .i64 ((rd_T45 l0 a1).f2)) ∧ w'.cell? ⟨gb137, 3, none⟩ = some (.int .i64 ((rd_T45 l0 a1).f3))) (ds := []) #[false, false, false, false, false, false, false, false, false, false, false, false, false] (by kernel_rfl) rfl rfl ⟨(blk_cell BK137.out 0).trans rfl, (blk_cell BK137.out 1).trans rfl, (blk_cell BK137.out 2).trans rfl, (blk_cell BK137.out 3).trans rfl⟩ (fun hHeld => ?_); refine with_tabW spec_l16Text.tab4 spec_l16Text.bits4 (fun HT_ HW_ => ?_)
            generalize w41.drew = w42 at BK137 HB hHeld ⊢
            refine pure_ (i := 0) (N := some 16) (v := ?_) (a' := ?_) #[true, false, false, false, false, false, false, false, false, false, false, false, false] rfl rfl (any_of HT_.out (by kernel_rfl)) (fun _ _ _ h => h) (Or.inl ⟨by rfl, ?_⟩) ?_ ?_
            rotate_left
            ·intro w'
             go_simp
             with_reducible rfl
            rotate_left
            ·simp only [Act.put, List.setIfInBounds_toArray, List.set_cons_zero, List.set_cons_succ, i64_w, i32_w]
             rfl
            refine pure_ (i := 2) (N := some 18) (v := ?_) (a' := ?_) #[true, false, true, false, false, false, false, false, false, false, false, false, false] rfl rfl (any_of HT_.out (by kernel_rfl)) (fun _ _ _ h => h) (Or.inl ⟨by rfl, ?_⟩) ?_ ?_
            rotate_left
            ·intro w'
             go_simp
             with_reducible rfl
            rotate_left
            ·simp only [Act.put, List.setIfInBounds_toArray, List.set_cons_zero, List.set_cons_succ, i64_w, i32_w]
             rfl
            refine pure_ (i := 7) (N := some 23) (v := ?_) (a' := ?_) #[true, false, true, false, false, false, false, true, false, false, false, false, false] rfl rfl (any_of HT_.out (by kernel_rfl)) (fun _ _ _ h => h) (Or.inl ⟨by rfl, ?_⟩) ?_ ?_
            rotate_left
            ·intro w'
             go_simp
             with_reducible rfl
            rotate_left
            ·simp only [Act.put, List.setIfInBounds_toArray, List.set_cons_zero, List.set_cons_succ, i64_w, i32_w]
             rfl
            refine pure_ (i := 8) (N := some 24) (v := ?_) (a' := ?_) #[true, false, true, false, false, false, false, true, true, false, false, false, false] rfl rfl (any_of HT_.out (by kernel_rfl)) (fun _ _ _ h => h) (Or.inl ⟨by rfl, ?_⟩) ?_ ?_
            rotate_left
            ·intro w'
             go_simp
             with_reducible rfl
            rotate_left
            ·simp only [Act.put, List.setIfInBounds_toArray, List.set_cons_zero, List.set_cons_succ, i64_w, i32_w]
             rfl
            refine take_ (i := 1) (N := some 17) (v := ?_) (a' := ?_) #[true, true, true, false, false, false, false, true, true, false, false, false, false] rfl rfl (take_ofW HT_.out HW_.out (by kernel_rfl)) (fun _ _ _ h => h) (Or.inl ⟨by rfl, ?_⟩) hHeld ?_ ?_
            rotate_left
            ·rintro w' ⟨s0, s1, s2, s3⟩
             go_simp
             with_reducible rfl
            rotate_left
            ·simp only [Act.put, List.setIfInBounds_toArray, List.set_cons_zero, List.set_cons_succ, i64_w, i32_w]
             rfl
            refine take_ (i := 3) (N := some 19) (v := ?_) (a' := ?_) #[true, true, true, true, false, false, false, true, true, false, false, false, false] rfl rfl (take_ofW HT_.out HW_.out (by kernel_rfl)) (fun _ _ _ h => h) (Or.inl ⟨by rfl, ?_⟩) hHeld ?_ ?_
            rotate_left
            ·rintro w' ⟨s0, s1, s2, s3⟩
             go_simp
             with_reducible rfl
            rotate_left
            ·simp only [Act.put, List.setIfInBounds_toArray, List.set_cons_zero, List.set_cons_succ, i64_w, i32_w]
             rfl
            refine pure_ (i := 4) (N := some 20) (v := ?_) (a' := ?_) #[true, true, true, true, true, false, false, true, true, false, false, false, false] rfl rfl (any_of HT_.out (by kernel_rfl)) (fun _ _ _ h => h) (Or.inl ⟨by rfl, ?_⟩) ?_ ?_
            rotate_left
            ·intro w'
             go_simp
             with_reducible rfl
            rotate_left
            ·simp only [Act.put, List.setIfInBounds_toArray, List.set_cons_zero, List.set_cons_succ, i64_w, i32_w]
             rfl
            refine pure_ (i := 5) (N := some 21) (v := ?_) (a' := ?_) #[true, true, true, true, true, true, false, true, true, false, false, false, false] rfl rfl (any_of HT_.out (by kernel_rfl)) (fun _ _ _ h => h) (Or.inl ⟨by rfl, ?_⟩) ?_ ?_
            rotate_left
            ·intro w'
             go_simp
             with_reducible rfl
            rotate_left
            ·simp only [Act.put, List.setIfInBounds_toArray, List.set_cons_zero, List.set_cons_succ, i64_w, i32_w]
             rfl
            refine pure_ (i := 6) (N := some 22) (v := ?_) (a' := ?_) #[true, true, true, true, true, true, true, true, true, false, false, false, false] rfl rfl (any_of HT_.out (by kernel_rfl)) (fun _ _ _ h => h) (Or.inl ⟨by rfl, ?_⟩) ?_ ?_
            rotate_left
            ·intro w'
             go_simp
             with_reducible rfl
            rotate_left
            ·simp only [Act.put, List.setIfInBounds_toArray, List.set_cons_zero, List.set_cons_succ, i64_w, i32_w]
             rfl
            refine take_ (i := 9) (N := some 25) (v := ?_) (a' := ?_) #[true, true, true, true, true, true, true, true, true, true, false, false, false] rfl rfl (take_ofW HT_.out HW_.out (by kernel_rfl)) (fun _ _ _ h => h) (Or.inl ⟨by rfl, ?_⟩) hHeld ?_ ?_
            rotate_left
            ·rintro w' ⟨s0, s1, s2, s3⟩
             go_simp
             with_reducible rfl
            rotate_left
            ·simp only [Act.put, List.setIfInBounds_toArray, List.set_cons_zero, List.set_cons_succ, i64_w, i32_w]
             rfl
            refine one_ (i := 10) (N := some 26) #[true, true, true, true, true, true, true, true, true, true, true, false, false] rfl rfl (one_of HT_.out (by kernel_rfl)) (by decide) (fun K hK => ?_)
            refine goes_ Tryd.func35 (by kernel_rfl) rfl #[.slice (some ad136) l0.length c0, .int .i64 ((rd_T45 l0 a1).f2)] (by rfl) rfl rfl (by (try simp only [List.map_toArray, List.map_cons, List.map_nil]); first | done | rfl | (simp only [List.length_drop, List.length_take]; rfl)) ?_
            with_reducible refine (ih k (by omega) _ _ l0 ((rd_T45 l0 a1).f2) t138 _ ?side1 ?side2 A12.out).mono ?_
            (case side1 => exact CB HR0)
            (case side2 => exact HC0.out)
            rintro e w43 ⟨rfl, hb⟩
            refine ⟨_, rfl, ?_⟩
            have n0_ := KB BK137 hb
            have n1_ := Aside0.mk (below_step BL hb)
            clear BK137
            clear HB
            have BK137 := n0_
            have HB := n1_
            clear n0_ n1_
            (try clear hb)
            (try clear hb2)
            (try clear hk)
            (try clear hi)
            refine hK.out _ _ ⟨(blk_cell BK137.out 0).trans rfl, (blk_cell BK137.out 1).trans rfl, (blk_cell BK137.out 2).trans rfl, (blk_cell BK137.out 3).trans rfl⟩ (fun hHeld => ?_)
            clear hK K
            refine norm_ (a' := ?_) ?_ ?_
            rotate_left
            ·show Act.put _ (some 26) _ = _
             simp only [Act.put, List.setIfInBounds_toArray, List.set_cons_zero, List.set_cons_succ, i64_w, i32_w]
             rfl
            refine pure_ (i := 11) (N := some 27) (v := ?_) (a' := ?_) #[true, true, true, true, true, true, true, true, true, true, true, true, false] rfl rfl (any_of HT_.out (by kernel_rfl)) (fun _ _ _ h => h) (Or.inl ⟨by rfl, ?_⟩) ?_ ?_
            rotate_left
            ·intro w'
             go_simp
             with_reducible rfl
            rotate_left
            ·simp only [Act.put, List.setIfInBounds_toArray, List.set_cons_zero, List.set_cons_succ, i64_w, i32_w]
             rfl
            refine pure_ (i := 12) (N := some 6) (v := ?_) (a' := ?_) #[true, true, true, true, true, true, true, true, true, true, true, true, true] rfl rfl (any_of HT_.out (by kernel_rfl)) (fun _ _ _ h => h) (Or.inl ⟨by rfl, ?_⟩) ?_ ?_
            rotate_left
            ·intro w'
             go_simp
             with_reducible rfl
            rotate_left
            ·simp only [Act.put, List.setIfInBounds_toArray, List.set_cons_zero, List.set_cons_succ, i64_w, i32_w]
             rfl
            refine done_ (done_of HT_.out (by kernel_rfl)) ?_
            obtain ⟨hcz44_0, hcz44_1, hcz44_2, hcz44_3, hfz44_0, hfz44_1, hfz44_2, hfz44_3⟩ := cz4 BK137.out
            try go_wp2
            go_ret
            exact ⟨by first | rfl | (simp [errW_none, errW_some] <;> rfl) | (simp [*, errW_none, errW_some] <;> rfl), BL⟩
           ·rw [if_neg c38] at H
            exact absurd H (by simp)
        ·rw [if_neg c13] at H
         exact absurd H (by simp)
       ·rw [if_neg c11] at H
        exact absurd H (by simp)
      ·rw [if_neg c10] at H
       exact absurd H (by simp)
     ·rw [if_neg c9] at H
      exact absurd H (by simp)
    ·rw [if_neg c8] at H
     exact absurd H (by simp)
  ·rw [if_neg c4] at H
   exact absurd H (by simp)
 ·rw [if_neg c3] at H
  exact absurd H (by simp)
def spec_PlayText.f (k : Nat) (l0 : List (S45)) : Option (ByteArray) := (spec_IsPlay.f k l0).bind fun t141 => (if t141 = true then ((spec_l16Size.f k l0).bind fun t142 => (if t142 > 80 then (some (⟨#[]⟩ : ByteArray)) else ((spec_l16Text.f k l0 (wrap64 ((l0.length : Int) - 1))).bind fun t143 => (some t143)))) else (some (⟨#[]⟩ : ByteArray)))
set_option maxHeartbeats 8000000 in
set_option maxRecDepth 100000 in
theorem spec_PlayText.calls (k : Nat) (A0 : Option Addr) (c0 : Nat) (l0 : List (S45)) (r : ByteArray) (w : World) (hr0 : Kd.C k45 w A0 l0.length l0) (hc0 : l0.length ≤ c0) (h : spec_PlayText.f k l0 = some r) :
  Calls Tryd.prog 16 #[.slice A0 l0.length c0] w fun e w' => e = .returned (.string r) ∧ Below w.heap.size w w' := by
 have HR0 := Aside0.mk hr0
 have HC0 := Aside0.mk hc0
 clear hr0 hc0
 have HB := Aside0.mk (Below.refl w.heap.size w)
 have H : ((spec_IsPlay.f k l0).bind fun t141 => (if t141 = true then ((spec_l16Size.f k l0).bind fun t142 => (if t142 > 80 then (some (⟨#[]⟩ : ByteArray)) else ((spec_l16Text.f k l0 (wrap64 ((l0.length : Int) - 1))).bind fun t143 => (some t143)))) else (some (⟨#[]⟩ : ByteArray)))) = some r := h
 clear h
 replace H := Option.bind_eq_some_iff.mp H
 obtain ⟨t141, A20, H⟩ := H
 replace H : (if t141 = true then ((spec_l16Size.f k l0).bind fun t142 => (if t142 > 80 then (some (⟨#[]⟩ : ByteArray)) else ((spec_l16Text.f k l0 (wrap64 ((l0.length : Int) - 1))).bind fun t143 => (some t143)))) else (some (⟨#[]⟩ : ByteArray))) = some r := H
 have A2 := Aside0.mk A20
 clear A20
 by_cases c3 : t141 = true
 ·subst c3
  have H1 : ((spec_l16Size.f k l0).bind fun t142 => (if t142 > 80 then (some (⟨#[]⟩ : ByteArray)) else ((spec_l16Text.f k l0 (wrap64 ((l0.length : Int) - 1))).bind fun t143 => (some t143)))) = some r := by rw [if_pos rfl] at H; exact H
  clear H
  have H := H1
  clear H1
  replace H := Option.bind_eq_some_iff.mp H
  obtain ⟨t142, A40, H⟩ := H
  replace H : (if t142 > 80 then (some (⟨#[]⟩ : ByteArray)) else ((spec_l16Text.f k l0 (wrap64 ((l0.length : Int) - 1))).bind fun t143 => (some t143))) = some r := H
  have A4 := Aside0.mk A40
  clear A40
  by_cases c5 : t142 > 80
  ·rw [if_pos c5] at H
   have c5b0 : decide (80 < t142) = true := decide_eq_true c5
   clear c5
   obtain rfl := Option.some.inj H
   go_enter Tryd.func16, Tryd.ntmps16
   go_wp2_with (first | ((with_reducible refine gate_callee (f := 33) rfl ?_); refine goesS (some 4) Tryd.func33 #[.slice A0 l0.length c0] ?_; (with_reducible refine (spec_IsPlay.calls k _ _ l0 true _ ?side1 ?side2 A2.out).mono ?_); (case side1 => repeat (first | exact HR0.out | (with_reducible refine Kd.C_alloc ?_ _) | (with_reducible refine Kd.C_drewN ?_ _) | (with_reducible refine Kd.C_drew ?_))); (case side2 => exact HC0.out); rintro e w6 ⟨rfl, hb⟩; refine ⟨_, rfl, ?_⟩; have n0_ := Aside0.mk (below_step BL hb); clear HB; have HB := n0_; clear n0_; (try clear hb)) | (go_at_call 34; (with_reducible refine (spec_l16Size.calls k _ _ l0 t142 _ ?side1 ?side2 A4.out).mono ?_); (case side1 => exact CB HR0); (case side2 => exact HC0.out); rintro e w7 ⟨rfl, hb⟩; have n0_ := Aside0.mk (below_step BL hb); clear HB; have HB := n0_; clear n0_; (try clear hb)))
   go_ret
   exact ⟨by first | rfl | (simp [errW_none, errW_some] <;> rfl) | (simp [*, errW_none, errW_some] <;> rfl), BL⟩
  ·rw [if_neg c5] at H
   have c5b0 : decide (80 < t142) = false := decide_eq_false c5
   clear c5
   replace H := Option.bind_eq_some_iff.mp H
   obtain ⟨t143, A80, H⟩ := H
   replace H : (some t143) = some r := H
   have A8 := Aside0.mk A80
   clear A80
   obtain rfl := Option.some.inj H
   go_enter Tryd.func16, Tryd.ntmps16
   go_wp2_with (first | ((with_reducible refine gate_callee (f := 33) rfl ?_); refine goesS (some 4) Tryd.func33 #[.slice A0 l0.length c0] ?_; (with_reducible refine (spec_IsPlay.calls k _ _ l0 true _ ?side1 ?side2 A2.out).mono ?_); (case side1 => repeat (first | exact HR0.out | (with_reducible refine Kd.C_alloc ?_ _) | (with_reducible refine Kd.C_drewN ?_ _) | (with_reducible refine Kd.C_drew ?_))); (case side2 => exact HC0.out); rintro e w9 ⟨rfl, hb⟩; refine ⟨_, rfl, ?_⟩; have n0_ := Aside0.mk (below_step BL hb); clear HB; have HB := n0_; clear n0_; (try clear hb)) | (go_at_call 34; (with_reducible refine (spec_l16Size.calls k _ _ l0 t142 _ ?side1 ?side2 A4.out).mono ?_); (case side1 => exact CB HR0); (case side2 => exact HC0.out); rintro e w10 ⟨rfl, hb⟩; have n0_ := Aside0.mk (below_step BL hb); clear HB; have HB := n0_; clear n0_; (try clear hb)) | ((with_reducible refine gate_callee (f := 35) rfl ?_); refine goesS (some 15) Tryd.func35 #[.slice A0 l0.length c0, .int .i64 (wrap64 ((l0.length : Int) - 1))] ?_; (with_reducible refine (spec_l16Text.calls k _ _ l0 (wrap64 ((l0.length : Int) - 1)) t143 _ ?side1 ?side2 A8.out).mono ?_); (case side1 => exact CB HR0); (case side2 => exact HC0.out); rintro e w11 ⟨rfl, hb⟩; refine ⟨_, rfl, ?_⟩; have n0_ := Aside0.mk (below_step BL hb); clear HB; have HB := n0_; clear n0_; (try clear hb)))
   go_ret
   exact ⟨by first | rfl | (simp [errW_none, errW_some] <;> rfl) | (simp [*, errW_none, errW_some] <;> rfl), BL⟩
 ·replace c3 := Bool.eq_false_iff.mpr c3
  subst c3
  have H1 : (some (⟨#[]⟩ : ByteArray)) = some r := by rw [if_neg (show ¬ (false = true) by decide)] at H; exact H
  clear H
  have H := H1
  clear H1
  obtain rfl := Option.some.inj H
  go_enter Tryd.func16, Tryd.ntmps16
  go_wp2_with (first | ((with_reducible refine gate_callee (f := 33) rfl ?_); refine goesS (some 4) Tryd.func33 #[.slice A0 l0.length c0] ?_; (with_reducible refine (spec_IsPlay.calls k _ _ l0 false _ ?side1 ?side2 A2.out).mono ?_); (case side1 => repeat (first | exact HR0.out | (with_reducible refine Kd.C_alloc ?_ _) | (with_reducible refine Kd.C_drewN ?_ _) | (with_reducible refine Kd.C_drew ?_))); (case side2 => exact HC0.out); rintro e w12 ⟨rfl, hb⟩; refine ⟨_, rfl, ?_⟩; have n0_ := Aside0.mk (below_step BL hb); clear HB; have HB := n0_; clear n0_; (try clear hb)))
  go_ret
  exact ⟨by first | rfl | (simp [errW_none, errW_some] <;> rfl) | (simp [*, errW_none, errW_some] <;> rfl), BL⟩
def spec_IsClue.f (k : Nat) (a0_0 : Int) (l0_1 : List (S45)) : Option (Bool) := (spec_l1In.f a0_0 1 99).bind fun t145 => (if t145 = true then ((spec_IsPlay.f k l0_1).bind fun t146 => (some t146)) else (some false))
set_option maxHeartbeats 8000000 in
set_option maxRecDepth 100000 in
theorem spec_IsClue.calls (k : Nat) (a0_0 : Int) (A0_1 : Option Addr) (c0_1 : Nat) (l0_1 : List (S45)) (r : Bool) (w : World) (hr0_1 : Kd.C k45 w A0_1 l0_1.length l0_1) (hc0_1 : l0_1.length ≤ c0_1) (h : spec_IsClue.f k a0_0 l0_1 = some r) :
  Calls Tryd.prog 17 #[.agg #[.int .i64 a0_0, .slice A0_1 l0_1.length c0_1]] w fun e w' => e = .returned (.bool r) ∧ Below w.heap.size w w' := by
 have hu29 := Tryd.underlying29
 have HR0_1 := Aside0.mk hr0_1
 have HC0_1 := Aside0.mk hc0_1
 clear hr0_1 hc0_1
 have HB := Aside0.mk (Below.refl w.heap.size w)
 have H : ((spec_l1In.f a0_0 1 99).bind fun t145 => (if t145 = true then ((spec_IsPlay.f k l0_1).bind fun t146 => (some t146)) else (some false))) = some r := h
 clear h
 replace H := Option.bind_eq_some_iff.mp H
 obtain ⟨t145, A20, H⟩ := H
 replace H : (if t145 = true then ((spec_IsPlay.f k l0_1).bind fun t146 => (some t146)) else (some false)) = some r := H
 have A2 := Aside0.mk A20
 clear A20
 by_cases c3 : t145 = true
 ·subst c3
  have H1 : ((spec_IsPlay.f k l0_1).bind fun t146 => (some t146)) = some r := by rw [if_pos rfl] at H; exact H
  clear H
  have H := H1
  clear H1
  replace H := Option.bind_eq_some_iff.mp H
  obtain ⟨t146, A40, H⟩ := H
  replace H : (some t146) = some r := H
  have A4 := Aside0.mk A40
  clear A40
  obtain rfl := Option.some.inj H
  go_enter Tryd.func17, Tryd.ntmps17
  go_wp2_with (first | ((with_reducible refine gate_dst (N := 1) rfl ?_); refine box_ev (N := 1) (cs := #[.int .i64 a0_0, .slice A0_1 l0_1.length c0_1]) (t := 29) ?_; intro gb144 hg w5 hbox hb; have n0_ := Aside0.mk (below_step BL hb); have n1_ := Aside0.mk (hbox); have n2_ := SZ (w := w) hg; have n3_ := SZ (w := w) hg; clear HB; have HB := n0_; have BK144 := n1_; have GW144 := n2_; have GE144 := n3_; clear n0_ n1_ n2_ n3_; clear hb hbox hg; obtain ⟨hcz6_0, hcz6_1, hfz6_0, hfz6_1⟩ := cz2 BK144.out) | ((with_reducible refine gate_callee (f := 36) rfl ?_); refine goesS (some 5) Tryd.func36 #[.int .i64 a0_0, .int .i64 1, .int .i64 99] ?_; (with_reducible refine (spec_l1In.calls a0_0 1 99 true _ A2.out).mono ?_); rintro e w' ⟨rfl, ⟨nd, rfl⟩⟩; refine ⟨_, rfl, ?_⟩) | (go_at_call 33; (with_reducible refine (spec_IsPlay.calls k _ _ l0_1 t146 _ ?side1 ?side2 A4.out).mono ?_); (case side1 => repeat (first | exact (Kd.C_below HR0_1.out BL) | (with_reducible refine Kd.C_alloc ?_ _) | (with_reducible refine Kd.C_drewN ?_ _) | (with_reducible refine Kd.C_drew ?_))); (case side2 => exact HC0_1.out); rintro e w7 ⟨rfl, hb⟩; have n0_ := KB BK144 hb; have n1_ := Aside0.mk (below_step BL hb); clear BK144 HB; have BK144 := n0_; have HB := n1_; clear n0_ n1_; (try clear hb)))
  go_ret
  exact ⟨by first | rfl | (simp [errW_none, errW_some] <;> rfl) | (simp [*, errW_none, errW_some] <;> rfl), BL⟩
 ·replace c3 := Bool.eq_false_iff.mpr c3
  subst c3
  have H1 : (some false) = some r := by rw [if_neg (show ¬ (false = true) by decide)] at H; exact H
  clear H
  have H := H1
  clear H1
  obtain rfl := Option.some.inj H
  go_enter Tryd.func17, Tryd.ntmps17
  go_wp2_with (first | ((with_reducible refine gate_dst (N := 1) rfl ?_); refine box_ev (N := 1) (cs := #[.int .i64 a0_0, .slice A0_1 l0_1.length c0_1]) (t := 29) ?_; intro gb144 hg w8 hbox hb; have n0_ := Aside0.mk (below_step BL hb); have n1_ := Aside0.mk (hbox); have n2_ := SZ (w := w) hg; have n3_ := SZ (w := w) hg; clear HB; have HB := n0_; have BK144 := n1_; have GW144 := n2_; have GE144 := n3_; clear n0_ n1_ n2_ n3_; clear hb hbox hg; obtain ⟨hcz9_0, hcz9_1, hfz9_0, hfz9_1⟩ := cz2 BK144.out) | ((with_reducible refine gate_callee (f := 36) rfl ?_); refine goesS (some 5) Tryd.func36 #[.int .i64 a0_0, .int .i64 1, .int .i64 99] ?_; (with_reducible refine (spec_l1In.calls a0_0 1 99 false _ A2.out).mono ?_); rintro e w' ⟨rfl, ⟨nd, rfl⟩⟩; refine ⟨_, rfl, ?_⟩))
  go_ret
  exact ⟨by first | rfl | (simp [errW_none, errW_some] <;> rfl) | (simp [*, errW_none, errW_some] <;> rfl), BL⟩
def spec_FormatInt.l0 : Nat → Int → ByteArray → Int → Option (ByteArray)
 | 0, _, _, _ => none
 | k + 1, x0, x3, x4 => if x4 = 0 then (if x0 < 0 then (if 1 + x3.size ≤ 9223372036854775807 then (some ((⟨#[45]⟩ : ByteArray) ++ x3)) else (none)) else (some x3)) else (if (Int.tmod x4 10) < 0 then ((some (([(wrap64 (48 + (wrap64 (-(Int.tmod x4 10))))) % 256] : List Int) : List Int)).bind fun y147 => (if (strOfNums y147).size + x3.size ≤ 9223372036854775807 then (spec_FormatInt.l0 k x0 ((strOfNums y147) ++ x3) (wrap64 (Int.tdiv x4 10))) else (none))) else ((some (([(wrap64 (48 + (Int.tmod x4 10))) % 256] : List Int) : List Int)).bind fun y150 => (if (strOfNums y150).size + x3.size ≤ 9223372036854775807 then (spec_FormatInt.l0 k x0 ((strOfNums y150) ++ x3) (wrap64 (Int.tdiv x4 10))) else (none))))
def spec_FormatInt.f (k : Nat) (a0 : Int) : Option (ByteArray) := if a0 = 0 then (some (⟨#[48]⟩ : ByteArray)) else (spec_FormatInt.l0 k a0 (⟨#[]⟩ : ByteArray) a0)
set_option maxHeartbeats 8000000 in
set_option maxRecDepth 100000 in
theorem spec_FormatInt.calls (k : Nat) (a0 : Int) (r : ByteArray) (w : World) (h : spec_FormatInt.f k a0 = some r) :
  Calls Tryd.prog 18 #[.int .i64 a0] w fun e w' => e = .returned (.string r) ∧ Below w.heap.size w w' := by
 have HB := Aside0.mk (Below.refl w.heap.size w)
 have H : (if a0 = 0 then (some (⟨#[48]⟩ : ByteArray)) else (spec_FormatInt.l0 k a0 (⟨#[]⟩ : ByteArray) a0)) = some r := h
 clear h
 by_cases c2 : a0 = 0
 ·rw [if_pos c2] at H
  have c2b0 : (a0 == 0) = true := beq_iff_eq.mpr c2
  have c2b1 : (a0 != 0) = false := bne_eq_false_iff_eq.mpr c2
  clear c2
  obtain rfl := Option.some.inj H
  go_enter Tryd.func18, Tryd.ntmps18
  go_wp2
  go_ret
  exact ⟨by first | rfl | (simp [errW_none, errW_some] <;> rfl) | (simp [*, errW_none, errW_some] <;> rfl), BL⟩
 ·rw [if_neg c2] at H
  have c2b0 : (a0 == 0) = false := beq_eq_false_iff_ne.mpr c2
  have c2b1 : (a0 != 0) = true := bne_iff_ne.mpr c2
  have H' := Aside0.mk H
  clear H
  go_enter Tryd.func18, Tryd.ntmps18
  go_wp2
  go_loopg [3, 4] k (fun kq v3 v4 w' => ∃ (x3_1 : ByteArray) (x4_1 : Int), v3 = .string x3_1 ∧ v4 = .int .i64 x4_1 ∧ Aside0 (spec_FormatInt.l0 kq a0 x3_1 x4_1 = some r) ∧ Aside0 (kq ≤ k) ∧ Aside0 (Below w.heap.size w w'))
  case atStart => exact ⟨((⟨#[]⟩ : ByteArray)), (a0), EQ, EQ, H', ⟨Nat.le_refl _⟩, ⟨BL⟩⟩
  case round =>
   clear H'
   try clear c2
   try clear c2b0
   try clear c2b1
   obtain ⟨x3_1, x4_1, rfl, rfl, HA, HK1, HB⟩ := hrel
   cases gk with
   | zero => exact absurd HA.out (by simp [spec_FormatInt.l0])
   | succ k1 =>
    have H := HA.out
    clear HA
    simp only [spec_FormatInt.l0] at H
    by_cases c3 : x4_1 = 0
    ·rw [if_pos c3] at H
     have c3b0 : (x4_1 == 0) = true := beq_iff_eq.mpr c3
     have c3b1 : (x4_1 != 0) = false := bne_eq_false_iff_eq.mpr c3
     clear c3
     by_cases c4 : a0 < 0
     ·rw [if_pos c4] at H
      have c4b0 : decide (a0 < 0) = true := decide_eq_true c4
      clear c4
      by_cases c5 : 1 + x3_1.size ≤ 9223372036854775807
      ·rw [if_pos c5] at H
       have c5b0 := eq_true c5
       have c5b1 : decide (1 + x3_1.size ≤ 9223372036854775807) = true := decide_eq_true c5
       try have c5b2 : (9223372036854775807 < 1 + x3_1.size) = False := eq_false (Nat.not_lt.2 c5)
       obtain rfl := Option.some.inj H
       go_wp2
       go_ret
       exact ⟨by first | rfl | (simp [errW_none, errW_some] <;> rfl) | (simp [*, errW_none, errW_some] <;> rfl), BL⟩
      ·rw [if_neg c5] at H
       exact absurd H (by simp)
     ·rw [if_neg c4] at H
      have c4b0 : decide (a0 < 0) = false := decide_eq_false c4
      clear c4
      obtain rfl := Option.some.inj H
      go_wp2
      go_ret
      exact ⟨by first | rfl | (simp [errW_none, errW_some] <;> rfl) | (simp [*, errW_none, errW_some] <;> rfl), BL⟩
    ·rw [if_neg c3] at H
     have c3b0 : (x4_1 == 0) = false := beq_eq_false_iff_ne.mpr c3
     have c3b1 : (x4_1 != 0) = true := bne_iff_ne.mpr c3
     by_cases c6 : (Int.tmod x4_1 10) < 0
     ·rw [if_pos c6] at H
      have c6b0 : decide ((Int.tmod x4_1 10) < 0) = true := decide_eq_true c6
      clear c6
      obtain ⟨y147, hy147⟩ : ∃ y_ : List Int, y_ = (([(wrap64 (48 + (wrap64 (-(Int.tmod x4_1 10))))) % 256] : List Int)) := ⟨_, rfl⟩
      replace H : (if (strOfNums y147).size + x3_1.size ≤ 9223372036854775807 then (spec_FormatInt.l0 k1 a0 ((strOfNums y147) ++ x3_1) (wrap64 (Int.tdiv x4_1 10))) else (none)) = some r := by first | (rw [hy147]; with_reducible exact H) | (have H2_ := (Option.bind_some _ _).symm.trans H; rw [hy147]; with_reducible exact H2_) | (have H2_ := (Option.bind_some _ _).symm.trans H; with_reducible exact H2_) | with_reducible exact H | (rw [hy147]; exact H) | exact H
      have Ny147 := Aside0.mk hy147
      clear hy147
      by_cases c7 : (strOfNums y147).size + x3_1.size ≤ 9223372036854775807
      ·rw [if_pos c7] at H
       have c7b0 := eq_true c7
       have c7b1 : decide ((strOfNums y147).size + x3_1.size ≤ 9223372036854775807) = true := decide_eq_true c7
       try have c7b2 : (9223372036854775807 < (strOfNums y147).size + x3_1.size) = False := eq_false (Nat.not_lt.2 c7)
       have H' := Aside0.mk H
       clear H
       go_wp2_with (first | ((with_reducible refine gate_dst (N := 22) rfl ?_); refine Kd.R_lit (Kd.int .u8) _ 5 ?hg (N := 22) ?hd (xs := ([(wrap64 (48 + (wrap64 (-(Int.tmod x4_1 10))))) % 256] : List Int)) (inner := [.int .u8 ((wrap64 (48 + (wrap64 (-(Int.tmod x4_1 10))))) % 256)]) (ok := fun _ => True) (okp := fun _ => True) ?hr ?hp (fun _ hk => hk) trivial (Below.refl _ _) (Nat.le_refl _) (by simp) ?_; (case hd => rfl); (case hg => rfl); (case hr => first | (go_simp; done) | (go_simp; rfl)); (case hp => exact (Reps.one (show Kd.M (Kd.int .u8) _ _ _ ((wrap64 (48 + (wrap64 (-(Int.tmod x4_1 10))))) % 256) [.int .u8 ((wrap64 (48 + (wrap64 (-(Int.tmod x4_1 10))))) % 256)] from rfl) (Reps.none _ _))); intro v148 w8 ho9 hb hg_ hnew_; clear hg_ hnew_; (first | rw [← Ny147.out] at ho9 | (simp only [Int.reduceToNat] at ho9; rw [← Ny147.out] at ho9)); have n0_ := Aside0.mk (Kd.R_lower ho9 (below_size BL)); have n1_ := Aside0.mk (below_step BL hb); clear HB; have HO149 := n0_; have HB := n1_; clear n0_ n1_; clear hb ho9; have hcv10 := own_string (P := Tryd.prog) Tryd.underlying55 Tryd.underlying5 Tryd.underlying9 (Kd.own_of_R HO149.out)))
       go_roundg k1
       case measure => have := HK1.out; omega
       case rel => exact ⟨((strOfNums y147) ++ x3_1), (wrap64 (Int.tdiv x4_1 10)), EQ, EQ, H', ⟨by have := HK1.out; omega⟩, ⟨BL⟩⟩
      ·rw [if_neg c7] at H
       exact absurd H (by simp)
     ·rw [if_neg c6] at H
      have c6b0 : decide ((Int.tmod x4_1 10) < 0) = false := decide_eq_false c6
      clear c6
      obtain ⟨y150, hy150⟩ : ∃ y_ : List Int, y_ = (([(wrap64 (48 + (Int.tmod x4_1 10))) % 256] : List Int)) := ⟨_, rfl⟩
      replace H : (if (strOfNums y150).size + x3_1.size ≤ 9223372036854775807 then (spec_FormatInt.l0 k1 a0 ((strOfNums y150) ++ x3_1) (wrap64 (Int.tdiv x4_1 10))) else (none)) = some r := by first | (rw [hy150]; with_reducible exact H) | (have H2_ := (Option.bind_some _ _).symm.trans H; rw [hy150]; with_reducible exact H2_) | (have H2_ := (Option.bind_some _ _).symm.trans H; with_reducible exact H2_) | with_reducible exact H | (rw [hy150]; exact H) | exact H
      have Ny150 := Aside0.mk hy150
      clear hy150
      by_cases c11 : (strOfNums y150).size + x3_1.size ≤ 9223372036854775807
      ·rw [if_pos c11] at H
       have c11b0 := eq_true c11
       have c11b1 : decide ((strOfNums y150).size + x3_1.size ≤ 9223372036854775807) = true := decide_eq_true c11
       try have c11b2 : (9223372036854775807 < (strOfNums y150).size + x3_1.size) = False := eq_false (Nat.not_lt.2 c11)
       have H' := Aside0.mk H
       clear H
       go_wp2_with (first | ((with_reducible refine gate_dst (N := 22) rfl ?_); refine Kd.R_lit (Kd.int .u8) _ 5 ?hg (N := 22) ?hd (xs := ([(wrap64 (48 + (Int.tmod x4_1 10))) % 256] : List Int)) (inner := [.int .u8 ((wrap64 (48 + (Int.tmod x4_1 10))) % 256)]) (ok := fun _ => True) (okp := fun _ => True) ?hr ?hp (fun _ hk => hk) trivial (Below.refl _ _) (Nat.le_refl _) (by simp) ?_; (case hd => rfl); (case hg => rfl); (case hr => first | (go_simp; done) | (go_simp; rfl)); (case hp => exact (Reps.one (show Kd.M (Kd.int .u8) _ _ _ ((wrap64 (48 + (Int.tmod x4_1 10))) % 256) [.int .u8 ((wrap64 (48 + (Int.tmod x4_1 10))) % 256)] from rfl) (Reps.none _ _))); intro v151 w12 ho13 hb hg_ hnew_; clear hg_ hnew_; (first | rw [← Ny150.out] at ho13 | (simp only [Int.reduceToNat] at ho13; rw [← Ny150.out] at ho13)); have n0_ := Aside0.mk (Kd.R_lower ho13 (below_size BL)); have n1_ := Aside0.mk (below_step BL hb); clear HB; have HO152 := n0_; have HB := n1_; clear n0_ n1_; clear hb ho13; have hcv14 := own_string (P := Tryd.prog) Tryd.underlying55 Tryd.underlying5 Tryd.underlying9 (Kd.own_of_R HO152.out)))
       go_roundg k1
       case measure => have := HK1.out; omega
       case rel => exact ⟨((strOfNums y150) ++ x3_1), (wrap64 (Int.tdiv x4_1 10)), EQ, EQ, H', ⟨by have := HK1.out; omega⟩, ⟨BL⟩⟩
      ·rw [if_neg c11] at H
       exact absurd H (by simp)
end Go.Proofs.YtddacmgigolcbaaDoor.PFnExactClueText
