/- Functions of the program as plain Lean functions, and that the Go code comes to what they say; this text was laid out by a program and then mended. -/
import Derived.Test.YtfnpmkmdpbgjkaaPFnExactPlayTextx0
import Derived.Test.YtfnpmkmdpbgjkaaPFnExactPlayTextx1
import Derived.Test.YtfnpmkmdpbgjkaaPFnExactPlayTextx4
import Derived.Test.YtfnpmkmdpbgjkaaPFnExactPlayTextx5
import Derived.Test.YtfnpmkmdpbgjkaaPFnExactPlayTextx6
namespace Go.Proofs.Ytfnpmkmdpbgjkaa.PFnExactPlayText
open Go.RowKit Go.Proofs.YtfnpmkmdpbgjkaaW.PrintWords Go.Proofs.YtfnpmkmdpbgjkaaW.PrintLast Go.Proofs.YtfnpmkmdpbgjkaaW.PrintMore
attribute [local go_sem] max2_int min2_int max_two min_two max_three min_three max_four min_four   -- for this text's walks alone
set_option linter.unusedVariables false
set_option linter.unusedSimpArgs false

/-! ### impl_playText: function 86 -/
def impl_playText.f : Nat → List (S88) → Int → Option (ByteArray)
  | 0, _, _ => none
  | k + 1, l0, a1 => if 0 ≤ a1 then (if a1 < (l0.length : Int) then (if ((rd_T88 l0 a1).f0) = 1 then (some ((rd_T88 l0 a1).f1)) else (if 0 ≤ ((rd_T88 l0 a1).f0) then (if ((rd_T88 l0 a1).f0) ≤ (wrap64 (((rd_T88 l0 a1).f0) + 1)) then (if (wrap64 (((rd_T88 l0 a1).f0) + 1)) ≤ 10 then (if ((⟨#[63, 63, 98, 109, 106, 105, 104, 110, 116, 100]⟩ : ByteArray).extract (((rd_T88 l0 a1).f0) : Int).toNat ((wrap64 (((rd_T88 l0 a1).f0) + 1)) : Int).toNat).size + 1 ≤ 9223372036854775807 then ((impl_playText.f k l0 ((rd_T88 l0 a1).f2)).bind fun t175 => (if (((⟨#[63, 63, 98, 109, 106, 105, 104, 110, 116, 100]⟩ : ByteArray).extract (((rd_T88 l0 a1).f0) : Int).toNat ((wrap64 (((rd_T88 l0 a1).f0) + 1)) : Int).toNat) ++ (⟨#[40]⟩ : ByteArray)).size + t175.size ≤ 9223372036854775807 then ((impl_isPair.f ((rd_T88 l0 a1).f0)).bind fun t176 => (if t176 = true then ((impl_playText.f k l0 ((rd_T88 l0 a1).f3)).bind fun t177 => (if 1 + t177.size ≤ 9223372036854775807 then (if ((((⟨#[63, 63, 98, 109, 106, 105, 104, 110, 116, 100]⟩ : ByteArray).extract (((rd_T88 l0 a1).f0) : Int).toNat ((wrap64 (((rd_T88 l0 a1).f0) + 1)) : Int).toNat) ++ (⟨#[40]⟩ : ByteArray)) ++ t175).size + ((⟨#[44]⟩ : ByteArray) ++ t177).size ≤ 9223372036854775807 then (if (((((⟨#[63, 63, 98, 109, 106, 105, 104, 110, 116, 100]⟩ : ByteArray).extract (((rd_T88 l0 a1).f0) : Int).toNat ((wrap64 (((rd_T88 l0 a1).f0) + 1)) : Int).toNat) ++ (⟨#[40]⟩ : ByteArray)) ++ t175) ++ ((⟨#[44]⟩ : ByteArray) ++ t177)).size + 1 ≤ 9223372036854775807 then (some ((((((⟨#[63, 63, 98, 109, 106, 105, 104, 110, 116, 100]⟩ : ByteArray).extract (((rd_T88 l0 a1).f0) : Int).toNat ((wrap64 (((rd_T88 l0 a1).f0) + 1)) : Int).toNat) ++ (⟨#[40]⟩ : ByteArray)) ++ t175) ++ ((⟨#[44]⟩ : ByteArray) ++ t177)) ++ (⟨#[41]⟩ : ByteArray))) else (none)) else (none)) else (none))) else (if ((((⟨#[63, 63, 98, 109, 106, 105, 104, 110, 116, 100]⟩ : ByteArray).extract (((rd_T88 l0 a1).f0) : Int).toNat ((wrap64 (((rd_T88 l0 a1).f0) + 1)) : Int).toNat) ++ (⟨#[40]⟩ : ByteArray)) ++ t175).size + 1 ≤ 9223372036854775807 then (some (((((⟨#[63, 63, 98, 109, 106, 105, 104, 110, 116, 100]⟩ : ByteArray).extract (((rd_T88 l0 a1).f0) : Int).toNat ((wrap64 (((rd_T88 l0 a1).f0) + 1)) : Int).toNat) ++ (⟨#[40]⟩ : ByteArray)) ++ t175) ++ (⟨#[41]⟩ : ByteArray))) else (none)))) else (none))) else (none)) else (none)) else (none)) else (none))) else (none)) else (none)
theorem impl_playText.mono_l : ∀ k, (∀ y0 y1, LeO (impl_playText.f k y0 y1) (impl_playText.f (k + 1) y0 y1))
  | 0 => fun _ _ r h => by simp [impl_playText.f] at h
  | k + 1 => by
    have ih0 := impl_playText.mono_l k
    · intro y0 y1
      unfold impl_playText.f
      repeat' first
      | (with_reducible exact ih0 _ _)
      | (with_reducible exact LeO.refl _)
      | (with_reducible exact LeO.none _)
      | (with_reducible refine LeO.ite ?_ ?_)
      | (with_reducible refine LeO.bind ?_ (fun _ => ?_))
      | exact ih0 _ _
      | exact LeO.none _
      | refine LeO.ite ?_ ?_
      | refine LeO.bind ?_ (fun _ => ?_)
theorem impl_playText.mono : ∀ a0 a1 k, LeO (impl_playText.f k a0 a1) (impl_playText.f (k + 1) a0 a1) := by
  intro a0 a1 k
  have ih0 := impl_playText.mono_l k
  exact ih0 a0 a1
def impl_playText.T4 : Bool × List (List Nat × List Nat) := (true, [([], []), ([0], [0]), ([], []), ([2], [2]), ([3], [3]), ([1, 4], [1, 4]), ([5], [5]), ([], []), ([], []), ([8], [8]), ([7, 9], [7, 9]), ([6, 10], [6, 10]), ([11, 10, 0, 1, 2, 3, 4, 5, 6, 7, 8, 9, 10, 11], [11])])
def impl_playText.B4 : List Nat := [0, 1, 0, 4, 12, 31, 63, 0, 0, 256, 896, 2047, 4095]
theorem impl_playText.tab4 : rtab .any (opsOf Try.f86 4) = impl_playText.T4 := by kernel_rfl
theorem impl_playText.bits4 : waitsOk impl_playText.T4.2 impl_playText.B4 = true := by kernel_rfl
set_option maxHeartbeats 8000000 in
set_option maxRecDepth 100000 in
theorem impl_playText.calls (k : Nat) : ∀ (A0 : Option Addr) (c0 : Nat) (l0 : List (S88)) (a1 : Int) (r : ByteArray) (w : World) (hr0 : Kd.C k88 w A0 l0.length l0) (hc0 : l0.length ≤ c0) (h : impl_playText.f k l0 a1 = some r),
    Calls Try.prog 86 #[.slice A0 l0.length c0, .int .i64 a1] w fun e w' => e = .returned (.string r) ∧ Below w.heap.size w w' := by
  induction k using Nat.strongRecOn with
  | _ k ih =>
  intro A0 c0 l0 a1 r w hr0 hc0 h
  cases k with
  | zero => exact absurd h (by simp [impl_playText.f])
  | succ k =>
  simp only [impl_playText.f] at h
  have hu88 := Try.underlying88
  have HR0 := Aside0.mk hr0
  have HC0 := Aside0.mk hc0
  clear hr0 hc0
  have HB := Aside0.mk (Below.refl w.heap.size w)
  have H : (if 0 ≤ a1 then (if a1 < (l0.length : Int) then (if ((rd_T88 l0 a1).f0) = 1 then (some ((rd_T88 l0 a1).f1)) else (if 0 ≤ ((rd_T88 l0 a1).f0) then (if ((rd_T88 l0 a1).f0) ≤ (wrap64 (((rd_T88 l0 a1).f0) + 1)) then (if (wrap64 (((rd_T88 l0 a1).f0) + 1)) ≤ 10 then (if ((⟨#[63, 63, 98, 109, 106, 105, 104, 110, 116, 100]⟩ : ByteArray).extract (((rd_T88 l0 a1).f0) : Int).toNat ((wrap64 (((rd_T88 l0 a1).f0) + 1)) : Int).toNat).size + 1 ≤ 9223372036854775807 then ((impl_playText.f k l0 ((rd_T88 l0 a1).f2)).bind fun t175 => (if (((⟨#[63, 63, 98, 109, 106, 105, 104, 110, 116, 100]⟩ : ByteArray).extract (((rd_T88 l0 a1).f0) : Int).toNat ((wrap64 (((rd_T88 l0 a1).f0) + 1)) : Int).toNat) ++ (⟨#[40]⟩ : ByteArray)).size + t175.size ≤ 9223372036854775807 then ((impl_isPair.f ((rd_T88 l0 a1).f0)).bind fun t176 => (if t176 = true then ((impl_playText.f k l0 ((rd_T88 l0 a1).f3)).bind fun t177 => (if 1 + t177.size ≤ 9223372036854775807 then (if ((((⟨#[63, 63, 98, 109, 106, 105, 104, 110, 116, 100]⟩ : ByteArray).extract (((rd_T88 l0 a1).f0) : Int).toNat ((wrap64 (((rd_T88 l0 a1).f0) + 1)) : Int).toNat) ++ (⟨#[40]⟩ : ByteArray)) ++ t175).size + ((⟨#[44]⟩ : ByteArray) ++ t177).size ≤ 9223372036854775807 then (if (((((⟨#[63, 63, 98, 109, 106, 105, 104, 110, 116, 100]⟩ : ByteArray).extract (((rd_T88 l0 a1).f0) : Int).toNat ((wrap64 (((rd_T88 l0 a1).f0) + 1)) : Int).toNat) ++ (⟨#[40]⟩ : ByteArray)) ++ t175) ++ ((⟨#[44]⟩ : ByteArray) ++ t177)).size + 1 ≤ 9223372036854775807 then (some ((((((⟨#[63, 63, 98, 109, 106, 105, 104, 110, 116, 100]⟩ : ByteArray).extract (((rd_T88 l0 a1).f0) : Int).toNat ((wrap64 (((rd_T88 l0 a1).f0) + 1)) : Int).toNat) ++ (⟨#[40]⟩ : ByteArray)) ++ t175) ++ ((⟨#[44]⟩ : ByteArray) ++ t177)) ++ (⟨#[41]⟩ : ByteArray))) else (none)) else (none)) else (none))) else (if ((((⟨#[63, 63, 98, 109, 106, 105, 104, 110, 116, 100]⟩ : ByteArray).extract (((rd_T88 l0 a1).f0) : Int).toNat ((wrap64 (((rd_T88 l0 a1).f0) + 1)) : Int).toNat) ++ (⟨#[40]⟩ : ByteArray)) ++ t175).size + 1 ≤ 9223372036854775807 then (some (((((⟨#[63, 63, 98, 109, 106, 105, 104, 110, 116, 100]⟩ : ByteArray).extract (((rd_T88 l0 a1).f0) : Int).toNat ((wrap64 (((rd_T88 l0 a1).f0) + 1)) : Int).toNat) ++ (⟨#[40]⟩ : ByteArray)) ++ t175) ++ (⟨#[41]⟩ : ByteArray))) else (none)))) else (none))) else (none)) else (none)) else (none)) else (none))) else (none)) else (none)) = some r := h
  clear h
  by_cases c3 : 0 ≤ a1
  · rw [if_pos c3] at H
    have c3b0 : decide (0 ≤ a1) = true := decide_eq_true c3
    clear c3
    by_cases c4 : a1 < (l0.length : Int)
    · rw [if_pos c4] at H
      have c4b0 : decide (a1 < (l0.length : Int)) = true := decide_eq_true c4
      clear c4
      by_cases c5 : ((rd_T88 l0 a1).f0) = 1
      · rw [if_pos c5] at H
        have c5b0 : (((rd_T88 l0 a1).f0) == 1) = true := beq_iff_eq.mpr c5
        have c5b1 : (((rd_T88 l0 a1).f0) != 1) = false := bne_eq_false_iff_eq.mpr c5
        clear c5
        obtain rfl := Option.some.inj H
        have p173 : 0 ≤ (a1 : Int) := of_decide_eq_true (by first | (with_reducible assumption) | assumption)
        have q173 : a1 < (l0.length : Int) := of_decide_eq_true (by first | (with_reducible assumption) | assumption)
        obtain ⟨ad173, e173, hx173_0, hx173_1, hx173_2, hx173_3⟩ := at_T88 HR0.out a1 p173 q173
        cases e173
        replace p173 := eq_true p173
        replace q173 := eq_true q173
        go_enter Try.func86, Try.ntmps86
        go_wp2_with (first | ((with_reducible refine gate_dst (N := 5) rfl ?_); refine box_event ?hg (N := 5) ?hd (cs := #[.int .i64 0, .string (⟨#[]⟩ : ByteArray), .int .i64 0, .int .i64 0]) (t := 88) ?hr ?_; (case hd => rfl); (case hg => rfl); (case hr => first | (go_simp; done) | (go_simp; rfl)); intro gb174 hg w6 hbox hb; have n0_ := Aside0.mk (below_step (by repeat (first | (with_reducible first | exact HB.out | apply below_alloc | apply pw_below_drewN | apply below_drew1) | exact HB.out)) hb); have n1_ := Aside0.mk (hbox); have n2_ := Aside0.mk ((by rw [hg]; exact (below_size (by repeat (first | (with_reducible first | exact HB.out | apply below_alloc | apply pw_below_drewN | apply below_drew1) | exact HB.out))) : w.heap.size ≤ gb174)); have n3_ := Aside0.mk ((by rw [hg]; exact (below_size (by repeat (first | (with_reducible first | exact HB.out | apply below_alloc | apply pw_below_drewN | apply below_drew1) | exact HB.out))) : w.heap.size ≤ gb174)); clear HB; have HB := n0_; have BK174 := n1_; have GW174 := n2_; have GE174 := n3_; clear n0_ n1_ n2_ n3_; clear hb hbox hg; have hcz7_0 : w6.cell? ⟨gb174, 0, none⟩ = some (.int .i64 0) := (blk_cell BK174.out 0).trans rfl; have hcz7_1 : w6.cell? ⟨gb174, 1, none⟩ = some (.string (⟨#[]⟩ : ByteArray)) := (blk_cell BK174.out 1).trans rfl; have hcz7_2 : w6.cell? ⟨gb174, 2, none⟩ = some (.int .i64 0) := (blk_cell BK174.out 2).trans rfl; have hcz7_3 : w6.cell? ⟨gb174, 3, none⟩ = some (.int .i64 0) := (blk_cell BK174.out 3).trans rfl; have hfz7_0 := blk_frozen BK174.out 0; have hfz7_1 := blk_frozen BK174.out 1; have hfz7_2 := blk_frozen BK174.out 2; have hfz7_3 := blk_frozen BK174.out 3))
        go_ret
        exact ⟨by first | rfl | (simp [errW_none, errW_some] <;> rfl) | (simp [*, errW_none, errW_some] <;> rfl), by repeat (first | (with_reducible first | exact HB.out | apply below_alloc | apply pw_below_drewN | apply below_drew1 | refine below_set ?_ GE174.out) | exact HB.out)⟩
      · rw [if_neg c5] at H
        have c5b0 : (((rd_T88 l0 a1).f0) == 1) = false := beq_eq_false_iff_ne.mpr c5
        have c5b1 : (((rd_T88 l0 a1).f0) != 1) = true := bne_iff_ne.mpr c5
        by_cases c8 : 0 ≤ ((rd_T88 l0 a1).f0)
        · rw [if_pos c8] at H
          have c8b0 := eq_true c8
          have c8b1 : decide (0 ≤ ((rd_T88 l0 a1).f0)) = true := decide_eq_true c8
          clear c8
          by_cases c9 : ((rd_T88 l0 a1).f0) ≤ (wrap64 (((rd_T88 l0 a1).f0) + 1))
          · rw [if_pos c9] at H
            have c9b0 := eq_true c9
            have c9b1 : decide (((rd_T88 l0 a1).f0) ≤ (wrap64 (((rd_T88 l0 a1).f0) + 1))) = true := decide_eq_true c9
            by_cases c10 : (wrap64 (((rd_T88 l0 a1).f0) + 1)) ≤ 10
            · rw [if_pos c10] at H
              have c10b0 := eq_true c10
              have c10b1 : decide ((wrap64 (((rd_T88 l0 a1).f0) + 1)) ≤ 10) = true := decide_eq_true c10
              by_cases c11 : ((⟨#[63, 63, 98, 109, 106, 105, 104, 110, 116, 100]⟩ : ByteArray).extract (((rd_T88 l0 a1).f0) : Int).toNat ((wrap64 (((rd_T88 l0 a1).f0) + 1)) : Int).toNat).size + 1 ≤ 9223372036854775807
              · rw [if_pos c11] at H
                have c11b0 := eq_true c11
                have c11b1 : decide (((⟨#[63, 63, 98, 109, 106, 105, 104, 110, 116, 100]⟩ : ByteArray).extract (((rd_T88 l0 a1).f0) : Int).toNat ((wrap64 (((rd_T88 l0 a1).f0) + 1)) : Int).toNat).size + 1 ≤ 9223372036854775807) = true := decide_eq_true c11
                have c11z : (9223372036854775807 < (wrap64 ((rd_T88 l0 a1).f0 + 1)).toNat - ((rd_T88 l0 a1).f0).toNat + 1) = False := eq_false (by have hz_ : wrap64 ((rd_T88 l0 a1).f0 + 1) ≤ 10 := of_decide_eq_true (by first | (with_reducible assumption) | assumption); have hs_ : ((⟨#[63, 63, 98, 109, 106, 105, 104, 110, 116, 100]⟩ : ByteArray).extract (((rd_T88 l0 a1).f0) : Int).toNat ((wrap64 (((rd_T88 l0 a1).f0) + 1)) : Int).toNat).size = (wrap64 ((rd_T88 l0 a1).f0 + 1)).toNat - ((rd_T88 l0 a1).f0).toNat := (by rw [ByteArray.size_extract]; show min _ 10 - _ = _; omega); have h_ := of_decide_eq_true c11b1; have e1_ : (⟨#[40]⟩ : ByteArray).size = 1 := rfl; have e2_ : (⟨#[44]⟩ : ByteArray).size = 1 := rfl; simp only [ByteArray.size_append, hs_] at h_; omega)
                try have c11b2 : (9223372036854775807 < ((⟨#[63, 63, 98, 109, 106, 105, 104, 110, 116, 100]⟩ : ByteArray).extract (((rd_T88 l0 a1).f0) : Int).toNat ((wrap64 (((rd_T88 l0 a1).f0) + 1)) : Int).toNat).size + 1) = False := eq_false (Nat.not_lt.2 c11)
                replace H := Option.bind_eq_some_iff.mp H
                obtain ⟨t175, A120, H⟩ := H
                replace H : (if (((⟨#[63, 63, 98, 109, 106, 105, 104, 110, 116, 100]⟩ : ByteArray).extract (((rd_T88 l0 a1).f0) : Int).toNat ((wrap64 (((rd_T88 l0 a1).f0) + 1)) : Int).toNat) ++ (⟨#[40]⟩ : ByteArray)).size + t175.size ≤ 9223372036854775807 then ((impl_isPair.f ((rd_T88 l0 a1).f0)).bind fun t176 => (if t176 = true then ((impl_playText.f k l0 ((rd_T88 l0 a1).f3)).bind fun t177 => (if 1 + t177.size ≤ 9223372036854775807 then (if ((((⟨#[63, 63, 98, 109, 106, 105, 104, 110, 116, 100]⟩ : ByteArray).extract (((rd_T88 l0 a1).f0) : Int).toNat ((wrap64 (((rd_T88 l0 a1).f0) + 1)) : Int).toNat) ++ (⟨#[40]⟩ : ByteArray)) ++ t175).size + ((⟨#[44]⟩ : ByteArray) ++ t177).size ≤ 9223372036854775807 then (if (((((⟨#[63, 63, 98, 109, 106, 105, 104, 110, 116, 100]⟩ : ByteArray).extract (((rd_T88 l0 a1).f0) : Int).toNat ((wrap64 (((rd_T88 l0 a1).f0) + 1)) : Int).toNat) ++ (⟨#[40]⟩ : ByteArray)) ++ t175) ++ ((⟨#[44]⟩ : ByteArray) ++ t177)).size + 1 ≤ 9223372036854775807 then (some ((((((⟨#[63, 63, 98, 109, 106, 105, 104, 110, 116, 100]⟩ : ByteArray).extract (((rd_T88 l0 a1).f0) : Int).toNat ((wrap64 (((rd_T88 l0 a1).f0) + 1)) : Int).toNat) ++ (⟨#[40]⟩ : ByteArray)) ++ t175) ++ ((⟨#[44]⟩ : ByteArray) ++ t177)) ++ (⟨#[41]⟩ : ByteArray))) else (none)) else (none)) else (none))) else (if ((((⟨#[63, 63, 98, 109, 106, 105, 104, 110, 116, 100]⟩ : ByteArray).extract (((rd_T88 l0 a1).f0) : Int).toNat ((wrap64 (((rd_T88 l0 a1).f0) + 1)) : Int).toNat) ++ (⟨#[40]⟩ : ByteArray)) ++ t175).size + 1 ≤ 9223372036854775807 then (some (((((⟨#[63, 63, 98, 109, 106, 105, 104, 110, 116, 100]⟩ : ByteArray).extract (((rd_T88 l0 a1).f0) : Int).toNat ((wrap64 (((rd_T88 l0 a1).f0) + 1)) : Int).toNat) ++ (⟨#[40]⟩ : ByteArray)) ++ t175) ++ (⟨#[41]⟩ : ByteArray))) else (none)))) else (none)) = some r := H
                have A12 := Aside0.mk A120
                clear A120
                by_cases c13 : (((⟨#[63, 63, 98, 109, 106, 105, 104, 110, 116, 100]⟩ : ByteArray).extract (((rd_T88 l0 a1).f0) : Int).toNat ((wrap64 (((rd_T88 l0 a1).f0) + 1)) : Int).toNat) ++ (⟨#[40]⟩ : ByteArray)).size + t175.size ≤ 9223372036854775807
                · rw [if_pos c13] at H
                  have c13b0 := eq_true c13
                  have c13b1 : decide ((((⟨#[63, 63, 98, 109, 106, 105, 104, 110, 116, 100]⟩ : ByteArray).extract (((rd_T88 l0 a1).f0) : Int).toNat ((wrap64 (((rd_T88 l0 a1).f0) + 1)) : Int).toNat) ++ (⟨#[40]⟩ : ByteArray)).size + t175.size ≤ 9223372036854775807) = true := decide_eq_true c13
                  have c13z : (9223372036854775807 < (wrap64 ((rd_T88 l0 a1).f0 + 1)).toNat - ((rd_T88 l0 a1).f0).toNat + 1 + t175.size) = False := eq_false (by have hz_ : wrap64 ((rd_T88 l0 a1).f0 + 1) ≤ 10 := of_decide_eq_true (by first | (with_reducible assumption) | assumption); have hs_ : ((⟨#[63, 63, 98, 109, 106, 105, 104, 110, 116, 100]⟩ : ByteArray).extract (((rd_T88 l0 a1).f0) : Int).toNat ((wrap64 (((rd_T88 l0 a1).f0) + 1)) : Int).toNat).size = (wrap64 ((rd_T88 l0 a1).f0 + 1)).toNat - ((rd_T88 l0 a1).f0).toNat := (by rw [ByteArray.size_extract]; show min _ 10 - _ = _; omega); have h_ := of_decide_eq_true c13b1; have e1_ : (⟨#[40]⟩ : ByteArray).size = 1 := rfl; have e2_ : (⟨#[44]⟩ : ByteArray).size = 1 := rfl; simp only [ByteArray.size_append, hs_] at h_; omega)
                  try have c13b2 : (9223372036854775807 < (((⟨#[63, 63, 98, 109, 106, 105, 104, 110, 116, 100]⟩ : ByteArray).extract (((rd_T88 l0 a1).f0) : Int).toNat ((wrap64 (((rd_T88 l0 a1).f0) + 1)) : Int).toNat) ++ (⟨#[40]⟩ : ByteArray)).size + t175.size) = False := eq_false (Nat.not_lt.2 c13)
                  replace H := Option.bind_eq_some_iff.mp H
                  obtain ⟨t176, A140, H⟩ := H
                  replace H : (if t176 = true then ((impl_playText.f k l0 ((rd_T88 l0 a1).f3)).bind fun t177 => (if 1 + t177.size ≤ 9223372036854775807 then (if ((((⟨#[63, 63, 98, 109, 106, 105, 104, 110, 116, 100]⟩ : ByteArray).extract (((rd_T88 l0 a1).f0) : Int).toNat ((wrap64 (((rd_T88 l0 a1).f0) + 1)) : Int).toNat) ++ (⟨#[40]⟩ : ByteArray)) ++ t175).size + ((⟨#[44]⟩ : ByteArray) ++ t177).size ≤ 9223372036854775807 then (if (((((⟨#[63, 63, 98, 109, 106, 105, 104, 110, 116, 100]⟩ : ByteArray).extract (((rd_T88 l0 a1).f0) : Int).toNat ((wrap64 (((rd_T88 l0 a1).f0) + 1)) : Int).toNat) ++ (⟨#[40]⟩ : ByteArray)) ++ t175) ++ ((⟨#[44]⟩ : ByteArray) ++ t177)).size + 1 ≤ 9223372036854775807 then (some ((((((⟨#[63, 63, 98, 109, 106, 105, 104, 110, 116, 100]⟩ : ByteArray).extract (((rd_T88 l0 a1).f0) : Int).toNat ((wrap64 (((rd_T88 l0 a1).f0) + 1)) : Int).toNat) ++ (⟨#[40]⟩ : ByteArray)) ++ t175) ++ ((⟨#[44]⟩ : ByteArray) ++ t177)) ++ (⟨#[41]⟩ : ByteArray))) else (none)) else (none)) else (none))) else (if ((((⟨#[63, 63, 98, 109, 106, 105, 104, 110, 116, 100]⟩ : ByteArray).extract (((rd_T88 l0 a1).f0) : Int).toNat ((wrap64 (((rd_T88 l0 a1).f0) + 1)) : Int).toNat) ++ (⟨#[40]⟩ : ByteArray)) ++ t175).size + 1 ≤ 9223372036854775807 then (some (((((⟨#[63, 63, 98, 109, 106, 105, 104, 110, 116, 100]⟩ : ByteArray).extract (((rd_T88 l0 a1).f0) : Int).toNat ((wrap64 (((rd_T88 l0 a1).f0) + 1)) : Int).toNat) ++ (⟨#[40]⟩ : ByteArray)) ++ t175) ++ (⟨#[41]⟩ : ByteArray))) else (none))) = some r := H
                  have A14 := Aside0.mk A140
                  clear A140
                  by_cases c15 : t176 = true
                  · subst c15
                    have H1 : ((impl_playText.f k l0 ((rd_T88 l0 a1).f3)).bind fun t177 => (if 1 + t177.size ≤ 9223372036854775807 then (if ((((⟨#[63, 63, 98, 109, 106, 105, 104, 110, 116, 100]⟩ : ByteArray).extract (((rd_T88 l0 a1).f0) : Int).toNat ((wrap64 (((rd_T88 l0 a1).f0) + 1)) : Int).toNat) ++ (⟨#[40]⟩ : ByteArray)) ++ t175).size + ((⟨#[44]⟩ : ByteArray) ++ t177).size ≤ 9223372036854775807 then (if (((((⟨#[63, 63, 98, 109, 106, 105, 104, 110, 116, 100]⟩ : ByteArray).extract (((rd_T88 l0 a1).f0) : Int).toNat ((wrap64 (((rd_T88 l0 a1).f0) + 1)) : Int).toNat) ++ (⟨#[40]⟩ : ByteArray)) ++ t175) ++ ((⟨#[44]⟩ : ByteArray) ++ t177)).size + 1 ≤ 9223372036854775807 then (some ((((((⟨#[63, 63, 98, 109, 106, 105, 104, 110, 116, 100]⟩ : ByteArray).extract (((rd_T88 l0 a1).f0) : Int).toNat ((wrap64 (((rd_T88 l0 a1).f0) + 1)) : Int).toNat) ++ (⟨#[40]⟩ : ByteArray)) ++ t175) ++ ((⟨#[44]⟩ : ByteArray) ++ t177)) ++ (⟨#[41]⟩ : ByteArray))) else (none)) else (none)) else (none))) = some r := by rw [if_pos rfl] at H; exact H
                    clear H
                    have H := H1
                    clear H1
                    replace H := Option.bind_eq_some_iff.mp H
                    obtain ⟨t177, A160, H⟩ := H
                    replace H : (if 1 + t177.size ≤ 9223372036854775807 then (if ((((⟨#[63, 63, 98, 109, 106, 105, 104, 110, 116, 100]⟩ : ByteArray).extract (((rd_T88 l0 a1).f0) : Int).toNat ((wrap64 (((rd_T88 l0 a1).f0) + 1)) : Int).toNat) ++ (⟨#[40]⟩ : ByteArray)) ++ t175).size + ((⟨#[44]⟩ : ByteArray) ++ t177).size ≤ 9223372036854775807 then (if (((((⟨#[63, 63, 98, 109, 106, 105, 104, 110, 116, 100]⟩ : ByteArray).extract (((rd_T88 l0 a1).f0) : Int).toNat ((wrap64 (((rd_T88 l0 a1).f0) + 1)) : Int).toNat) ++ (⟨#[40]⟩ : ByteArray)) ++ t175) ++ ((⟨#[44]⟩ : ByteArray) ++ t177)).size + 1 ≤ 9223372036854775807 then (some ((((((⟨#[63, 63, 98, 109, 106, 105, 104, 110, 116, 100]⟩ : ByteArray).extract (((rd_T88 l0 a1).f0) : Int).toNat ((wrap64 (((rd_T88 l0 a1).f0) + 1)) : Int).toNat) ++ (⟨#[40]⟩ : ByteArray)) ++ t175) ++ ((⟨#[44]⟩ : ByteArray) ++ t177)) ++ (⟨#[41]⟩ : ByteArray))) else (none)) else (none)) else (none)) = some r := H
                    have A16 := Aside0.mk A160
                    clear A160
                    by_cases c17 : 1 + t177.size ≤ 9223372036854775807
                    · rw [if_pos c17] at H
                      have c17b0 := eq_true c17
                      have c17b1 : decide (1 + t177.size ≤ 9223372036854775807) = true := decide_eq_true c17
                      try have c17b2 : (9223372036854775807 < 1 + t177.size) = False := eq_false (Nat.not_lt.2 c17)
                      by_cases c18 : ((((⟨#[63, 63, 98, 109, 106, 105, 104, 110, 116, 100]⟩ : ByteArray).extract (((rd_T88 l0 a1).f0) : Int).toNat ((wrap64 (((rd_T88 l0 a1).f0) + 1)) : Int).toNat) ++ (⟨#[40]⟩ : ByteArray)) ++ t175).size + ((⟨#[44]⟩ : ByteArray) ++ t177).size ≤ 9223372036854775807
                      · rw [if_pos c18] at H
                        have c18b0 := eq_true c18
                        have c18b1 : decide (((((⟨#[63, 63, 98, 109, 106, 105, 104, 110, 116, 100]⟩ : ByteArray).extract (((rd_T88 l0 a1).f0) : Int).toNat ((wrap64 (((rd_T88 l0 a1).f0) + 1)) : Int).toNat) ++ (⟨#[40]⟩ : ByteArray)) ++ t175).size + ((⟨#[44]⟩ : ByteArray) ++ t177).size ≤ 9223372036854775807) = true := decide_eq_true c18
                        have c18z : (9223372036854775807 < (wrap64 ((rd_T88 l0 a1).f0 + 1)).toNat - ((rd_T88 l0 a1).f0).toNat + 1 + t175.size + (1 + t177.size)) = False := eq_false (by have hz_ : wrap64 ((rd_T88 l0 a1).f0 + 1) ≤ 10 := of_decide_eq_true (by first | (with_reducible assumption) | assumption); have hs_ : ((⟨#[63, 63, 98, 109, 106, 105, 104, 110, 116, 100]⟩ : ByteArray).extract (((rd_T88 l0 a1).f0) : Int).toNat ((wrap64 (((rd_T88 l0 a1).f0) + 1)) : Int).toNat).size = (wrap64 ((rd_T88 l0 a1).f0 + 1)).toNat - ((rd_T88 l0 a1).f0).toNat := (by rw [ByteArray.size_extract]; show min _ 10 - _ = _; omega); have h_ := of_decide_eq_true c18b1; have e1_ : (⟨#[40]⟩ : ByteArray).size = 1 := rfl; have e2_ : (⟨#[44]⟩ : ByteArray).size = 1 := rfl; simp only [ByteArray.size_append, hs_] at h_; omega)
                        try have c18b2 : (9223372036854775807 < ((((⟨#[63, 63, 98, 109, 106, 105, 104, 110, 116, 100]⟩ : ByteArray).extract (((rd_T88 l0 a1).f0) : Int).toNat ((wrap64 (((rd_T88 l0 a1).f0) + 1)) : Int).toNat) ++ (⟨#[40]⟩ : ByteArray)) ++ t175).size + ((⟨#[44]⟩ : ByteArray) ++ t177).size) = False := eq_false (Nat.not_lt.2 c18)
                        by_cases c19 : (((((⟨#[63, 63, 98, 109, 106, 105, 104, 110, 116, 100]⟩ : ByteArray).extract (((rd_T88 l0 a1).f0) : Int).toNat ((wrap64 (((rd_T88 l0 a1).f0) + 1)) : Int).toNat) ++ (⟨#[40]⟩ : ByteArray)) ++ t175) ++ ((⟨#[44]⟩ : ByteArray) ++ t177)).size + 1 ≤ 9223372036854775807
                        · rw [if_pos c19] at H
                          have c19b0 := eq_true c19
                          have c19b1 : decide ((((((⟨#[63, 63, 98, 109, 106, 105, 104, 110, 116, 100]⟩ : ByteArray).extract (((rd_T88 l0 a1).f0) : Int).toNat ((wrap64 (((rd_T88 l0 a1).f0) + 1)) : Int).toNat) ++ (⟨#[40]⟩ : ByteArray)) ++ t175) ++ ((⟨#[44]⟩ : ByteArray) ++ t177)).size + 1 ≤ 9223372036854775807) = true := decide_eq_true c19
                          have c19z : (9223372036854775807 < (wrap64 ((rd_T88 l0 a1).f0 + 1)).toNat - ((rd_T88 l0 a1).f0).toNat + 1 + t175.size + (1 + t177.size) + 1) = False := eq_false (by have hz_ : wrap64 ((rd_T88 l0 a1).f0 + 1) ≤ 10 := of_decide_eq_true (by first | (with_reducible assumption) | assumption); have hs_ : ((⟨#[63, 63, 98, 109, 106, 105, 104, 110, 116, 100]⟩ : ByteArray).extract (((rd_T88 l0 a1).f0) : Int).toNat ((wrap64 (((rd_T88 l0 a1).f0) + 1)) : Int).toNat).size = (wrap64 ((rd_T88 l0 a1).f0 + 1)).toNat - ((rd_T88 l0 a1).f0).toNat := (by rw [ByteArray.size_extract]; show min _ 10 - _ = _; omega); have h_ := of_decide_eq_true c19b1; have e1_ : (⟨#[40]⟩ : ByteArray).size = 1 := rfl; have e2_ : (⟨#[44]⟩ : ByteArray).size = 1 := rfl; simp only [ByteArray.size_append, hs_] at h_; omega)
                          try have c19b2 : (9223372036854775807 < (((((⟨#[63, 63, 98, 109, 106, 105, 104, 110, 116, 100]⟩ : ByteArray).extract (((rd_T88 l0 a1).f0) : Int).toNat ((wrap64 (((rd_T88 l0 a1).f0) + 1)) : Int).toNat) ++ (⟨#[40]⟩ : ByteArray)) ++ t175) ++ ((⟨#[44]⟩ : ByteArray) ++ t177)).size + 1) = False := eq_false (Nat.not_lt.2 c19)
                          obtain rfl := Option.some.inj H
                          have p173 : 0 ≤ (a1 : Int) := of_decide_eq_true (by first | (with_reducible assumption) | assumption)
                          have q173 : a1 < (l0.length : Int) := of_decide_eq_true (by first | (with_reducible assumption) | assumption)
                          obtain ⟨ad173, e173, hx173_0, hx173_1, hx173_2, hx173_3⟩ := at_T88 HR0.out a1 p173 q173
                          cases e173
                          replace p173 := eq_true p173
                          replace q173 := eq_true q173
                          go_enter Try.func86, Try.ntmps86
                          try go_wp2_with (first | ((with_reducible refine gate_dst (N := 5) rfl ?_); refine box_event ?hg (N := 5) ?hd (cs := #[.int .i64 0, .string (⟨#[]⟩ : ByteArray), .int .i64 0, .int .i64 0]) (t := 88) ?hr ?_; (case hd => rfl); (case hg => rfl); (case hr => first | (go_simp; done) | (go_simp; rfl)); intro gb174 hg w20 hbox hb; have n0_ := Aside0.mk (below_step (by repeat (first | (with_reducible first | exact HB.out | apply below_alloc | apply pw_below_drewN | apply below_drew1) | exact HB.out)) hb); have n1_ := Aside0.mk (hbox); have n2_ := Aside0.mk ((by rw [hg]; exact (below_size (by repeat (first | (with_reducible first | exact HB.out | apply below_alloc | apply pw_below_drewN | apply below_drew1) | exact HB.out))) : w.heap.size ≤ gb174)); have n3_ := Aside0.mk ((by rw [hg]; exact (below_size (by repeat (first | (with_reducible first | exact HB.out | apply below_alloc | apply pw_below_drewN | apply below_drew1) | exact HB.out))) : w.heap.size ≤ gb174)); clear HB; have HB := n0_; have BK174 := n1_; have GW174 := n2_; have GE174 := n3_; clear n0_ n1_ n2_ n3_; clear hb hbox hg; have hcz21_0 : w20.cell? ⟨gb174, 0, none⟩ = some (.int .i64 0) := (blk_cell BK174.out 0).trans rfl; have hcz21_1 : w20.cell? ⟨gb174, 1, none⟩ = some (.string (⟨#[]⟩ : ByteArray)) := (blk_cell BK174.out 1).trans rfl; have hcz21_2 : w20.cell? ⟨gb174, 2, none⟩ = some (.int .i64 0) := (blk_cell BK174.out 2).trans rfl; have hcz21_3 : w20.cell? ⟨gb174, 3, none⟩ = some (.int .i64 0) := (blk_cell BK174.out 3).trans rfl; have hfz21_0 := blk_frozen BK174.out 0; have hfz21_1 := blk_frozen BK174.out 1; have hfz21_2 := blk_frozen BK174.out 2; have hfz21_3 := blk_frozen BK174.out 3))
                          have n0_ : Aside0 (((((w20.setCell ⟨gb174, 0, none⟩ (.int .i64 ((rd_T88 l0 a1).f0))).setCell ⟨gb174, 1, none⟩ (.string ((rd_T88 l0 a1).f1))).setCell ⟨gb174, 2, none⟩ (.int .i64 ((rd_T88 l0 a1).f2))).setCell ⟨gb174, 3, none⟩ (.int .i64 ((rd_T88 l0 a1).f3))).heap[gb174]? = some (.cells #[.int .i64 ((rd_T88 l0 a1).f0), .string ((rd_T88 l0 a1).f1), .int .i64 ((rd_T88 l0 a1).f2), .int .i64 ((rd_T88 l0 a1).f3)] 88 (0, 0))) := ⟨by (with_reducible repeat (first | refine blk_drewN ?_ _ | refine blk_drew ?_ | refine blk_alloc ?_ _)); refine blk_put (cs := #[.int .i64 ((rd_T88 l0 a1).f0), .string ((rd_T88 l0 a1).f1), .int .i64 ((rd_T88 l0 a1).f2), .int .i64 0]) ?_ 3 _ rfl; (with_reducible repeat (first | refine blk_drewN ?_ _ | refine blk_drew ?_ | refine blk_alloc ?_ _)); refine blk_put (cs := #[.int .i64 ((rd_T88 l0 a1).f0), .string ((rd_T88 l0 a1).f1), .int .i64 0, .int .i64 0]) ?_ 2 _ rfl; (with_reducible repeat (first | refine blk_drewN ?_ _ | refine blk_drew ?_ | refine blk_alloc ?_ _)); refine blk_put (cs := #[.int .i64 ((rd_T88 l0 a1).f0), .string (⟨#[]⟩ : ByteArray), .int .i64 0, .int .i64 0]) ?_ 1 _ rfl; (with_reducible repeat (first | refine blk_drewN ?_ _ | refine blk_drew ?_ | refine blk_alloc ?_ _)); refine blk_put (cs := #[.int .i64 0, .string (⟨#[]⟩ : ByteArray), .int .i64 0, .int .i64 0]) ?_ 0 _ rfl; (with_reducible repeat (first | refine blk_drewN ?_ _ | refine blk_drew ?_ | refine blk_alloc ?_ _)); exact BK174.out⟩
                          have n1_ : Aside0 (Below w.heap.size w ((((w20.setCell ⟨gb174, 0, none⟩ (.int .i64 ((rd_T88 l0 a1).f0))).setCell ⟨gb174, 1, none⟩ (.string ((rd_T88 l0 a1).f1))).setCell ⟨gb174, 2, none⟩ (.int .i64 ((rd_T88 l0 a1).f2))).setCell ⟨gb174, 3, none⟩ (.int .i64 ((rd_T88 l0 a1).f3)))) := ⟨by repeat (first | (with_reducible first | exact HB.out | apply below_alloc | apply pw_below_drewN | apply below_drew1 | refine below_set ?_ GE174.out) | exact HB.out)⟩
                          (try clear BK174)
                          (try clear HB)
                          generalize ((((w20.setCell ⟨gb174, 0, none⟩ (.int .i64 ((rd_T88 l0 a1).f0))).setCell ⟨gb174, 1, none⟩ (.string ((rd_T88 l0 a1).f1))).setCell ⟨gb174, 2, none⟩ (.int .i64 ((rd_T88 l0 a1).f2))).setCell ⟨gb174, 3, none⟩ (.int .i64 ((rd_T88 l0 a1).f3))) = w22 at n0_ n1_ ⊢
                          have BK174 := n0_
                          have HB := n1_
                          clear n0_ n1_
                          have n0_ := Aside0.mk (blk_drew BK174.out)
                          have n1_ := Aside0.mk (below_drew1 HB.out)
                          clear BK174
                          clear HB
                          have BK174 := n0_
                          have HB := n1_
                          clear n0_ n1_
                          refine start_ (n := 13) (S := fun w' => w'.cell? ⟨gb174, 0, none⟩ = some (.int .i64 ((rd_T88 l0 a1).f0)) ∧ w'.cell? ⟨gb174, 1, none⟩ = some (.string ((rd_T88 l0 a1).f1)) ∧ w'.cell? ⟨gb174, 2, none⟩ = some (.int .i64 ((rd_T88 l0 a1).f2)) ∧ w'.cell? ⟨gb174, 3, none⟩ = some (.int .i64 ((rd_T88 l0 a1).f3))) (ds := []) #[false, false, false, false, false, false, false, false, false, false, false, false, false] (by kernel_rfl) rfl rfl ⟨(blk_cell BK174.out 0).trans rfl, (blk_cell BK174.out 1).trans rfl, (blk_cell BK174.out 2).trans rfl, (blk_cell BK174.out 3).trans rfl⟩ (fun hHeld => ?_); refine with_tabW impl_playText.tab4 impl_playText.bits4 (fun HT_ HW_ => ?_)
                          generalize w22.drew = w23 at BK174 HB hHeld ⊢
                          refine pure_ (i := 0) (N := some 16) (v := ?_) (a' := ?_) #[true, false, false, false, false, false, false, false, false, false, false, false, false] rfl rfl (any_of HT_.out (by kernel_rfl)) (fun _ _ _ h => h) (Or.inl ⟨by rfl, ?_⟩) ?_ ?_
                          rotate_left
                          · intro w'
                            go_simp
                            with_reducible rfl
                          rotate_left
                          · simp only [Act.put, List.setIfInBounds_toArray, List.set_cons_zero, List.set_cons_succ, i64_w, i32_w]
                            rfl
                          refine pure_ (i := 2) (N := some 18) (v := ?_) (a' := ?_) #[true, false, true, false, false, false, false, false, false, false, false, false, false] rfl rfl (any_of HT_.out (by kernel_rfl)) (fun _ _ _ h => h) (Or.inl ⟨by rfl, ?_⟩) ?_ ?_
                          rotate_left
                          · intro w'
                            go_simp
                            with_reducible rfl
                          rotate_left
                          · simp only [Act.put, List.setIfInBounds_toArray, List.set_cons_zero, List.set_cons_succ, i64_w, i32_w]
                            rfl
                          refine pure_ (i := 7) (N := some 23) (v := ?_) (a' := ?_) #[true, false, true, false, false, false, false, true, false, false, false, false, false] rfl rfl (any_of HT_.out (by kernel_rfl)) (fun _ _ _ h => h) (Or.inl ⟨by rfl, ?_⟩) ?_ ?_
                          rotate_left
                          · intro w'
                            go_simp
                            with_reducible rfl
                          rotate_left
                          · simp only [Act.put, List.setIfInBounds_toArray, List.set_cons_zero, List.set_cons_succ, i64_w, i32_w]
                            rfl
                          refine pure_ (i := 8) (N := some 24) (v := ?_) (a' := ?_) #[true, false, true, false, false, false, false, true, true, false, false, false, false] rfl rfl (any_of HT_.out (by kernel_rfl)) (fun _ _ _ h => h) (Or.inl ⟨by rfl, ?_⟩) ?_ ?_
                          rotate_left
                          · intro w'
                            go_simp
                            with_reducible rfl
                          rotate_left
                          · simp only [Act.put, List.setIfInBounds_toArray, List.set_cons_zero, List.set_cons_succ, i64_w, i32_w]
                            rfl
                          refine take_ (i := 1) (N := some 17) (v := ?_) (a' := ?_) #[true, true, true, false, false, false, false, true, true, false, false, false, false] rfl rfl (take_ofW HT_.out HW_.out (by kernel_rfl)) (fun _ _ _ h => h) (Or.inl ⟨by rfl, ?_⟩) hHeld ?_ ?_
                          rotate_left
                          · rintro w' ⟨s0, s1, s2, s3⟩
                            go_simp
                            with_reducible rfl
                          rotate_left
                          · simp only [Act.put, List.setIfInBounds_toArray, List.set_cons_zero, List.set_cons_succ, i64_w, i32_w]
                            rfl
                          refine take_ (i := 3) (N := some 19) (v := ?_) (a' := ?_) #[true, true, true, true, false, false, false, true, true, false, false, false, false] rfl rfl (take_ofW HT_.out HW_.out (by kernel_rfl)) (fun _ _ _ h => h) (Or.inl ⟨by rfl, ?_⟩) hHeld ?_ ?_
                          rotate_left
                          · rintro w' ⟨s0, s1, s2, s3⟩
                            go_simp
                            with_reducible rfl
                          rotate_left
                          · simp only [Act.put, List.setIfInBounds_toArray, List.set_cons_zero, List.set_cons_succ, i64_w, i32_w]
                            rfl
                          refine pure_ (i := 4) (N := some 20) (v := ?_) (a' := ?_) #[true, true, true, true, true, false, false, true, true, false, false, false, false] rfl rfl (any_of HT_.out (by kernel_rfl)) (fun _ _ _ h => h) (Or.inl ⟨by rfl, ?_⟩) ?_ ?_
                          rotate_left
                          · intro w'
                            go_simp
                            with_reducible rfl
                          rotate_left
                          · simp only [Act.put, List.setIfInBounds_toArray, List.set_cons_zero, List.set_cons_succ, i64_w, i32_w]
                            rfl
                          refine pure_ (i := 5) (N := some 21) (v := ?_) (a' := ?_) #[true, true, true, true, true, true, false, true, true, false, false, false, false] rfl rfl (any_of HT_.out (by kernel_rfl)) (fun _ _ _ h => h) (Or.inl ⟨by rfl, ?_⟩) ?_ ?_
                          rotate_left
                          · intro w'
                            go_simp
                            with_reducible rfl
                          rotate_left
                          · simp only [Act.put, List.setIfInBounds_toArray, List.set_cons_zero, List.set_cons_succ, i64_w, i32_w]
                            rfl
                          refine pure_ (i := 6) (N := some 22) (v := ?_) (a' := ?_) #[true, true, true, true, true, true, true, true, true, false, false, false, false] rfl rfl (any_of HT_.out (by kernel_rfl)) (fun _ _ _ h => h) (Or.inl ⟨by rfl, ?_⟩) ?_ ?_
                          rotate_left
                          · intro w'
                            go_simp
                            with_reducible rfl
                          rotate_left
                          · simp only [Act.put, List.setIfInBounds_toArray, List.set_cons_zero, List.set_cons_succ, i64_w, i32_w]
                            rfl
                          refine take_ (i := 9) (N := some 25) (v := ?_) (a' := ?_) #[true, true, true, true, true, true, true, true, true, true, false, false, false] rfl rfl (take_ofW HT_.out HW_.out (by kernel_rfl)) (fun _ _ _ h => h) (Or.inl ⟨by rfl, ?_⟩) hHeld ?_ ?_
                          rotate_left
                          · rintro w' ⟨s0, s1, s2, s3⟩
                            go_simp
                            with_reducible rfl
                          rotate_left
                          · simp only [Act.put, List.setIfInBounds_toArray, List.set_cons_zero, List.set_cons_succ, i64_w, i32_w]
                            rfl
                          refine one_ (i := 10) (N := some 26) #[true, true, true, true, true, true, true, true, true, true, true, false, false] rfl rfl (one_of HT_.out (by kernel_rfl)) (by decide) (fun K hK => ?_)
                          refine goes_ Try.func86 (by kernel_rfl) rfl #[.slice (some ad173) l0.length c0, .int .i64 ((rd_T88 l0 a1).f2)] (by rfl) rfl rfl (by (try simp only [List.map_toArray, List.map_cons, List.map_nil]); first | done | rfl | (simp only [List.length_drop, List.length_take]; rfl)) ?_
                          with_reducible refine (ih k (by omega) _ _ l0 ((rd_T88 l0 a1).f2) t175 _ ?side1 ?side2 A12.out).mono ?_
                          (case side1 => repeat (first | exact (Kd.C_below HR0.out HB.out) | (with_reducible refine Kd.C_alloc ?_ _) | (with_reducible refine Kd.C_drewN ?_ _) | (with_reducible refine Kd.C_drew ?_)))
                          (case side2 => exact HC0.out)
                          rintro e w24 ⟨rfl, hb⟩
                          refine ⟨_, rfl, ?_⟩
                          have n0_ := Aside0.mk (blk_below (g := gb174) (o := .cells #[.int .i64 ((rd_T88 l0 a1).f0), .string ((rd_T88 l0 a1).f1), .int .i64 ((rd_T88 l0 a1).f2), .int .i64 ((rd_T88 l0 a1).f3)] 88 (0, 0)) (by (with_reducible repeat (first | refine blk_drewN ?_ _ | refine blk_drew ?_ | refine blk_alloc ?_ _)); exact BK174.out) hb)
                          have n1_ := Aside0.mk (below_step (by repeat (first | (with_reducible first | exact HB.out | apply below_alloc | apply pw_below_drewN | apply below_drew1 | refine below_set ?_ GE174.out) | exact HB.out)) hb)
                          clear BK174
                          clear HB
                          have BK174 := n0_
                          have HB := n1_
                          clear n0_ n1_
                          (try clear hb)
                          (try clear hb2)
                          (try clear hk)
                          (try clear hi)
                          refine hK.out _ _ ⟨(blk_cell BK174.out 0).trans rfl, (blk_cell BK174.out 1).trans rfl, (blk_cell BK174.out 2).trans rfl, (blk_cell BK174.out 3).trans rfl⟩ (fun hHeld => ?_)
                          clear hK K
                          refine norm_ (a' := ?_) ?_ ?_
                          rotate_left
                          · show Act.put _ (some 26) _ = _
                            simp only [Act.put, List.setIfInBounds_toArray, List.set_cons_zero, List.set_cons_succ, i64_w, i32_w]
                            rfl
                          refine pure_ (i := 11) (N := some 27) (v := ?_) (a' := ?_) #[true, true, true, true, true, true, true, true, true, true, true, true, false] rfl rfl (any_of HT_.out (by kernel_rfl)) (fun _ _ _ h => h) (Or.inl ⟨by rfl, ?_⟩) ?_ ?_
                          rotate_left
                          · intro w'
                            go_simp
                            with_reducible rfl
                          rotate_left
                          · simp only [Act.put, List.setIfInBounds_toArray, List.set_cons_zero, List.set_cons_succ, i64_w, i32_w]
                            rfl
                          refine pure_ (i := 12) (N := some 6) (v := ?_) (a' := ?_) #[true, true, true, true, true, true, true, true, true, true, true, true, true] rfl rfl (any_of HT_.out (by kernel_rfl)) (fun _ _ _ h => h) (Or.inl ⟨by rfl, ?_⟩) ?_ ?_
                          rotate_left
                          · intro w'
                            go_simp
                            with_reducible rfl
                          rotate_left
                          · simp only [Act.put, List.setIfInBounds_toArray, List.set_cons_zero, List.set_cons_succ, i64_w, i32_w]
                            rfl
                          refine done_ (done_of HT_.out (by kernel_rfl)) ?_
                          have hcz25_0 : w24.cell? ⟨gb174, 0, none⟩ = some (.int .i64 ((rd_T88 l0 a1).f0)) := (blk_cell BK174.out 0).trans rfl
                          have hcz25_1 : w24.cell? ⟨gb174, 1, none⟩ = some (.string ((rd_T88 l0 a1).f1)) := (blk_cell BK174.out 1).trans rfl
                          have hcz25_2 : w24.cell? ⟨gb174, 2, none⟩ = some (.int .i64 ((rd_T88 l0 a1).f2)) := (blk_cell BK174.out 2).trans rfl
                          have hcz25_3 : w24.cell? ⟨gb174, 3, none⟩ = some (.int .i64 ((rd_T88 l0 a1).f3)) := (blk_cell BK174.out 3).trans rfl
                          have hfz25_0 := blk_frozen BK174.out 0
                          have hfz25_1 := blk_frozen BK174.out 1
                          have hfz25_2 := blk_frozen BK174.out 2
                          have hfz25_3 := blk_frozen BK174.out 3
                          try go_wp2_with (first | ((with_reducible refine gate_callee (f := 89) rfl ?_); refine goesL_ (some 30) rfl rfl Try.func89 (by kernel_rfl) rfl #[.int .i64 ((rd_T88 l0 a1).f0)] rfl (by (try simp only [List.map_toArray, List.map_cons, List.map_nil]); first | done | rfl | (simp only [List.length_drop, List.length_take]; rfl)) ?_; (with_reducible refine (impl_isPair.calls ((rd_T88 l0 a1).f0) true _ A14.out).mono ?_); rintro e w' ⟨rfl, ⟨nd, rfl⟩⟩; refine ⟨_, rfl, ?_⟩) | ((with_reducible refine gate_callee (f := 86) rfl ?_); refine goesL_ (some 35) rfl rfl Try.func86 (by kernel_rfl) rfl #[.slice (some ad173) l0.length c0, .int .i64 ((rd_T88 l0 a1).f3)] rfl (by (try simp only [List.map_toArray, List.map_cons, List.map_nil]); first | done | rfl | (simp only [List.length_drop, List.length_take]; rfl)) ?_; (with_reducible refine (ih k (by omega) _ _ l0 ((rd_T88 l0 a1).f3) t177 _ ?side1 ?side2 A16.out).mono ?_); (case side1 => repeat (first | exact (Kd.C_below HR0.out (by repeat (first | (with_reducible first | exact HB.out | apply below_alloc | apply pw_below_drewN | apply below_drew1 | refine below_set ?_ GE174.out) | exact HB.out))) | (with_reducible refine Kd.C_alloc ?_ _) | (with_reducible refine Kd.C_drewN ?_ _) | (with_reducible refine Kd.C_drew ?_))); (case side2 => exact HC0.out); rintro e w26 ⟨rfl, hb⟩; refine ⟨_, rfl, ?_⟩; have n0_ := Aside0.mk (blk_below (g := gb174) (o := .cells #[.int .i64 ((rd_T88 l0 a1).f0), .string ((rd_T88 l0 a1).f1), .int .i64 ((rd_T88 l0 a1).f2), .int .i64 ((rd_T88 l0 a1).f3)] 88 (0, 0)) (by (with_reducible repeat (first | refine blk_drewN ?_ _ | refine blk_drew ?_ | refine blk_alloc ?_ _)); exact BK174.out) hb); have n1_ := Aside0.mk (below_step (by repeat (first | (with_reducible first | exact HB.out | apply below_alloc | apply pw_below_drewN | apply below_drew1 | refine below_set ?_ GE174.out) | exact HB.out)) hb); clear BK174; clear HB; have BK174 := n0_; have HB := n1_; clear n0_ n1_; (try clear hb); (try clear hb2); (try clear hk); (try clear hi)))
                          go_ret
                          exact ⟨by first | rfl | (simp [errW_none, errW_some] <;> rfl) | (simp [*, errW_none, errW_some] <;> rfl), by repeat (first | (with_reducible first | exact HB.out | apply below_alloc | apply pw_below_drewN | apply below_drew1 | refine below_set ?_ GE174.out) | exact HB.out)⟩
                        · rw [if_neg c19] at H
                          exact absurd H (by simp)
                      · rw [if_neg c18] at H
                        exact absurd H (by simp)
                    · rw [if_neg c17] at H
                      exact absurd H (by simp)
                  · replace c15 := Bool.eq_false_iff.mpr c15
                    subst c15
                    have H1 : (if ((((⟨#[63, 63, 98, 109, 106, 105, 104, 110, 116, 100]⟩ : ByteArray).extract (((rd_T88 l0 a1).f0) : Int).toNat ((wrap64 (((rd_T88 l0 a1).f0) + 1)) : Int).toNat) ++ (⟨#[40]⟩ : ByteArray)) ++ t175).size + 1 ≤ 9223372036854775807 then (some (((((⟨#[63, 63, 98, 109, 106, 105, 104, 110, 116, 100]⟩ : ByteArray).extract (((rd_T88 l0 a1).f0) : Int).toNat ((wrap64 (((rd_T88 l0 a1).f0) + 1)) : Int).toNat) ++ (⟨#[40]⟩ : ByteArray)) ++ t175) ++ (⟨#[41]⟩ : ByteArray))) else (none)) = some r := by rw [if_neg (show ¬ (false = true) by decide)] at H; exact H
                    clear H
                    have H := H1
                    clear H1
                    by_cases c27 : ((((⟨#[63, 63, 98, 109, 106, 105, 104, 110, 116, 100]⟩ : ByteArray).extract (((rd_T88 l0 a1).f0) : Int).toNat ((wrap64 (((rd_T88 l0 a1).f0) + 1)) : Int).toNat) ++ (⟨#[40]⟩ : ByteArray)) ++ t175).size + 1 ≤ 9223372036854775807
                    · rw [if_pos c27] at H
                      have c27b0 := eq_true c27
                      have c27b1 : decide (((((⟨#[63, 63, 98, 109, 106, 105, 104, 110, 116, 100]⟩ : ByteArray).extract (((rd_T88 l0 a1).f0) : Int).toNat ((wrap64 (((rd_T88 l0 a1).f0) + 1)) : Int).toNat) ++ (⟨#[40]⟩ : ByteArray)) ++ t175).size + 1 ≤ 9223372036854775807) = true := decide_eq_true c27
                      have c27z : (9223372036854775807 < (wrap64 ((rd_T88 l0 a1).f0 + 1)).toNat - ((rd_T88 l0 a1).f0).toNat + 1 + t175.size + 1) = False := eq_false (by have hz_ : wrap64 ((rd_T88 l0 a1).f0 + 1) ≤ 10 := of_decide_eq_true (by first | (with_reducible assumption) | assumption); have hs_ : ((⟨#[63, 63, 98, 109, 106, 105, 104, 110, 116, 100]⟩ : ByteArray).extract (((rd_T88 l0 a1).f0) : Int).toNat ((wrap64 (((rd_T88 l0 a1).f0) + 1)) : Int).toNat).size = (wrap64 ((rd_T88 l0 a1).f0 + 1)).toNat - ((rd_T88 l0 a1).f0).toNat := (by rw [ByteArray.size_extract]; show min _ 10 - _ = _; omega); have h_ := of_decide_eq_true c27b1; have e1_ : (⟨#[40]⟩ : ByteArray).size = 1 := rfl; have e2_ : (⟨#[44]⟩ : ByteArray).size = 1 := rfl; simp only [ByteArray.size_append, hs_] at h_; omega)
                      try have c27b2 : (9223372036854775807 < ((((⟨#[63, 63, 98, 109, 106, 105, 104, 110, 116, 100]⟩ : ByteArray).extract (((rd_T88 l0 a1).f0) : Int).toNat ((wrap64 (((rd_T88 l0 a1).f0) + 1)) : Int).toNat) ++ (⟨#[40]⟩ : ByteArray)) ++ t175).size + 1) = False := eq_false (Nat.not_lt.2 c27)
                      obtain rfl := Option.some.inj H
                      have p173 : 0 ≤ (a1 : Int) := of_decide_eq_true (by first | (with_reducible assumption) | assumption)
                      have q173 : a1 < (l0.length : Int) := of_decide_eq_true (by first | (with_reducible assumption) | assumption)
                      obtain ⟨ad173, e173, hx173_0, hx173_1, hx173_2, hx173_3⟩ := at_T88 HR0.out a1 p173 q173
                      cases e173
                      replace p173 := eq_true p173
                      replace q173 := eq_true q173
                      go_enter Try.func86, Try.ntmps86
                      try go_wp2_with (first | ((with_reducible refine gate_dst (N := 5) rfl ?_); refine box_event ?hg (N := 5) ?hd (cs := #[.int .i64 0, .string (⟨#[]⟩ : ByteArray), .int .i64 0, .int .i64 0]) (t := 88) ?hr ?_; (case hd => rfl); (case hg => rfl); (case hr => first | (go_simp; done) | (go_simp; rfl)); intro gb174 hg w28 hbox hb; have n0_ := Aside0.mk (below_step (by repeat (first | (with_reducible first | exact HB.out | apply below_alloc | apply pw_below_drewN | apply below_drew1) | exact HB.out)) hb); have n1_ := Aside0.mk (hbox); have n2_ := Aside0.mk ((by rw [hg]; exact (below_size (by repeat (first | (with_reducible first | exact HB.out | apply below_alloc | apply pw_below_drewN | apply below_drew1) | exact HB.out))) : w.heap.size ≤ gb174)); have n3_ := Aside0.mk ((by rw [hg]; exact (below_size (by repeat (first | (with_reducible first | exact HB.out | apply below_alloc | apply pw_below_drewN | apply below_drew1) | exact HB.out))) : w.heap.size ≤ gb174)); clear HB; have HB := n0_; have BK174 := n1_; have GW174 := n2_; have GE174 := n3_; clear n0_ n1_ n2_ n3_; clear hb hbox hg; have hcz29_0 : w28.cell? ⟨gb174, 0, none⟩ = some (.int .i64 0) := (blk_cell BK174.out 0).trans rfl; have hcz29_1 : w28.cell? ⟨gb174, 1, none⟩ = some (.string (⟨#[]⟩ : ByteArray)) := (blk_cell BK174.out 1).trans rfl; have hcz29_2 : w28.cell? ⟨gb174, 2, none⟩ = some (.int .i64 0) := (blk_cell BK174.out 2).trans rfl; have hcz29_3 : w28.cell? ⟨gb174, 3, none⟩ = some (.int .i64 0) := (blk_cell BK174.out 3).trans rfl; have hfz29_0 := blk_frozen BK174.out 0; have hfz29_1 := blk_frozen BK174.out 1; have hfz29_2 := blk_frozen BK174.out 2; have hfz29_3 := blk_frozen BK174.out 3))
                      have n0_ : Aside0 (((((w28.setCell ⟨gb174, 0, none⟩ (.int .i64 ((rd_T88 l0 a1).f0))).setCell ⟨gb174, 1, none⟩ (.string ((rd_T88 l0 a1).f1))).setCell ⟨gb174, 2, none⟩ (.int .i64 ((rd_T88 l0 a1).f2))).setCell ⟨gb174, 3, none⟩ (.int .i64 ((rd_T88 l0 a1).f3))).heap[gb174]? = some (.cells #[.int .i64 ((rd_T88 l0 a1).f0), .string ((rd_T88 l0 a1).f1), .int .i64 ((rd_T88 l0 a1).f2), .int .i64 ((rd_T88 l0 a1).f3)] 88 (0, 0))) := ⟨by (with_reducible repeat (first | refine blk_drewN ?_ _ | refine blk_drew ?_ | refine blk_alloc ?_ _)); refine blk_put (cs := #[.int .i64 ((rd_T88 l0 a1).f0), .string ((rd_T88 l0 a1).f1), .int .i64 ((rd_T88 l0 a1).f2), .int .i64 0]) ?_ 3 _ rfl; (with_reducible repeat (first | refine blk_drewN ?_ _ | refine blk_drew ?_ | refine blk_alloc ?_ _)); refine blk_put (cs := #[.int .i64 ((rd_T88 l0 a1).f0), .string ((rd_T88 l0 a1).f1), .int .i64 0, .int .i64 0]) ?_ 2 _ rfl; (with_reducible repeat (first | refine blk_drewN ?_ _ | refine blk_drew ?_ | refine blk_alloc ?_ _)); refine blk_put (cs := #[.int .i64 ((rd_T88 l0 a1).f0), .string (⟨#[]⟩ : ByteArray), .int .i64 0, .int .i64 0]) ?_ 1 _ rfl; (with_reducible repeat (first | refine blk_drewN ?_ _ | refine blk_drew ?_ | refine blk_alloc ?_ _)); refine blk_put (cs := #[.int .i64 0, .string (⟨#[]⟩ : ByteArray), .int .i64 0, .int .i64 0]) ?_ 0 _ rfl; (with_reducible repeat (first | refine blk_drewN ?_ _ | refine blk_drew ?_ | refine blk_alloc ?_ _)); exact BK174.out⟩
                      have n1_ : Aside0 (Below w.heap.size w ((((w28.setCell ⟨gb174, 0, none⟩ (.int .i64 ((rd_T88 l0 a1).f0))).setCell ⟨gb174, 1, none⟩ (.string ((rd_T88 l0 a1).f1))).setCell ⟨gb174, 2, none⟩ (.int .i64 ((rd_T88 l0 a1).f2))).setCell ⟨gb174, 3, none⟩ (.int .i64 ((rd_T88 l0 a1).f3)))) := ⟨by repeat (first | (with_reducible first | exact HB.out | apply below_alloc | apply pw_below_drewN | apply below_drew1 | refine below_set ?_ GE174.out) | exact HB.out)⟩
                      (try clear BK174)
                      (try clear HB)
                      generalize ((((w28.setCell ⟨gb174, 0, none⟩ (.int .i64 ((rd_T88 l0 a1).f0))).setCell ⟨gb174, 1, none⟩ (.string ((rd_T88 l0 a1).f1))).setCell ⟨gb174, 2, none⟩ (.int .i64 ((rd_T88 l0 a1).f2))).setCell ⟨gb174, 3, none⟩ (.int .i64 ((rd_T88 l0 a1).f3))) = w30 at n0_ n1_ ⊢
                      have BK174 := n0_
                      have HB := n1_
                      clear n0_ n1_
                      have n0_ := Aside0.mk (blk_drew BK174.out)
                      have n1_ := Aside0.mk (below_drew1 HB.out)
                      clear BK174
                      clear HB
                      have BK174 := n0_
                      have HB := n1_
                      clear n0_ n1_
                      refine start_ (n := 13) (S := fun w' => w'.cell? ⟨gb174, 0, none⟩ = some (.int .i64 ((rd_T88 l0 a1).f0)) ∧ w'.cell? ⟨gb174, 1, none⟩ = some (.string ((rd_T88 l0 a1).f1)) ∧ w'.cell? ⟨gb174, 2, none⟩ = some (.int .i64 ((rd_T88 l0 a1).f2)) ∧ w'.cell? ⟨gb174, 3, none⟩ = some (.int .i64 ((rd_T88 l0 a1).f3))) (ds := []) #[false, false, false, false, false, false, false, false, false, false, false, false, false] (by kernel_rfl) rfl rfl ⟨(blk_cell BK174.out 0).trans rfl, (blk_cell BK174.out 1).trans rfl, (blk_cell BK174.out 2).trans rfl, (blk_cell BK174.out 3).trans rfl⟩ (fun hHeld => ?_); refine with_tabW impl_playText.tab4 impl_playText.bits4 (fun HT_ HW_ => ?_)
                      generalize w30.drew = w31 at BK174 HB hHeld ⊢
                      refine pure_ (i := 0) (N := some 16) (v := ?_) (a' := ?_) #[true, false, false, false, false, false, false, false, false, false, false, false, false] rfl rfl (any_of HT_.out (by kernel_rfl)) (fun _ _ _ h => h) (Or.inl ⟨by rfl, ?_⟩) ?_ ?_
                      rotate_left
                      · intro w'
                        go_simp
                        with_reducible rfl
                      rotate_left
                      · simp only [Act.put, List.setIfInBounds_toArray, List.set_cons_zero, List.set_cons_succ, i64_w, i32_w]
                        rfl
                      refine pure_ (i := 2) (N := some 18) (v := ?_) (a' := ?_) #[true, false, true, false, false, false, false, false, false, false, false, false, false] rfl rfl (any_of HT_.out (by kernel_rfl)) (fun _ _ _ h => h) (Or.inl ⟨by rfl, ?_⟩) ?_ ?_
                      rotate_left
                      · intro w'
                        go_simp
                        with_reducible rfl
                      rotate_left
                      · simp only [Act.put, List.setIfInBounds_toArray, List.set_cons_zero, List.set_cons_succ, i64_w, i32_w]
                        rfl
                      refine pure_ (i := 7) (N := some 23) (v := ?_) (a' := ?_) #[true, false, true, false, false, false, false, true, false, false, false, false, false] rfl rfl (any_of HT_.out (by kernel_rfl)) (fun _ _ _ h => h) (Or.inl ⟨by rfl, ?_⟩) ?_ ?_
                      rotate_left
                      · intro w'
                        go_simp
                        with_reducible rfl
                      rotate_left
                      · simp only [Act.put, List.setIfInBounds_toArray, List.set_cons_zero, List.set_cons_succ, i64_w, i32_w]
                        rfl
                      refine pure_ (i := 8) (N := some 24) (v := ?_) (a' := ?_) #[true, false, true, false, false, false, false, true, true, false, false, false, false] rfl rfl (any_of HT_.out (by kernel_rfl)) (fun _ _ _ h => h) (Or.inl ⟨by rfl, ?_⟩) ?_ ?_
                      rotate_left
                      · intro w'
                        go_simp
                        with_reducible rfl
                      rotate_left
                      · simp only [Act.put, List.setIfInBounds_toArray, List.set_cons_zero, List.set_cons_succ, i64_w, i32_w]
                        rfl
                      refine take_ (i := 1) (N := some 17) (v := ?_) (a' := ?_) #[true, true, true, false, false, false, false, true, true, false, false, false, false] rfl rfl (take_ofW HT_.out HW_.out (by kernel_rfl)) (fun _ _ _ h => h) (Or.inl ⟨by rfl, ?_⟩) hHeld ?_ ?_
                      rotate_left
                      · rintro w' ⟨s0, s1, s2, s3⟩
                        go_simp
                        with_reducible rfl
                      rotate_left
                      · simp only [Act.put, List.setIfInBounds_toArray, List.set_cons_zero, List.set_cons_succ, i64_w, i32_w]
                        rfl
                      refine take_ (i := 3) (N := some 19) (v := ?_) (a' := ?_) #[true, true, true, true, false, false, false, true, true, false, false, false, false] rfl rfl (take_ofW HT_.out HW_.out (by kernel_rfl)) (fun _ _ _ h => h) (Or.inl ⟨by rfl, ?_⟩) hHeld ?_ ?_
                      rotate_left
                      · rintro w' ⟨s0, s1, s2, s3⟩
                        go_simp
                        with_reducible rfl
                      rotate_left
                      · simp only [Act.put, List.setIfInBounds_toArray, List.set_cons_zero, List.set_cons_succ, i64_w, i32_w]
                        rfl
                      refine pure_ (i := 4) (N := some 20) (v := ?_) (a' := ?_) #[true, true, true, true, true, false, false, true, true, false, false, false, false] rfl rfl (any_of HT_.out (by kernel_rfl)) (fun _ _ _ h => h) (Or.inl ⟨by rfl, ?_⟩) ?_ ?_
                      rotate_left
                      · intro w'
                        go_simp
                        with_reducible rfl
                      rotate_left
                      · simp only [Act.put, List.setIfInBounds_toArray, List.set_cons_zero, List.set_cons_succ, i64_w, i32_w]
                        rfl
                      refine pure_ (i := 5) (N := some 21) (v := ?_) (a' := ?_) #[true, true, true, true, true, true, false, true, true, false, false, false, false] rfl rfl (any_of HT_.out (by kernel_rfl)) (fun _ _ _ h => h) (Or.inl ⟨by rfl, ?_⟩) ?_ ?_
                      rotate_left
                      · intro w'
                        go_simp
                        with_reducible rfl
                      rotate_left
                      · simp only [Act.put, List.setIfInBounds_toArray, List.set_cons_zero, List.set_cons_succ, i64_w, i32_w]
                        rfl
                      refine pure_ (i := 6) (N := some 22) (v := ?_) (a' := ?_) #[true, true, true, true, true, true, true, true, true, false, false, false, false] rfl rfl (any_of HT_.out (by kernel_rfl)) (fun _ _ _ h => h) (Or.inl ⟨by rfl, ?_⟩) ?_ ?_
                      rotate_left
                      · intro w'
                        go_simp
                        with_reducible rfl
                      rotate_left
                      · simp only [Act.put, List.setIfInBounds_toArray, List.set_cons_zero, List.set_cons_succ, i64_w, i32_w]
                        rfl
                      refine take_ (i := 9) (N := some 25) (v := ?_) (a' := ?_) #[true, true, true, true, true, true, true, true, true, true, false, false, false] rfl rfl (take_ofW HT_.out HW_.out (by kernel_rfl)) (fun _ _ _ h => h) (Or.inl ⟨by rfl, ?_⟩) hHeld ?_ ?_
                      rotate_left
                      · rintro w' ⟨s0, s1, s2, s3⟩
                        go_simp
                        with_reducible rfl
                      rotate_left
                      · simp only [Act.put, List.setIfInBounds_toArray, List.set_cons_zero, List.set_cons_succ, i64_w, i32_w]
                        rfl
                      refine one_ (i := 10) (N := some 26) #[true, true, true, true, true, true, true, true, true, true, true, false, false] rfl rfl (one_of HT_.out (by kernel_rfl)) (by decide) (fun K hK => ?_)
                      refine goes_ Try.func86 (by kernel_rfl) rfl #[.slice (some ad173) l0.length c0, .int .i64 ((rd_T88 l0 a1).f2)] (by rfl) rfl rfl (by (try simp only [List.map_toArray, List.map_cons, List.map_nil]); first | done | rfl | (simp only [List.length_drop, List.length_take]; rfl)) ?_
                      with_reducible refine (ih k (by omega) _ _ l0 ((rd_T88 l0 a1).f2) t175 _ ?side1 ?side2 A12.out).mono ?_
                      (case side1 => repeat (first | exact (Kd.C_below HR0.out HB.out) | (with_reducible refine Kd.C_alloc ?_ _) | (with_reducible refine Kd.C_drewN ?_ _) | (with_reducible refine Kd.C_drew ?_)))
                      (case side2 => exact HC0.out)
                      rintro e w32 ⟨rfl, hb⟩
                      refine ⟨_, rfl, ?_⟩
                      have n0_ := Aside0.mk (blk_below (g := gb174) (o := .cells #[.int .i64 ((rd_T88 l0 a1).f0), .string ((rd_T88 l0 a1).f1), .int .i64 ((rd_T88 l0 a1).f2), .int .i64 ((rd_T88 l0 a1).f3)] 88 (0, 0)) (by (with_reducible repeat (first | refine blk_drewN ?_ _ | refine blk_drew ?_ | refine blk_alloc ?_ _)); exact BK174.out) hb)
                      have n1_ := Aside0.mk (below_step (by repeat (first | (with_reducible first | exact HB.out | apply below_alloc | apply pw_below_drewN | apply below_drew1 | refine below_set ?_ GE174.out) | exact HB.out)) hb)
                      clear BK174
                      clear HB
                      have BK174 := n0_
                      have HB := n1_
                      clear n0_ n1_
                      (try clear hb)
                      (try clear hb2)
                      (try clear hk)
                      (try clear hi)
                      refine hK.out _ _ ⟨(blk_cell BK174.out 0).trans rfl, (blk_cell BK174.out 1).trans rfl, (blk_cell BK174.out 2).trans rfl, (blk_cell BK174.out 3).trans rfl⟩ (fun hHeld => ?_)
                      clear hK K
                      refine norm_ (a' := ?_) ?_ ?_
                      rotate_left
                      · show Act.put _ (some 26) _ = _
                        simp only [Act.put, List.setIfInBounds_toArray, List.set_cons_zero, List.set_cons_succ, i64_w, i32_w]
                        rfl
                      refine pure_ (i := 11) (N := some 27) (v := ?_) (a' := ?_) #[true, true, true, true, true, true, true, true, true, true, true, true, false] rfl rfl (any_of HT_.out (by kernel_rfl)) (fun _ _ _ h => h) (Or.inl ⟨by rfl, ?_⟩) ?_ ?_
                      rotate_left
                      · intro w'
                        go_simp
                        with_reducible rfl
                      rotate_left
                      · simp only [Act.put, List.setIfInBounds_toArray, List.set_cons_zero, List.set_cons_succ, i64_w, i32_w]
                        rfl
                      refine pure_ (i := 12) (N := some 6) (v := ?_) (a' := ?_) #[true, true, true, true, true, true, true, true, true, true, true, true, true] rfl rfl (any_of HT_.out (by kernel_rfl)) (fun _ _ _ h => h) (Or.inl ⟨by rfl, ?_⟩) ?_ ?_
                      rotate_left
                      · intro w'
                        go_simp
                        with_reducible rfl
                      rotate_left
                      · simp only [Act.put, List.setIfInBounds_toArray, List.set_cons_zero, List.set_cons_succ, i64_w, i32_w]
                        rfl
                      refine done_ (done_of HT_.out (by kernel_rfl)) ?_
                      have hcz33_0 : w32.cell? ⟨gb174, 0, none⟩ = some (.int .i64 ((rd_T88 l0 a1).f0)) := (blk_cell BK174.out 0).trans rfl
                      have hcz33_1 : w32.cell? ⟨gb174, 1, none⟩ = some (.string ((rd_T88 l0 a1).f1)) := (blk_cell BK174.out 1).trans rfl
                      have hcz33_2 : w32.cell? ⟨gb174, 2, none⟩ = some (.int .i64 ((rd_T88 l0 a1).f2)) := (blk_cell BK174.out 2).trans rfl
                      have hcz33_3 : w32.cell? ⟨gb174, 3, none⟩ = some (.int .i64 ((rd_T88 l0 a1).f3)) := (blk_cell BK174.out 3).trans rfl
                      have hfz33_0 := blk_frozen BK174.out 0
                      have hfz33_1 := blk_frozen BK174.out 1
                      have hfz33_2 := blk_frozen BK174.out 2
                      have hfz33_3 := blk_frozen BK174.out 3
                      try go_wp2_with (first | ((with_reducible refine gate_callee (f := 89) rfl ?_); refine goesL_ (some 30) rfl rfl Try.func89 (by kernel_rfl) rfl #[.int .i64 ((rd_T88 l0 a1).f0)] rfl (by (try simp only [List.map_toArray, List.map_cons, List.map_nil]); first | done | rfl | (simp only [List.length_drop, List.length_take]; rfl)) ?_; (with_reducible refine (impl_isPair.calls ((rd_T88 l0 a1).f0) false _ A14.out).mono ?_); rintro e w' ⟨rfl, ⟨nd, rfl⟩⟩; refine ⟨_, rfl, ?_⟩))
                      go_ret
                      exact ⟨by first | rfl | (simp [errW_none, errW_some] <;> rfl) | (simp [*, errW_none, errW_some] <;> rfl), by repeat (first | (with_reducible first | exact HB.out | apply below_alloc | apply pw_below_drewN | apply below_drew1 | refine below_set ?_ GE174.out) | exact HB.out)⟩
                    · rw [if_neg c27] at H
                      exact absurd H (by simp)
                · rw [if_neg c13] at H
                  exact absurd H (by simp)
              · rw [if_neg c11] at H
                exact absurd H (by simp)
            · rw [if_neg c10] at H
              exact absurd H (by simp)
          · rw [if_neg c9] at H
            exact absurd H (by simp)
        · rw [if_neg c8] at H
          exact absurd H (by simp)
    · rw [if_neg c4] at H
      exact absurd H (by simp)
  · rw [if_neg c3] at H
    exact absurd H (by simp)

/-! ### impl_PlayText: function 55 -/
def impl_PlayText.f (k : Nat) (l0 : List (S88)) : Option (ByteArray) := (impl_IsPlay.f k l0).bind fun t178 => (if t178 = true then ((impl_playText.f k l0 (wrap64 ((l0.length : Int) - 1))).bind fun t179 => (if (t179.size : Int) > 80 then (some (⟨#[]⟩ : ByteArray)) else (some t179))) else (some (⟨#[]⟩ : ByteArray)))
theorem impl_PlayText.mono : ∀ a0 k, LeO (impl_PlayText.f k a0) (impl_PlayText.f (k + 1) a0) := by
  intro a0 k
  unfold impl_PlayText.f
  repeat' first
      | (with_reducible exact impl_IsPlay.mono _ _)
      | (with_reducible exact impl_playText.mono _ _ _)
      | (with_reducible exact LeO.refl _)
      | (with_reducible exact LeO.none _)
      | (with_reducible refine LeO.ite ?_ ?_)
      | (with_reducible refine LeO.bind ?_ (fun _ => ?_))
      | exact impl_IsPlay.mono _ _
      | exact impl_playText.mono _ _ _
      | exact LeO.none _
      | refine LeO.ite ?_ ?_
      | refine LeO.bind ?_ (fun _ => ?_)
set_option maxHeartbeats 8000000 in
set_option maxRecDepth 100000 in
theorem impl_PlayText.calls (k : Nat) (A0 : Option Addr) (c0 : Nat) (l0 : List (S88)) (r : ByteArray) (w : World) (hr0 : Kd.C k88 w A0 l0.length l0) (hc0 : l0.length ≤ c0) (h : impl_PlayText.f k l0 = some r) :
    Calls Try.prog 55 #[.slice A0 l0.length c0] w fun e w' => e = .returned (.string r) ∧ Below w.heap.size w w' := by
  have HR0 := Aside0.mk hr0
  have HC0 := Aside0.mk hc0
  clear hr0 hc0
  have HB := Aside0.mk (Below.refl w.heap.size w)
  have H : ((impl_IsPlay.f k l0).bind fun t178 => (if t178 = true then ((impl_playText.f k l0 (wrap64 ((l0.length : Int) - 1))).bind fun t179 => (if (t179.size : Int) > 80 then (some (⟨#[]⟩ : ByteArray)) else (some t179))) else (some (⟨#[]⟩ : ByteArray)))) = some r := h
  clear h
  replace H := Option.bind_eq_some_iff.mp H
  obtain ⟨t178, A20, H⟩ := H
  replace H : (if t178 = true then ((impl_playText.f k l0 (wrap64 ((l0.length : Int) - 1))).bind fun t179 => (if (t179.size : Int) > 80 then (some (⟨#[]⟩ : ByteArray)) else (some t179))) else (some (⟨#[]⟩ : ByteArray))) = some r := H
  have A2 := Aside0.mk A20
  clear A20
  by_cases c3 : t178 = true
  · subst c3
    have H1 : ((impl_playText.f k l0 (wrap64 ((l0.length : Int) - 1))).bind fun t179 => (if (t179.size : Int) > 80 then (some (⟨#[]⟩ : ByteArray)) else (some t179))) = some r := by rw [if_pos rfl] at H; exact H
    clear H
    have H := H1
    clear H1
    replace H := Option.bind_eq_some_iff.mp H
    obtain ⟨t179, A40, H⟩ := H
    replace H : (if (t179.size : Int) > 80 then (some (⟨#[]⟩ : ByteArray)) else (some t179)) = some r := H
    have A4 := Aside0.mk A40
    clear A40
    by_cases c5 : (t179.size : Int) > 80
    · rw [if_pos c5] at H
      have c5b0 : decide (80 < (t179.size : Int)) = true := decide_eq_true c5
      have c5b1 : decide (80 < t179.size) = true := decide_eq_true (by omega)
      clear c5
      obtain rfl := Option.some.inj H
      go_enter Try.func55, Try.ntmps55
      go_wp2_with (first | ((with_reducible refine gate_callee (f := 76) rfl ?_); refine goesL_ (some 5) rfl rfl Try.func76 (by kernel_rfl) rfl #[.slice A0 l0.length c0] rfl (by (try simp only [List.map_toArray, List.map_cons, List.map_nil]); first | done | rfl | (simp only [List.length_drop, List.length_take]; rfl)) ?_; (with_reducible refine (impl_IsPlay.calls k _ _ l0 true _ ?side1 ?side2 A2.out).mono ?_); (case side1 => repeat (first | exact HR0.out | (with_reducible refine Kd.C_alloc ?_ _) | (with_reducible refine Kd.C_drewN ?_ _) | (with_reducible refine Kd.C_drew ?_))); (case side2 => exact HC0.out); rintro e w6 ⟨rfl, hb⟩; refine ⟨_, rfl, ?_⟩; have n0_ := Aside0.mk (below_step (by repeat (first | (with_reducible first | exact HB.out | apply below_alloc | apply pw_below_drewN | apply below_drew1) | exact HB.out)) hb); clear HB; have HB := n0_; clear n0_; (try clear hb); (try clear hb2); (try clear hk); (try clear hi)) | ((with_reducible refine gate_callee (f := 86) rfl ?_); refine goesL_ (some 11) rfl rfl Try.func86 (by kernel_rfl) rfl #[.slice A0 l0.length c0, .int .i64 (wrap64 ((l0.length : Int) - 1))] rfl (by (try simp only [List.map_toArray, List.map_cons, List.map_nil]); first | done | rfl | (simp only [List.length_drop, List.length_take]; rfl)) ?_; (with_reducible refine (impl_playText.calls k _ _ l0 (wrap64 ((l0.length : Int) - 1)) t179 _ ?side1 ?side2 A4.out).mono ?_); (case side1 => repeat (first | exact (Kd.C_below HR0.out HB.out) | (with_reducible refine Kd.C_alloc ?_ _) | (with_reducible refine Kd.C_drewN ?_ _) | (with_reducible refine Kd.C_drew ?_))); (case side2 => exact HC0.out); rintro e w7 ⟨rfl, hb⟩; refine ⟨_, rfl, ?_⟩; have n0_ := Aside0.mk (below_step (by repeat (first | (with_reducible first | exact HB.out | apply below_alloc | apply pw_below_drewN | apply below_drew1) | exact HB.out)) hb); clear HB; have HB := n0_; clear n0_; (try clear hb); (try clear hb2); (try clear hk); (try clear hi)))
      go_ret
      exact ⟨by first | rfl | (simp [errW_none, errW_some] <;> rfl) | (simp [*, errW_none, errW_some] <;> rfl), by repeat (first | (with_reducible first | exact HB.out | apply below_alloc | apply pw_below_drewN | apply below_drew1) | exact HB.out)⟩
    · rw [if_neg c5] at H
      have c5b0 : decide (80 < (t179.size : Int)) = false := decide_eq_false c5
      have c5b1 : decide (80 < t179.size) = false := decide_eq_false (by omega)
      clear c5
      obtain rfl := Option.some.inj H
      go_enter Try.func55, Try.ntmps55
      go_wp2_with (first | ((with_reducible refine gate_callee (f := 76) rfl ?_); refine goesL_ (some 5) rfl rfl Try.func76 (by kernel_rfl) rfl #[.slice A0 l0.length c0] rfl (by (try simp only [List.map_toArray, List.map_cons, List.map_nil]); first | done | rfl | (simp only [List.length_drop, List.length_take]; rfl)) ?_; (with_reducible refine (impl_IsPlay.calls k _ _ l0 true _ ?side1 ?side2 A2.out).mono ?_); (case side1 => repeat (first | exact HR0.out | (with_reducible refine Kd.C_alloc ?_ _) | (with_reducible refine Kd.C_drewN ?_ _) | (with_reducible refine Kd.C_drew ?_))); (case side2 => exact HC0.out); rintro e w8 ⟨rfl, hb⟩; refine ⟨_, rfl, ?_⟩; have n0_ := Aside0.mk (below_step (by repeat (first | (with_reducible first | exact HB.out | apply below_alloc | apply pw_below_drewN | apply below_drew1) | exact HB.out)) hb); clear HB; have HB := n0_; clear n0_; (try clear hb); (try clear hb2); (try clear hk); (try clear hi)) | ((with_reducible refine gate_callee (f := 86) rfl ?_); refine goesL_ (some 11) rfl rfl Try.func86 (by kernel_rfl) rfl #[.slice A0 l0.length c0, .int .i64 (wrap64 ((l0.length : Int) - 1))] rfl (by (try simp only [List.map_toArray, List.map_cons, List.map_nil]); first | done | rfl | (simp only [List.length_drop, List.length_take]; rfl)) ?_; (with_reducible refine (impl_playText.calls k _ _ l0 (wrap64 ((l0.length : Int) - 1)) t179 _ ?side1 ?side2 A4.out).mono ?_); (case side1 => repeat (first | exact (Kd.C_below HR0.out HB.out) | (with_reducible refine Kd.C_alloc ?_ _) | (with_reducible refine Kd.C_drewN ?_ _) | (with_reducible refine Kd.C_drew ?_))); (case side2 => exact HC0.out); rintro e w9 ⟨rfl, hb⟩; refine ⟨_, rfl, ?_⟩; have n0_ := Aside0.mk (below_step (by repeat (first | (with_reducible first | exact HB.out | apply below_alloc | apply pw_below_drewN | apply below_drew1) | exact HB.out)) hb); clear HB; have HB := n0_; clear n0_; (try clear hb); (try clear hb2); (try clear hk); (try clear hi)))
      go_ret
      exact ⟨by first | rfl | (simp [errW_none, errW_some] <;> rfl) | (simp [*, errW_none, errW_some] <;> rfl), by repeat (first | (with_reducible first | exact HB.out | apply below_alloc | apply pw_below_drewN | apply below_drew1) | exact HB.out)⟩
  · replace c3 := Bool.eq_false_iff.mpr c3
    subst c3
    have H1 : (some (⟨#[]⟩ : ByteArray)) = some r := by rw [if_neg (show ¬ (false = true) by decide)] at H; exact H
    clear H
    have H := H1
    clear H1
    obtain rfl := Option.some.inj H
    go_enter Try.func55, Try.ntmps55
    go_wp2_with (first | ((with_reducible refine gate_callee (f := 76) rfl ?_); refine goesL_ (some 5) rfl rfl Try.func76 (by kernel_rfl) rfl #[.slice A0 l0.length c0] rfl (by (try simp only [List.map_toArray, List.map_cons, List.map_nil]); first | done | rfl | (simp only [List.length_drop, List.length_take]; rfl)) ?_; (with_reducible refine (impl_IsPlay.calls k _ _ l0 false _ ?side1 ?side2 A2.out).mono ?_); (case side1 => repeat (first | exact HR0.out | (with_reducible refine Kd.C_alloc ?_ _) | (with_reducible refine Kd.C_drewN ?_ _) | (with_reducible refine Kd.C_drew ?_))); (case side2 => exact HC0.out); rintro e w10 ⟨rfl, hb⟩; refine ⟨_, rfl, ?_⟩; have n0_ := Aside0.mk (below_step (by repeat (first | (with_reducible first | exact HB.out | apply below_alloc | apply pw_below_drewN | apply below_drew1) | exact HB.out)) hb); clear HB; have HB := n0_; clear n0_; (try clear hb); (try clear hb2); (try clear hk); (try clear hi)))
    go_ret
    exact ⟨by first | rfl | (simp [errW_none, errW_some] <;> rfl) | (simp [*, errW_none, errW_some] <;> rfl), by repeat (first | (with_reducible first | exact HB.out | apply below_alloc | apply pw_below_drewN | apply below_drew1) | exact HB.out)⟩

/-! ### laws_FnExactPlayText: function 13 -/
def laws_FnExactPlayText.f (k : Nat) (l0 : List (S87)) : Option (Bool) := (laws_szStepS.f k l0 1048576).bind fun t180 => (if t180 < 0 then (some true) else ((laws_toStepS.f k l0).bind fun t181 => ((spec_PlayText.f k t181).bind fun t184 => ((laws_toStepS.f k l0).bind fun t185 => ((impl_PlayText.f k t185).bind fun t188 => (if t188.toList = t184.toList then ((laws_toStepS.f k l0).bind fun t189 => ((laws_eqStepS.f k t185 t189).bind fun t192 => (if t192 = true then (some true) else (some false)))) else (some false)))))))
theorem laws_FnExactPlayText.mono : ∀ a0 k, LeO (laws_FnExactPlayText.f k a0) (laws_FnExactPlayText.f (k + 1) a0) := by
  intro a0 k
  unfold laws_FnExactPlayText.f
  repeat' first
      | (with_reducible exact impl_PlayText.mono _ _)
      | (with_reducible exact laws_eqStepS.mono _ _ _)
      | (with_reducible exact laws_szStepS.mono _ _ _)
      | (with_reducible exact laws_toStepS.mono _ _)
      | (with_reducible exact spec_PlayText.mono _ _)
      | (with_reducible exact LeO.refl _)
      | (with_reducible exact LeO.none _)
      | (with_reducible refine LeO.ite ?_ ?_)
      | (with_reducible refine LeO.bind ?_ (fun _ => ?_))
      | exact impl_PlayText.mono _ _
      | exact laws_eqStepS.mono _ _ _
      | exact laws_szStepS.mono _ _ _
      | exact laws_toStepS.mono _ _
      | exact spec_PlayText.mono _ _
      | exact LeO.none _
      | refine LeO.ite ?_ ?_
      | refine LeO.bind ?_ (fun _ => ?_)
set_option maxHeartbeats 8000000 in
set_option maxRecDepth 100000 in
theorem laws_FnExactPlayText.calls (k : Nat) (A0 : Option Addr) (c0 : Nat) (l0 : List (S87)) (r : Bool) (w : World) (hr0 : Kd.C k87 w A0 l0.length l0) (hc0 : l0.length ≤ c0) (h : laws_FnExactPlayText.f k l0 = some r) :
    Calls Try.prog 13 #[.slice A0 l0.length c0] w fun e w' => e = .returned (.bool r) ∧ Below w.heap.size w w' := by
  have HR0 := Aside0.mk hr0
  have HC0 := Aside0.mk hc0
  clear hr0 hc0
  have HB := Aside0.mk (Below.refl w.heap.size w)
  have H : ((laws_szStepS.f k l0 1048576).bind fun t180 => (if t180 < 0 then (some true) else ((laws_toStepS.f k l0).bind fun t181 => ((spec_PlayText.f k t181).bind fun t184 => ((laws_toStepS.f k l0).bind fun t185 => ((impl_PlayText.f k t185).bind fun t188 => (if t188.toList = t184.toList then ((laws_toStepS.f k l0).bind fun t189 => ((laws_eqStepS.f k t185 t189).bind fun t192 => (if t192 = true then (some true) else (some false)))) else (some false)))))))) = some r := h
  clear h
  replace H := Option.bind_eq_some_iff.mp H
  obtain ⟨t180, A20, H⟩ := H
  replace H : (if t180 < 0 then (some true) else ((laws_toStepS.f k l0).bind fun t181 => ((spec_PlayText.f k t181).bind fun t184 => ((laws_toStepS.f k l0).bind fun t185 => ((impl_PlayText.f k t185).bind fun t188 => (if t188.toList = t184.toList then ((laws_toStepS.f k l0).bind fun t189 => ((laws_eqStepS.f k t185 t189).bind fun t192 => (if t192 = true then (some true) else (some false)))) else (some false))))))) = some r := H
  have A2 := Aside0.mk A20
  clear A20
  by_cases c3 : t180 < 0
  · rw [if_pos c3] at H
    have c3b0 : decide (t180 < 0) = true := decide_eq_true c3
    clear c3
    obtain rfl := Option.some.inj H
    go_enter Try.func13, Try.ntmps13
    go_wp2_with (first | ((with_reducible refine gate_callee (f := 49) rfl ?_); refine goesL_ (some 9) rfl rfl Try.func49 (by kernel_rfl) rfl #[.slice A0 l0.length c0, .int .i64 1048576] rfl (by (try simp only [List.map_toArray, List.map_cons, List.map_nil]); first | done | rfl | (simp only [List.length_drop, List.length_take]; rfl)) ?_; (with_reducible refine (laws_szStepS.calls k _ _ l0 1048576 t180 _ ?side1 ?side2 A2.out).mono ?_); (case side1 => repeat (first | exact HR0.out | (with_reducible refine Kd.C_alloc ?_ _) | (with_reducible refine Kd.C_drewN ?_ _) | (with_reducible refine Kd.C_drew ?_))); (case side2 => exact HC0.out); rintro e w4 ⟨rfl, hb⟩; refine ⟨_, rfl, ?_⟩; have n0_ := Aside0.mk (below_step (by repeat (first | (with_reducible first | exact HB.out | apply below_alloc | apply pw_below_drewN | apply below_drew1) | exact HB.out)) hb); clear HB; have HB := n0_; clear n0_; (try clear hb); (try clear hb2); (try clear hk); (try clear hi)))
    go_ret
    exact ⟨by first | rfl | (simp [errW_none, errW_some] <;> rfl) | (simp [*, errW_none, errW_some] <;> rfl), by repeat (first | (with_reducible first | exact HB.out | apply below_alloc | apply pw_below_drewN | apply below_drew1) | exact HB.out)⟩
  · rw [if_neg c3] at H
    have c3b0 : decide (t180 < 0) = false := decide_eq_false c3
    clear c3
    replace H := Option.bind_eq_some_iff.mp H
    obtain ⟨t181, A50, H⟩ := H
    replace H : ((spec_PlayText.f k t181).bind fun t184 => ((laws_toStepS.f k l0).bind fun t185 => ((impl_PlayText.f k t185).bind fun t188 => (if t188.toList = t184.toList then ((laws_toStepS.f k l0).bind fun t189 => ((laws_eqStepS.f k t185 t189).bind fun t192 => (if t192 = true then (some true) else (some false)))) else (some false))))) = some r := H
    have A5 := Aside0.mk A50
    clear A50
    replace H := Option.bind_eq_some_iff.mp H
    obtain ⟨t184, A60, H⟩ := H
    replace H : ((laws_toStepS.f k l0).bind fun t185 => ((impl_PlayText.f k t185).bind fun t188 => (if t188.toList = t184.toList then ((laws_toStepS.f k l0).bind fun t189 => ((laws_eqStepS.f k t185 t189).bind fun t192 => (if t192 = true then (some true) else (some false)))) else (some false)))) = some r := H
    have A6 := Aside0.mk A60
    clear A60
    replace H := Option.bind_eq_some_iff.mp H
    obtain ⟨t185, A70, H⟩ := H
    replace H : ((impl_PlayText.f k t185).bind fun t188 => (if t188.toList = t184.toList then ((laws_toStepS.f k l0).bind fun t189 => ((laws_eqStepS.f k t185 t189).bind fun t192 => (if t192 = true then (some true) else (some false)))) else (some false))) = some r := H
    have A7 := Aside0.mk A70
    clear A70
    replace H := Option.bind_eq_some_iff.mp H
    obtain ⟨t188, A80, H⟩ := H
    replace H : (if t188.toList = t184.toList then ((laws_toStepS.f k l0).bind fun t189 => ((laws_eqStepS.f k t185 t189).bind fun t192 => (if t192 = true then (some true) else (some false)))) else (some false)) = some r := H
    have A8 := Aside0.mk A80
    clear A80
    by_cases c9 : t188.toList = t184.toList
    · rw [if_pos c9] at H
      have c9b0 : (t188.toList == t184.toList) = true := beq_iff_eq.mpr c9
      have c9b1 : (t188.toList != t184.toList) = false := bne_eq_false_iff_eq.mpr c9
      clear c9
      replace H := Option.bind_eq_some_iff.mp H
      obtain ⟨t189, A100, H⟩ := H
      replace H : ((laws_eqStepS.f k t185 t189).bind fun t192 => (if t192 = true then (some true) else (some false))) = some r := H
      have A10 := Aside0.mk A100
      clear A100
      replace H := Option.bind_eq_some_iff.mp H
      obtain ⟨t192, A110, H⟩ := H
      replace H : (if t192 = true then (some true) else (some false)) = some r := H
      have A11 := Aside0.mk A110
      clear A110
      by_cases c12 : t192 = true
      · subst c12
        have H1 : (some true) = some r := by rw [if_pos rfl] at H; exact H
        clear H
        have H := H1
        clear H1
        obtain rfl := Option.some.inj H
        go_enter Try.func13, Try.ntmps13
        go_wp2_with (first | ((with_reducible refine gate_callee (f := 49) rfl ?_); refine goesL_ (some 9) rfl rfl Try.func49 (by kernel_rfl) rfl #[.slice A0 l0.length c0, .int .i64 1048576] rfl (by (try simp only [List.map_toArray, List.map_cons, List.map_nil]); first | done | rfl | (simp only [List.length_drop, List.length_take]; rfl)) ?_; (with_reducible refine (laws_szStepS.calls k _ _ l0 1048576 t180 _ ?side1 ?side2 A2.out).mono ?_); (case side1 => repeat (first | exact HR0.out | (with_reducible refine Kd.C_alloc ?_ _) | (with_reducible refine Kd.C_drewN ?_ _) | (with_reducible refine Kd.C_drew ?_))); (case side2 => exact HC0.out); rintro e w13 ⟨rfl, hb⟩; refine ⟨_, rfl, ?_⟩; have n0_ := Aside0.mk (below_step (by repeat (first | (with_reducible first | exact HB.out | apply below_alloc | apply pw_below_drewN | apply below_drew1) | exact HB.out)) hb); clear HB; have HB := n0_; clear n0_; (try clear hb); (try clear hb2); (try clear hk); (try clear hi)) | ((with_reducible refine gate_callee (f := 51) rfl ?_); refine goesL_ (some 13) rfl rfl Try.func51 (by kernel_rfl) rfl #[.slice A0 l0.length c0] rfl (by (try simp only [List.map_toArray, List.map_cons, List.map_nil]); first | done | rfl | (simp only [List.length_drop, List.length_take]; rfl)) ?_; (with_reducible refine (laws_toStepS.calls k _ _ l0 t181 _ ?side1 ?side2 A5.out).mono ?_); (case side1 => repeat (first | exact (Kd.C_below HR0.out HB.out) | (with_reducible refine Kd.C_alloc ?_ _) | (with_reducible refine Kd.C_drewN ?_ _) | (with_reducible refine Kd.C_drew ?_))); (case side2 => exact HC0.out); rintro e w14 ⟨v182, rfl, ho0, hb⟩; refine ⟨_, rfl, ?_⟩; have n0_ := Aside0.mk (Kd.R_lower ho0 (below_size (by repeat (first | (with_reducible first | exact HB.out | apply below_alloc | apply pw_below_drewN | apply below_drew1) | exact HB.out)))); have n1_ := Aside0.mk (below_step (by repeat (first | (with_reducible first | exact HB.out | apply below_alloc | apply pw_below_drewN | apply below_drew1) | exact HB.out)) hb); clear HB; have HO183 := n0_; have HB := n1_; clear n0_ n1_; (try clear hb); (try clear hb2); (try clear hk); (try clear hi); (try clear ho0); obtain ⟨Ao15, co15, eo15⟩ := Kd.R_slice HO183.out; subst eo15) | ((with_reducible refine gate_callee (f := 54) rfl ?_); refine goesL_ (some 14) rfl rfl Try.func54 (by kernel_rfl) rfl #[.slice Ao15 t181.length co15] rfl (by (try simp only [List.map_toArray, List.map_cons, List.map_nil]); first | done | rfl | (simp only [List.length_drop, List.length_take]; rfl)) ?_; (with_reducible refine (spec_PlayText.calls k _ _ t181 t184 _ ?side1 ?side2 A6.out).mono ?_); (case side1 => repeat (first | exact (Kd.R_reads' HO183.out).2.2 | (with_reducible refine Kd.C_alloc ?_ _) | (with_reducible refine Kd.C_drewN ?_ _) | (with_reducible refine Kd.C_drew ?_))); (case side2 => exact (Kd.R_reads' HO183.out).2.1); rintro e w16 ⟨rfl, hb⟩; refine ⟨_, rfl, ?_⟩; have n0_ := Aside0.mk (Kd.R_below (by (with_reducible repeat (first | apply Kd.R_alloc | apply Kd.R_drewN | apply Kd.R_drew)); exact HO183.out) hb); have n1_ := Aside0.mk (below_step (by repeat (first | (with_reducible first | exact HB.out | apply below_alloc | apply pw_below_drewN | apply below_drew1) | exact HB.out)) hb); clear HO183; clear HB; have HO183 := n0_; have HB := n1_; clear n0_ n1_; (try clear hb); (try clear hb2); (try clear hk); (try clear hi)) | ((with_reducible refine gate_callee (f := 51) rfl ?_); refine goesL_ (some 16) rfl rfl Try.func51 (by kernel_rfl) rfl #[.slice A0 l0.length c0] rfl (by (try simp only [List.map_toArray, List.map_cons, List.map_nil]); first | done | rfl | (simp only [List.length_drop, List.length_take]; rfl)) ?_; (with_reducible refine (laws_toStepS.calls k _ _ l0 t185 _ ?side1 ?side2 A7.out).mono ?_); (case side1 => repeat (first | exact (Kd.C_below HR0.out HB.out) | (with_reducible refine Kd.C_alloc ?_ _) | (with_reducible refine Kd.C_drewN ?_ _) | (with_reducible refine Kd.C_drew ?_))); (case side2 => exact HC0.out); rintro e w17 ⟨v186, rfl, ho0, hb⟩; refine ⟨_, rfl, ?_⟩; have n0_ := Aside0.mk (Kd.R_elder' (by (with_reducible repeat (first | apply Kd.R_alloc | apply Kd.R_drewN | apply Kd.R_drew)); exact HO183.out) (Kd.R_base ho0) hb); have n1_ := Aside0.mk (Kd.R_lower (Kd.R_new' ho0 (Kd.R_lt (by (with_reducible repeat (first | apply Kd.R_alloc | apply Kd.R_drewN | apply Kd.R_drew)); exact HO183.out))) (below_size (by repeat (first | (with_reducible first | exact HB.out | apply below_alloc | apply pw_below_drewN | apply below_drew1) | exact HB.out)))); have n2_ := Aside0.mk (below_step (by repeat (first | (with_reducible first | exact HB.out | apply below_alloc | apply pw_below_drewN | apply below_drew1) | exact HB.out)) hb); clear HO183; clear HB; have HO183 := n0_; have HO187 := n1_; have HB := n2_; clear n0_ n1_ n2_; (try clear hb); (try clear hb2); (try clear hk); (try clear hi); (try clear ho0); obtain ⟨Ao18, co18, eo18⟩ := Kd.R_slice HO187.out; subst eo18) | ((with_reducible refine gate_callee (f := 55) rfl ?_); refine goesL_ (some 18) rfl rfl Try.func55 (by kernel_rfl) rfl #[.slice Ao18 t185.length co18] rfl (by (try simp only [List.map_toArray, List.map_cons, List.map_nil]); first | done | rfl | (simp only [List.length_drop, List.length_take]; rfl)) ?_; (with_reducible refine (impl_PlayText.calls k _ _ t185 t188 _ ?side1 ?side2 A8.out).mono ?_); (case side1 => repeat (first | exact (Kd.R_reads' HO187.out).2.2 | (with_reducible refine Kd.C_alloc ?_ _) | (with_reducible refine Kd.C_drewN ?_ _) | (with_reducible refine Kd.C_drew ?_))); (case side2 => exact (Kd.R_reads' HO187.out).2.1); rintro e w19 ⟨rfl, hb⟩; refine ⟨_, rfl, ?_⟩; have n0_ := Aside0.mk (Kd.R_below (by (with_reducible repeat (first | apply Kd.R_alloc | apply Kd.R_drewN | apply Kd.R_drew)); exact HO183.out) hb); have n1_ := Aside0.mk (Kd.R_below (by (with_reducible repeat (first | apply Kd.R_alloc | apply Kd.R_drewN | apply Kd.R_drew)); exact HO187.out) hb); have n2_ := Aside0.mk (below_step (by repeat (first | (with_reducible first | exact HB.out | apply below_alloc | apply pw_below_drewN | apply below_drew1) | exact HB.out)) hb); clear HO183; clear HO187; clear HB; have HO183 := n0_; have HO187 := n1_; have HB := n2_; clear n0_ n1_ n2_; (try clear hb); (try clear hb2); (try clear hk); (try clear hi)) | ((with_reducible refine gate_callee (f := 51) rfl ?_); refine goesL_ (some 24) rfl rfl Try.func51 (by kernel_rfl) rfl #[.slice A0 l0.length c0] rfl (by (try simp only [List.map_toArray, List.map_cons, List.map_nil]); first | done | rfl | (simp only [List.length_drop, List.length_take]; rfl)) ?_; (with_reducible refine (laws_toStepS.calls k _ _ l0 t189 _ ?side1 ?side2 A10.out).mono ?_); (case side1 => repeat (first | exact (Kd.C_below HR0.out HB.out) | (with_reducible refine Kd.C_alloc ?_ _) | (with_reducible refine Kd.C_drewN ?_ _) | (with_reducible refine Kd.C_drew ?_))); (case side2 => exact HC0.out); rintro e w20 ⟨v190, rfl, ho0, hb⟩; refine ⟨_, rfl, ?_⟩; have n0_ := Aside0.mk (Kd.R_elder' (by (with_reducible repeat (first | apply Kd.R_alloc | apply Kd.R_drewN | apply Kd.R_drew)); exact HO183.out) (Kd.R_base ho0) hb); have n1_ := Aside0.mk (Kd.R_elder' (by (with_reducible repeat (first | apply Kd.R_alloc | apply Kd.R_drewN | apply Kd.R_drew)); exact HO187.out) (Kd.R_base ho0) hb); have n2_ := Aside0.mk (Kd.R_lower (Kd.R_new' (Kd.R_new' ho0 (Kd.R_lt (by (with_reducible repeat (first | apply Kd.R_alloc | apply Kd.R_drewN | apply Kd.R_drew)); exact HO183.out))) (Kd.R_lt (by (with_reducible repeat (first | apply Kd.R_alloc | apply Kd.R_drewN | apply Kd.R_drew)); exact HO187.out))) (below_size (by repeat (first | (with_reducible first | exact HB.out | apply below_alloc | apply pw_below_drewN | apply below_drew1) | exact HB.out)))); have n3_ := Aside0.mk (below_step (by repeat (first | (with_reducible first | exact HB.out | apply below_alloc | apply pw_below_drewN | apply below_drew1) | exact HB.out)) hb); clear HO183; clear HO187; clear HB; have HO183 := n0_; have HO187 := n1_; have HO191 := n2_; have HB := n3_; clear n0_ n1_ n2_ n3_; (try clear hb); (try clear hb2); (try clear hk); (try clear hi); (try clear ho0); obtain ⟨Ao21, co21, eo21⟩ := Kd.R_slice HO191.out; subst eo21) | ((with_reducible refine gate_callee (f := 53) rfl ?_); refine goesL_ (some 25) rfl rfl Try.func53 (by kernel_rfl) rfl #[.slice Ao18 t185.length co18, .slice Ao21 t189.length co21] rfl (by (try simp only [List.map_toArray, List.map_cons, List.map_nil]); first | done | rfl | (simp only [List.length_drop, List.length_take]; rfl)) ?_; (with_reducible refine (laws_eqStepS.calls k _ _ t185 _ _ t189 true _ ?side1 ?side2 ?side3 ?side4 A11.out).mono ?_); (case side1 => repeat (first | exact (Kd.R_reads' HO187.out).2.2 | (with_reducible refine Kd.C_alloc ?_ _) | (with_reducible refine Kd.C_drewN ?_ _) | (with_reducible refine Kd.C_drew ?_))); (case side2 => exact (Kd.R_reads' HO187.out).2.1); (case side3 => repeat (first | exact (Kd.R_reads' HO191.out).2.2 | (with_reducible refine Kd.C_alloc ?_ _) | (with_reducible refine Kd.C_drewN ?_ _) | (with_reducible refine Kd.C_drew ?_))); (case side4 => exact (Kd.R_reads' HO191.out).2.1); rintro e w22 ⟨rfl, hb⟩; refine ⟨_, rfl, ?_⟩; have n0_ := Aside0.mk (Kd.R_below (by (with_reducible repeat (first | apply Kd.R_alloc | apply Kd.R_drewN | apply Kd.R_drew)); exact HO183.out) hb); have n1_ := Aside0.mk (Kd.R_below (by (with_reducible repeat (first | apply Kd.R_alloc | apply Kd.R_drewN | apply Kd.R_drew)); exact HO187.out) hb); have n2_ := Aside0.mk (Kd.R_below (by (with_reducible repeat (first | apply Kd.R_alloc | apply Kd.R_drewN | apply Kd.R_drew)); exact HO191.out) hb); have n3_ := Aside0.mk (below_step (by repeat (first | (with_reducible first | exact HB.out | apply below_alloc | apply pw_below_drewN | apply below_drew1) | exact HB.out)) hb); clear HO183; clear HO187; clear HO191; clear HB; have HO183 := n0_; have HO187 := n1_; have HO191 := n2_; have HB := n3_; clear n0_ n1_ n2_ n3_; (try clear hb); (try clear hb2); (try clear hk); (try clear hi)))
        go_ret
        exact ⟨by first | rfl | (simp [errW_none, errW_some] <;> rfl) | (simp [*, errW_none, errW_some] <;> rfl), by repeat (first | (with_reducible first | exact HB.out | apply below_alloc | apply pw_below_drewN | apply below_drew1) | exact HB.out)⟩
      · replace c12 := Bool.eq_false_iff.mpr c12
        subst c12
        have H1 : (some false) = some r := by rw [if_neg (show ¬ (false = true) by decide)] at H; exact H
        clear H
        have H := H1
        clear H1
        obtain rfl := Option.some.inj H
        go_enter Try.func13, Try.ntmps13
        go_wp2_with (first | ((with_reducible refine gate_callee (f := 49) rfl ?_); refine goesL_ (some 9) rfl rfl Try.func49 (by kernel_rfl) rfl #[.slice A0 l0.length c0, .int .i64 1048576] rfl (by (try simp only [List.map_toArray, List.map_cons, List.map_nil]); first | done | rfl | (simp only [List.length_drop, List.length_take]; rfl)) ?_; (with_reducible refine (laws_szStepS.calls k _ _ l0 1048576 t180 _ ?side1 ?side2 A2.out).mono ?_); (case side1 => repeat (first | exact HR0.out | (with_reducible refine Kd.C_alloc ?_ _) | (with_reducible refine Kd.C_drewN ?_ _) | (with_reducible refine Kd.C_drew ?_))); (case side2 => exact HC0.out); rintro e w23 ⟨rfl, hb⟩; refine ⟨_, rfl, ?_⟩; have n0_ := Aside0.mk (below_step (by repeat (first | (with_reducible first | exact HB.out | apply below_alloc | apply pw_below_drewN | apply below_drew1) | exact HB.out)) hb); clear HB; have HB := n0_; clear n0_; (try clear hb); (try clear hb2); (try clear hk); (try clear hi)) | ((with_reducible refine gate_callee (f := 51) rfl ?_); refine goesL_ (some 13) rfl rfl Try.func51 (by kernel_rfl) rfl #[.slice A0 l0.length c0] rfl (by (try simp only [List.map_toArray, List.map_cons, List.map_nil]); first | done | rfl | (simp only [List.length_drop, List.length_take]; rfl)) ?_; (with_reducible refine (laws_toStepS.calls k _ _ l0 t181 _ ?side1 ?side2 A5.out).mono ?_); (case side1 => repeat (first | exact (Kd.C_below HR0.out HB.out) | (with_reducible refine Kd.C_alloc ?_ _) | (with_reducible refine Kd.C_drewN ?_ _) | (with_reducible refine Kd.C_drew ?_))); (case side2 => exact HC0.out); rintro e w24 ⟨v182, rfl, ho0, hb⟩; refine ⟨_, rfl, ?_⟩; have n0_ := Aside0.mk (Kd.R_lower ho0 (below_size (by repeat (first | (with_reducible first | exact HB.out | apply below_alloc | apply pw_below_drewN | apply below_drew1) | exact HB.out)))); have n1_ := Aside0.mk (below_step (by repeat (first | (with_reducible first | exact HB.out | apply below_alloc | apply pw_below_drewN | apply below_drew1) | exact HB.out)) hb); clear HB; have HO183 := n0_; have HB := n1_; clear n0_ n1_; (try clear hb); (try clear hb2); (try clear hk); (try clear hi); (try clear ho0); obtain ⟨Ao25, co25, eo25⟩ := Kd.R_slice HO183.out; subst eo25) | ((with_reducible refine gate_callee (f := 54) rfl ?_); refine goesL_ (some 14) rfl rfl Try.func54 (by kernel_rfl) rfl #[.slice Ao25 t181.length co25] rfl (by (try simp only [List.map_toArray, List.map_cons, List.map_nil]); first | done | rfl | (simp only [List.length_drop, List.length_take]; rfl)) ?_; (with_reducible refine (spec_PlayText.calls k _ _ t181 t184 _ ?side1 ?side2 A6.out).mono ?_); (case side1 => repeat (first | exact (Kd.R_reads' HO183.out).2.2 | (with_reducible refine Kd.C_alloc ?_ _) | (with_reducible refine Kd.C_drewN ?_ _) | (with_reducible refine Kd.C_drew ?_))); (case side2 => exact (Kd.R_reads' HO183.out).2.1); rintro e w26 ⟨rfl, hb⟩; refine ⟨_, rfl, ?_⟩; have n0_ := Aside0.mk (Kd.R_below (by (with_reducible repeat (first | apply Kd.R_alloc | apply Kd.R_drewN | apply Kd.R_drew)); exact HO183.out) hb); have n1_ := Aside0.mk (below_step (by repeat (first | (with_reducible first | exact HB.out | apply below_alloc | apply pw_below_drewN | apply below_drew1) | exact HB.out)) hb); clear HO183; clear HB; have HO183 := n0_; have HB := n1_; clear n0_ n1_; (try clear hb); (try clear hb2); (try clear hk); (try clear hi)) | ((with_reducible refine gate_callee (f := 51) rfl ?_); refine goesL_ (some 16) rfl rfl Try.func51 (by kernel_rfl) rfl #[.slice A0 l0.length c0] rfl (by (try simp only [List.map_toArray, List.map_cons, List.map_nil]); first | done | rfl | (simp only [List.length_drop, List.length_take]; rfl)) ?_; (with_reducible refine (laws_toStepS.calls k _ _ l0 t185 _ ?side1 ?side2 A7.out).mono ?_); (case side1 => repeat (first | exact (Kd.C_below HR0.out HB.out) | (with_reducible refine Kd.C_alloc ?_ _) | (with_reducible refine Kd.C_drewN ?_ _) | (with_reducible refine Kd.C_drew ?_))); (case side2 => exact HC0.out); rintro e w27 ⟨v186, rfl, ho0, hb⟩; refine ⟨_, rfl, ?_⟩; have n0_ := Aside0.mk (Kd.R_elder' (by (with_reducible repeat (first | apply Kd.R_alloc | apply Kd.R_drewN | apply Kd.R_drew)); exact HO183.out) (Kd.R_base ho0) hb); have n1_ := Aside0.mk (Kd.R_lower (Kd.R_new' ho0 (Kd.R_lt (by (with_reducible repeat (first | apply Kd.R_alloc | apply Kd.R_drewN | apply Kd.R_drew)); exact HO183.out))) (below_size (by repeat (first | (with_reducible first | exact HB.out | apply below_alloc | apply pw_below_drewN | apply below_drew1) | exact HB.out)))); have n2_ := Aside0.mk (below_step (by repeat (first | (with_reducible first | exact HB.out | apply below_alloc | apply pw_below_drewN | apply below_drew1) | exact HB.out)) hb); clear HO183; clear HB; have HO183 := n0_; have HO187 := n1_; have HB := n2_; clear n0_ n1_ n2_; (try clear hb); (try clear hb2); (try clear hk); (try clear hi); (try clear ho0); obtain ⟨Ao28, co28, eo28⟩ := Kd.R_slice HO187.out; subst eo28) | ((with_reducible refine gate_callee (f := 55) rfl ?_); refine goesL_ (some 18) rfl rfl Try.func55 (by kernel_rfl) rfl #[.slice Ao28 t185.length co28] rfl (by (try simp only [List.map_toArray, List.map_cons, List.map_nil]); first | done | rfl | (simp only [List.length_drop, List.length_take]; rfl)) ?_; (with_reducible refine (impl_PlayText.calls k _ _ t185 t188 _ ?side1 ?side2 A8.out).mono ?_); (case side1 => repeat (first | exact (Kd.R_reads' HO187.out).2.2 | (with_reducible refine Kd.C_alloc ?_ _) | (with_reducible refine Kd.C_drewN ?_ _) | (with_reducible refine Kd.C_drew ?_))); (case side2 => exact (Kd.R_reads' HO187.out).2.1); rintro e w29 ⟨rfl, hb⟩; refine ⟨_, rfl, ?_⟩; have n0_ := Aside0.mk (Kd.R_below (by (with_reducible repeat (first | apply Kd.R_alloc | apply Kd.R_drewN | apply Kd.R_drew)); exact HO183.out) hb); have n1_ := Aside0.mk (Kd.R_below (by (with_reducible repeat (first | apply Kd.R_alloc | apply Kd.R_drewN | apply Kd.R_drew)); exact HO187.out) hb); have n2_ := Aside0.mk (below_step (by repeat (first | (with_reducible first | exact HB.out | apply below_alloc | apply pw_below_drewN | apply below_drew1) | exact HB.out)) hb); clear HO183; clear HO187; clear HB; have HO183 := n0_; have HO187 := n1_; have HB := n2_; clear n0_ n1_ n2_; (try clear hb); (try clear hb2); (try clear hk); (try clear hi)) | ((with_reducible refine gate_callee (f := 51) rfl ?_); refine goesL_ (some 24) rfl rfl Try.func51 (by kernel_rfl) rfl #[.slice A0 l0.length c0] rfl (by (try simp only [List.map_toArray, List.map_cons, List.map_nil]); first | done | rfl | (simp only [List.length_drop, List.length_take]; rfl)) ?_; (with_reducible refine (laws_toStepS.calls k _ _ l0 t189 _ ?side1 ?side2 A10.out).mono ?_); (case side1 => repeat (first | exact (Kd.C_below HR0.out HB.out) | (with_reducible refine Kd.C_alloc ?_ _) | (with_reducible refine Kd.C_drewN ?_ _) | (with_reducible refine Kd.C_drew ?_))); (case side2 => exact HC0.out); rintro e w30 ⟨v190, rfl, ho0, hb⟩; refine ⟨_, rfl, ?_⟩; have n0_ := Aside0.mk (Kd.R_elder' (by (with_reducible repeat (first | apply Kd.R_alloc | apply Kd.R_drewN | apply Kd.R_drew)); exact HO183.out) (Kd.R_base ho0) hb); have n1_ := Aside0.mk (Kd.R_elder' (by (with_reducible repeat (first | apply Kd.R_alloc | apply Kd.R_drewN | apply Kd.R_drew)); exact HO187.out) (Kd.R_base ho0) hb); have n2_ := Aside0.mk (Kd.R_lower (Kd.R_new' (Kd.R_new' ho0 (Kd.R_lt (by (with_reducible repeat (first | apply Kd.R_alloc | apply Kd.R_drewN | apply Kd.R_drew)); exact HO183.out))) (Kd.R_lt (by (with_reducible repeat (first | apply Kd.R_alloc | apply Kd.R_drewN | apply Kd.R_drew)); exact HO187.out))) (below_size (by repeat (first | (with_reducible first | exact HB.out | apply below_alloc | apply pw_below_drewN | apply below_drew1) | exact HB.out)))); have n3_ := Aside0.mk (below_step (by repeat (first | (with_reducible first | exact HB.out | apply below_alloc | apply pw_below_drewN | apply below_drew1) | exact HB.out)) hb); clear HO183; clear HO187; clear HB; have HO183 := n0_; have HO187 := n1_; have HO191 := n2_; have HB := n3_; clear n0_ n1_ n2_ n3_; (try clear hb); (try clear hb2); (try clear hk); (try clear hi); (try clear ho0); obtain ⟨Ao31, co31, eo31⟩ := Kd.R_slice HO191.out; subst eo31) | ((with_reducible refine gate_callee (f := 53) rfl ?_); refine goesL_ (some 25) rfl rfl Try.func53 (by kernel_rfl) rfl #[.slice Ao28 t185.length co28, .slice Ao31 t189.length co31] rfl (by (try simp only [List.map_toArray, List.map_cons, List.map_nil]); first | done | rfl | (simp only [List.length_drop, List.length_take]; rfl)) ?_; (with_reducible refine (laws_eqStepS.calls k _ _ t185 _ _ t189 false _ ?side1 ?side2 ?side3 ?side4 A11.out).mono ?_); (case side1 => repeat (first | exact (Kd.R_reads' HO187.out).2.2 | (with_reducible refine Kd.C_alloc ?_ _) | (with_reducible refine Kd.C_drewN ?_ _) | (with_reducible refine Kd.C_drew ?_))); (case side2 => exact (Kd.R_reads' HO187.out).2.1); (case side3 => repeat (first | exact (Kd.R_reads' HO191.out).2.2 | (with_reducible refine Kd.C_alloc ?_ _) | (with_reducible refine Kd.C_drewN ?_ _) | (with_reducible refine Kd.C_drew ?_))); (case side4 => exact (Kd.R_reads' HO191.out).2.1); rintro e w32 ⟨rfl, hb⟩; refine ⟨_, rfl, ?_⟩; have n0_ := Aside0.mk (Kd.R_below (by (with_reducible repeat (first | apply Kd.R_alloc | apply Kd.R_drewN | apply Kd.R_drew)); exact HO183.out) hb); have n1_ := Aside0.mk (Kd.R_below (by (with_reducible repeat (first | apply Kd.R_alloc | apply Kd.R_drewN | apply Kd.R_drew)); exact HO187.out) hb); have n2_ := Aside0.mk (Kd.R_below (by (with_reducible repeat (first | apply Kd.R_alloc | apply Kd.R_drewN | apply Kd.R_drew)); exact HO191.out) hb); have n3_ := Aside0.mk (below_step (by repeat (first | (with_reducible first | exact HB.out | apply below_alloc | apply pw_below_drewN | apply below_drew1) | exact HB.out)) hb); clear HO183; clear HO187; clear HO191; clear HB; have HO183 := n0_; have HO187 := n1_; have HO191 := n2_; have HB := n3_; clear n0_ n1_ n2_ n3_; (try clear hb); (try clear hb2); (try clear hk); (try clear hi)))
        go_ret
        exact ⟨by first | rfl | (simp [errW_none, errW_some] <;> rfl) | (simp [*, errW_none, errW_some] <;> rfl), by repeat (first | (with_reducible first | exact HB.out | apply below_alloc | apply pw_below_drewN | apply below_drew1) | exact HB.out)⟩
    · rw [if_neg c9] at H
      have c9b0 : (t188.toList == t184.toList) = false := beq_eq_false_iff_ne.mpr c9
      have c9b1 : (t188.toList != t184.toList) = true := bne_iff_ne.mpr c9
      obtain rfl := Option.some.inj H
      go_enter Try.func13, Try.ntmps13
      go_wp2_with (first | ((with_reducible refine gate_callee (f := 49) rfl ?_); refine goesL_ (some 9) rfl rfl Try.func49 (by kernel_rfl) rfl #[.slice A0 l0.length c0, .int .i64 1048576] rfl (by (try simp only [List.map_toArray, List.map_cons, List.map_nil]); first | done | rfl | (simp only [List.length_drop, List.length_take]; rfl)) ?_; (with_reducible refine (laws_szStepS.calls k _ _ l0 1048576 t180 _ ?side1 ?side2 A2.out).mono ?_); (case side1 => repeat (first | exact HR0.out | (with_reducible refine Kd.C_alloc ?_ _) | (with_reducible refine Kd.C_drewN ?_ _) | (with_reducible refine Kd.C_drew ?_))); (case side2 => exact HC0.out); rintro e w33 ⟨rfl, hb⟩; refine ⟨_, rfl, ?_⟩; have n0_ := Aside0.mk (below_step (by repeat (first | (with_reducible first | exact HB.out | apply below_alloc | apply pw_below_drewN | apply below_drew1) | exact HB.out)) hb); clear HB; have HB := n0_; clear n0_; (try clear hb); (try clear hb2); (try clear hk); (try clear hi)) | ((with_reducible refine gate_callee (f := 51) rfl ?_); refine goesL_ (some 13) rfl rfl Try.func51 (by kernel_rfl) rfl #[.slice A0 l0.length c0] rfl (by (try simp only [List.map_toArray, List.map_cons, List.map_nil]); first | done | rfl | (simp only [List.length_drop, List.length_take]; rfl)) ?_; (with_reducible refine (laws_toStepS.calls k _ _ l0 t181 _ ?side1 ?side2 A5.out).mono ?_); (case side1 => repeat (first | exact (Kd.C_below HR0.out HB.out) | (with_reducible refine Kd.C_alloc ?_ _) | (with_reducible refine Kd.C_drewN ?_ _) | (with_reducible refine Kd.C_drew ?_))); (case side2 => exact HC0.out); rintro e w34 ⟨v182, rfl, ho0, hb⟩; refine ⟨_, rfl, ?_⟩; have n0_ := Aside0.mk (Kd.R_lower ho0 (below_size (by repeat (first | (with_reducible first | exact HB.out | apply below_alloc | apply pw_below_drewN | apply below_drew1) | exact HB.out)))); have n1_ := Aside0.mk (below_step (by repeat (first | (with_reducible first | exact HB.out | apply below_alloc | apply pw_below_drewN | apply below_drew1) | exact HB.out)) hb); clear HB; have HO183 := n0_; have HB := n1_; clear n0_ n1_; (try clear hb); (try clear hb2); (try clear hk); (try clear hi); (try clear ho0); obtain ⟨Ao35, co35, eo35⟩ := Kd.R_slice HO183.out; subst eo35) | ((with_reducible refine gate_callee (f := 54) rfl ?_); refine goesL_ (some 14) rfl rfl Try.func54 (by kernel_rfl) rfl #[.slice Ao35 t181.length co35] rfl (by (try simp only [List.map_toArray, List.map_cons, List.map_nil]); first | done | rfl | (simp only [List.length_drop, List.length_take]; rfl)) ?_; (with_reducible refine (spec_PlayText.calls k _ _ t181 t184 _ ?side1 ?side2 A6.out).mono ?_); (case side1 => repeat (first | exact (Kd.R_reads' HO183.out).2.2 | (with_reducible refine Kd.C_alloc ?_ _) | (with_reducible refine Kd.C_drewN ?_ _) | (with_reducible refine Kd.C_drew ?_))); (case side2 => exact (Kd.R_reads' HO183.out).2.1); rintro e w36 ⟨rfl, hb⟩; refine ⟨_, rfl, ?_⟩; have n0_ := Aside0.mk (Kd.R_below (by (with_reducible repeat (first | apply Kd.R_alloc | apply Kd.R_drewN | apply Kd.R_drew)); exact HO183.out) hb); have n1_ := Aside0.mk (below_step (by repeat (first | (with_reducible first | exact HB.out | apply below_alloc | apply pw_below_drewN | apply below_drew1) | exact HB.out)) hb); clear HO183; clear HB; have HO183 := n0_; have HB := n1_; clear n0_ n1_; (try clear hb); (try clear hb2); (try clear hk); (try clear hi)) | ((with_reducible refine gate_callee (f := 51) rfl ?_); refine goesL_ (some 16) rfl rfl Try.func51 (by kernel_rfl) rfl #[.slice A0 l0.length c0] rfl (by (try simp only [List.map_toArray, List.map_cons, List.map_nil]); first | done | rfl | (simp only [List.length_drop, List.length_take]; rfl)) ?_; (with_reducible refine (laws_toStepS.calls k _ _ l0 t185 _ ?side1 ?side2 A7.out).mono ?_); (case side1 => repeat (first | exact (Kd.C_below HR0.out HB.out) | (with_reducible refine Kd.C_alloc ?_ _) | (with_reducible refine Kd.C_drewN ?_ _) | (with_reducible refine Kd.C_drew ?_))); (case side2 => exact HC0.out); rintro e w37 ⟨v186, rfl, ho0, hb⟩; refine ⟨_, rfl, ?_⟩; have n0_ := Aside0.mk (Kd.R_elder' (by (with_reducible repeat (first | apply Kd.R_alloc | apply Kd.R_drewN | apply Kd.R_drew)); exact HO183.out) (Kd.R_base ho0) hb); have n1_ := Aside0.mk (Kd.R_lower (Kd.R_new' ho0 (Kd.R_lt (by (with_reducible repeat (first | apply Kd.R_alloc | apply Kd.R_drewN | apply Kd.R_drew)); exact HO183.out))) (below_size (by repeat (first | (with_reducible first | exact HB.out | apply below_alloc | apply pw_below_drewN | apply below_drew1) | exact HB.out)))); have n2_ := Aside0.mk (below_step (by repeat (first | (with_reducible first | exact HB.out | apply below_alloc | apply pw_below_drewN | apply below_drew1) | exact HB.out)) hb); clear HO183; clear HB; have HO183 := n0_; have HO187 := n1_; have HB := n2_; clear n0_ n1_ n2_; (try clear hb); (try clear hb2); (try clear hk); (try clear hi); (try clear ho0); obtain ⟨Ao38, co38, eo38⟩ := Kd.R_slice HO187.out; subst eo38) | ((with_reducible refine gate_callee (f := 55) rfl ?_); refine goesL_ (some 18) rfl rfl Try.func55 (by kernel_rfl) rfl #[.slice Ao38 t185.length co38] rfl (by (try simp only [List.map_toArray, List.map_cons, List.map_nil]); first | done | rfl | (simp only [List.length_drop, List.length_take]; rfl)) ?_; (with_reducible refine (impl_PlayText.calls k _ _ t185 t188 _ ?side1 ?side2 A8.out).mono ?_); (case side1 => repeat (first | exact (Kd.R_reads' HO187.out).2.2 | (with_reducible refine Kd.C_alloc ?_ _) | (with_reducible refine Kd.C_drewN ?_ _) | (with_reducible refine Kd.C_drew ?_))); (case side2 => exact (Kd.R_reads' HO187.out).2.1); rintro e w39 ⟨rfl, hb⟩; refine ⟨_, rfl, ?_⟩; have n0_ := Aside0.mk (Kd.R_below (by (with_reducible repeat (first | apply Kd.R_alloc | apply Kd.R_drewN | apply Kd.R_drew)); exact HO183.out) hb); have n1_ := Aside0.mk (Kd.R_below (by (with_reducible repeat (first | apply Kd.R_alloc | apply Kd.R_drewN | apply Kd.R_drew)); exact HO187.out) hb); have n2_ := Aside0.mk (below_step (by repeat (first | (with_reducible first | exact HB.out | apply below_alloc | apply pw_below_drewN | apply below_drew1) | exact HB.out)) hb); clear HO183; clear HO187; clear HB; have HO183 := n0_; have HO187 := n1_; have HB := n2_; clear n0_ n1_ n2_; (try clear hb); (try clear hb2); (try clear hk); (try clear hi)))
      go_ret
      exact ⟨by first | rfl | (simp [errW_none, errW_some] <;> rfl) | (simp [*, errW_none, errW_some] <;> rfl), by repeat (first | (with_reducible first | exact HB.out | apply below_alloc | apply pw_below_drewN | apply below_drew1) | exact HB.out)⟩

end Go.Proofs.Ytfnpmkmdpbgjkaa.PFnExactPlayText
