/- Walks of functions: what each computes. -/
import Derived.Test.YtddacmgigolcbaaZRightSlotsP0
import Derived.Test.YtddacmgigolcbaaZRightSlotsP8
namespace Go.Proofs.Ytddacmgigolcbaa.PFnExactRightSlots
open Go.RowKit Go.Proofs.YtddacmgigolcbaaW.PrintWords Go.Proofs.YtddacmgigolcbaaW.PrintLast Go.Proofs.YtddacmgigolcbaaW.PrintMore Go.Proofs.Ytddacmgigolcbaa.Sq
attribute [local go_sem] max2_int min2_int max_two min_two max_three min_three max_four min_four
set_option linter.unusedVariables false
set_option linter.unusedSimpArgs false
mutual
def impl_IsFill.j0 : Nat → ByteArray → Bool → Int → Int → ByteArray → Option (Bool)
 | 0, _, _, _, _, _ => none
 | k + 1, x1, x16, x201000, x201001, x201002 => if x16 = true then (some false) else (impl_IsFill.l0 k x1 (x1.size : Int) 0 x201000 x201001 x201002)
def impl_IsFill.l0 : Nat → ByteArray → Int → Int → Int → Int → ByteArray → Option (Bool)
 | 0, _, _, _, _, _, _ => none
 | k + 1, x1, x18, x19, x201000, x201001, x201002 => if x19 < x18 then (if 0 ≤ x19 then (if x19 < (x201002.size : Int) then (if x19 < (x1.size : Int) then (if (((bt x201002 x19) == 35) != ((bt x1 x19) == 35)) = true then (some false) else (if (bt x1 x19) = 35 then (impl_IsFill.l0 k x1 x18 (wrap64 (x19 + 1)) x201000 x201001 x201002) else (if (bt x1 x19) = 63 then (impl_IsFill.l0 k x1 x18 (wrap64 (x19 + 1)) x201000 x201001 x201002) else ((impl_isLetter.f (bt x1 x19)).bind fun t202 => (if t202 = true then (impl_IsFill.l0 k x1 x18 (wrap64 (x19 + 1)) x201000 x201001 x201002) else (some false)))))) else (none)) else (none)) else (none)) else (some true)
end
def impl_IsFill.f (k : Nat) (a0_0 : Int) (a0_1 : Int) (a0_2 : ByteArray) (a1 : ByteArray) : Option (Bool) := (impl_IsGrid.f k a0_0 a0_1 a0_2).bind fun t201 => (if t201 = true then (impl_IsFill.j0 k a1 ((a1.size : Int) != (a0_2.size : Int)) a0_0 a0_1 a0_2) else (impl_IsFill.j0 k a1 true a0_0 a0_1 a0_2))
set_option maxHeartbeats 8000000 in
set_option maxRecDepth 100000 in
theorem impl_IsFill.calls (k : Nat) (a0_0 : Int) (a0_1 : Int) (a0_2 : ByteArray) (a1 : ByteArray) (r : Bool) (w : World) (h : impl_IsFill.f k a0_0 a0_1 a0_2 a1 = some r) :
  Calls Try.prog 116 #[.agg #[.int .i64 a0_0, .int .i64 a0_1, .string a0_2], .string a1] w fun e w' => e = .returned (.bool r) ∧ Below w.heap.size w w' := by
 have hu30 := Try.underlying30
 have HB := Aside0.mk (Below.refl w.heap.size w)
 have H : ((impl_IsGrid.f k a0_0 a0_1 a0_2).bind fun t201 => (if t201 = true then (impl_IsFill.j0 k a1 ((a1.size : Int) != (a0_2.size : Int)) a0_0 a0_1 a0_2) else (impl_IsFill.j0 k a1 true a0_0 a0_1 a0_2))) = some r := h
 clear h
 have HC3 := Aside0.mk H
 clear H
 go_enter Try.func116, Try.ntmps116
 go_upto_region 1 with (first | ((with_reducible refine gate_dst (N := 2) rfl ?_); (try (refine gate_guard (by rfl) ?_; dsimp only)); refine box_ev (N := 2) (cs := #[.int .i64 a0_0, .int .i64 a0_1, .string a0_2]) (t := 30) ?_; intro gb200 hg w4 hbox hb; have n0_ := Aside0.mk (below_step BL hb); have n1_ := Aside0.mk (hbox); have n2_ := Aside0.mk ((by rw [hg]; exact (below_size BL) : w.heap.size ≤ gb200)); have n3_ := Aside0.mk ((by rw [hg]; exact (below_size BL) : w.heap.size ≤ gb200)); clear HB; have HB := n0_; have BK200 := n1_; have GW200 := n2_; have GE200 := n3_; clear n0_ n1_ n2_ n3_; clear hb hbox hg))
 repeat (go_quiet (first | ((with_reducible refine gate_dst (N := 2) rfl ?_); (try (refine gate_guard (by rfl) ?_; dsimp only)); refine box_ev (N := 2) (cs := #[.int .i64 a0_0, .int .i64 a0_1, .string a0_2]) (t := 30) ?_; intro gb200 hg w4 hbox hb; have n0_ := Aside0.mk (below_step BL hb); have n1_ := Aside0.mk (hbox); have n2_ := Aside0.mk ((by rw [hg]; exact (below_size BL) : w.heap.size ≤ gb200)); have n3_ := Aside0.mk ((by rw [hg]; exact (below_size BL) : w.heap.size ≤ gb200)); clear HB; have HB := n0_; have BK200 := n1_; have GW200 := n2_; have GE200 := n3_; clear n0_ n1_ n2_ n3_; clear hb hbox hg)); go_upto_region 1 with (first | ((with_reducible refine gate_dst (N := 2) rfl ?_); (try (refine gate_guard (by rfl) ?_; dsimp only)); refine box_ev (N := 2) (cs := #[.int .i64 a0_0, .int .i64 a0_1, .string a0_2]) (t := 30) ?_; intro gb200 hg w4 hbox hb; have n0_ := Aside0.mk (below_step BL hb); have n1_ := Aside0.mk (hbox); have n2_ := Aside0.mk ((by rw [hg]; exact (below_size BL) : w.heap.size ≤ gb200)); have n3_ := Aside0.mk ((by rw [hg]; exact (below_size BL) : w.heap.size ≤ gb200)); clear HB; have HB := n0_; have BK200 := n1_; have GW200 := n2_; have GE200 := n3_; clear n0_ n1_ n2_ n3_; clear hb hbox hg)))
 (try simp only [Act.put, List.setIfInBounds_toArray, List.set_cons_zero, List.set_cons_succ])
 go_cut [16] (fun v16 wc => ∃ (kq : Nat) (x16_2 : Bool), v16 = .bool x16_2 ∧ Aside0 (impl_IsFill.j0 kq a1 x16_2 a0_0 a0_1 a0_2 = some r) ∧ Aside0 (kq ≤ k) ∧ Aside0 (wc.heap[gb200]? = some (.cells #[.int .i64 a0_0, .int .i64 a0_1, .string a0_2] 30 (0, 0))) ∧ Aside0 (Below w.heap.size w wc))
 case first =>
  have H := HC3.out
  clear HC3
  replace H := Option.bind_eq_some_iff.mp H
  obtain ⟨t201, A50, H⟩ := H
  replace H : (if t201 = true then (impl_IsFill.j0 k a1 ((a1.size : Int) != (a0_2.size : Int)) a0_0 a0_1 a0_2) else (impl_IsFill.j0 k a1 true a0_0 a0_1 a0_2)) = some r := H
  have A5 := Aside0.mk A50
  clear A50
  by_cases c6 : t201 = true
  ·subst c6
   have H1 : (impl_IsFill.j0 k a1 ((a1.size : Int) != (a0_2.size : Int)) a0_0 a0_1 a0_2) = some r := by rw [if_pos rfl] at H; exact H
   clear H
   have H := H1
   clear H1
   have H' := Aside0.mk H
   clear H
   obtain ⟨hcz7_0, hcz7_1, hcz7_2, hfz7_0, hfz7_1, hfz7_2⟩ := cz3 BK200.out
   go_wp2_with (first | (go_at_call 139; (with_reducible refine (impl_IsGrid.calls k a0_0 a0_1 a0_2 true _ A5.out).mono ?_); rintro e w8 ⟨rfl, hb⟩; have n0_ := KB BK200 hb; have n1_ := Aside0.mk (below_step BL hb); clear BK200; clear HB; have BK200 := n0_; have HB := n1_; clear n0_ n1_; (try clear hb); (try clear hb2); (try clear hk); (try clear hi); obtain ⟨hcz9_0, hcz9_1, hcz9_2, hfz9_0, hfz9_1, hfz9_2⟩ := cz3 BK200.out))
   repeat (go_quiet (first | (go_at_call 139; (with_reducible refine (impl_IsGrid.calls k a0_0 a0_1 a0_2 true _ A5.out).mono ?_); rintro e w8 ⟨rfl, hb⟩; have n0_ := KB BK200 hb; have n1_ := Aside0.mk (below_step BL hb); clear BK200; clear HB; have BK200 := n0_; have HB := n1_; clear n0_ n1_; (try clear hb); (try clear hb2); (try clear hk); (try clear hi); obtain ⟨hcz9_0, hcz9_1, hcz9_2, hfz9_0, hfz9_1, hfz9_2⟩ := cz3 BK200.out)); try go_wp2_with (first | (go_at_call 139; (with_reducible refine (impl_IsGrid.calls k a0_0 a0_1 a0_2 true _ A5.out).mono ?_); rintro e w8 ⟨rfl, hb⟩; have n0_ := KB BK200 hb; have n1_ := Aside0.mk (below_step BL hb); clear BK200; clear HB; have BK200 := n0_; have HB := n1_; clear n0_ n1_; (try clear hb); (try clear hb2); (try clear hk); (try clear hi); obtain ⟨hcz9_0, hcz9_1, hcz9_2, hfz9_0, hfz9_1, hfz9_2⟩ := cz3 BK200.out)))
   go_meet
   case rel => exact ⟨_, (((a1.size : Int) != (a0_2.size : Int))), EQ, H', ⟨by first | omega | exact Nat.le_refl _⟩, ⟨BK⟩, ⟨BL⟩⟩
  ·replace c6 := Bool.eq_false_iff.mpr c6
   subst c6
   have H1 : (impl_IsFill.j0 k a1 true a0_0 a0_1 a0_2) = some r := by rw [if_neg (show ¬ (false = true) by decide)] at H; exact H
   clear H
   have H := H1
   clear H1
   have H' := Aside0.mk H
   clear H
   obtain ⟨hcz10_0, hcz10_1, hcz10_2, hfz10_0, hfz10_1, hfz10_2⟩ := cz3 BK200.out
   go_wp2_with (first | (go_at_call 139; (with_reducible refine (impl_IsGrid.calls k a0_0 a0_1 a0_2 false _ A5.out).mono ?_); rintro e w11 ⟨rfl, hb⟩; have n0_ := KB BK200 hb; have n1_ := Aside0.mk (below_step BL hb); clear BK200; clear HB; have BK200 := n0_; have HB := n1_; clear n0_ n1_; (try clear hb); (try clear hb2); (try clear hk); (try clear hi)))
   repeat (go_quiet (first | (go_at_call 139; (with_reducible refine (impl_IsGrid.calls k a0_0 a0_1 a0_2 false _ A5.out).mono ?_); rintro e w11 ⟨rfl, hb⟩; have n0_ := KB BK200 hb; have n1_ := Aside0.mk (below_step BL hb); clear BK200; clear HB; have BK200 := n0_; have HB := n1_; clear n0_ n1_; (try clear hb); (try clear hb2); (try clear hk); (try clear hi))); try go_wp2_with (first | (go_at_call 139; (with_reducible refine (impl_IsGrid.calls k a0_0 a0_1 a0_2 false _ A5.out).mono ?_); rintro e w11 ⟨rfl, hb⟩; have n0_ := KB BK200 hb; have n1_ := Aside0.mk (below_step BL hb); clear BK200; clear HB; have BK200 := n0_; have HB := n1_; clear n0_ n1_; (try clear hb); (try clear hb2); (try clear hk); (try clear hi))))
   go_meet
   case rel => exact ⟨_, (true), EQ, H', ⟨by first | omega | exact Nat.le_refl _⟩, ⟨BK⟩, ⟨BL⟩⟩
 case rest =>
  clear HC3
  obtain ⟨kq, x16_2, rfl, HA, HJ2, BK200, HB⟩ := hcut
  cases kq with
  | zero => exact absurd HA.out (by simp [impl_IsFill.j0])
  | succ kj2 =>
   have H := HA.out
   clear HA
   simp only [impl_IsFill.j0] at H
   by_cases c12 : x16_2 = true
   ·subst c12
    have H1 : (some false) = some r := by rw [if_pos rfl] at H; exact H
    clear H
    have H := H1
    clear H1
    obtain rfl := Option.some.inj H
    go_wp2
    repeat (go_quiet (fail); try go_wp2)
    go_ret
    exact ⟨by first | rfl | (simp [errW_none, errW_some] <;> rfl) | (simp [*, errW_none, errW_some] <;> rfl), BL⟩
   ·replace c12 := Bool.eq_false_iff.mpr c12
    subst c12
    have H1 : (impl_IsFill.l0 kj2 a1 (a1.size : Int) 0 a0_0 a0_1 a0_2) = some r := by rw [if_neg (show ¬ (false = true) by decide)] at H; exact H
    clear H
    have H := H1
    clear H1
    have H' := Aside0.mk H
    clear H
    go_wp2
    repeat (go_quiet (fail); try go_wp2)
    go_loopg [19] kj2 (fun kq v19 w' => ∃ (x19_2 : Int), v19 = .int .i64 x19_2 ∧ Aside0 (impl_IsFill.l0 kq a1 (a1.size : Int) x19_2 a0_0 a0_1 a0_2 = some r) ∧ Aside0 (kq ≤ kj2) ∧ Aside0 (w'.heap[gb200]? = some (.cells #[.int .i64 a0_0, .int .i64 a0_1, .string a0_2] 30 (0, 0))) ∧ Aside0 (Below w.heap.size w w'))
    case atStart => exact ⟨(0), EQ, H', ⟨Nat.le_refl _⟩, ⟨BK⟩, ⟨BL⟩⟩
    case round =>
     clear H'
     try clear c12
     obtain ⟨x19_2, rfl, HA, HK2, BK200, HB⟩ := hrel
     cases gk with
     | zero => exact absurd HA.out (by simp [impl_IsFill.l0])
     | succ k2 =>
      have H := HA.out
      clear HA
      simp only [impl_IsFill.l0] at H
      by_cases c13 : x19_2 < (a1.size : Int)
      ·rw [if_pos c13] at H
       have c13b0 : decide (x19_2 < (a1.size : Int)) = true := decide_eq_true c13
       clear c13
       by_cases c14 : 0 ≤ x19_2
       ·rw [if_pos c14] at H
        have c14b0 : decide (0 ≤ x19_2) = true := decide_eq_true c14
        clear c14
        by_cases c15 : x19_2 < (a0_2.size : Int)
        ·rw [if_pos c15] at H
         have c15b0 : decide (x19_2 < (a0_2.size : Int)) = true := decide_eq_true c15
         clear c15
         by_cases c17 : x19_2 < (a1.size : Int)
         ·rw [if_pos c17] at H
          have c17b0 : decide (x19_2 < (a1.size : Int)) = true := decide_eq_true c17
          clear c17
          by_cases c19 : (((bt a0_2 x19_2) == 35) != ((bt a1 x19_2) == 35)) = true
          ·rw [if_pos c19] at H
           have c19b0 : (((bt a0_2 x19_2) == 35) != ((bt a1 x19_2) == 35)) = true := c19
           (try (have c19b1 : decide (((bt a0_2 x19_2) == 35) = ((bt a1 x19_2) == 35)) = false := by simpa using c19))
           (try (have c19b2 : (((bt a0_2 x19_2) == 35) == ((bt a1 x19_2) == 35)) = false := by simpa using c19))
           (try (have c19b3 : ¬ (((bt a0_2 x19_2) == 35) = ((bt a1 x19_2) == 35)) := by simpa using c19))
           clear c19
           obtain rfl := Option.some.inj H
           obtain ⟨hcz20_0, hcz20_1, hcz20_2, hfz20_0, hfz20_1, hfz20_2⟩ := cz3 BK200.out
           have p16 : 0 ≤ (x19_2 : Int) := OD
           have q16 : x19_2 < (a0_2.size : Int) := OD
           have hx16 := bt_at a0_2 x19_2
           replace p16 := eq_true p16
           replace q16 := eq_true q16
           have p18 : 0 ≤ (x19_2 : Int) := OD
           have q18 : x19_2 < (a1.size : Int) := OD
           have hx18 := bt_at a1 x19_2
           replace p18 := eq_true p18
           replace q18 := eq_true q18
           go_wp2
           repeat (go_quiet (fail); try go_wp2)
           go_ret
           exact ⟨by first | rfl | (simp [errW_none, errW_some] <;> rfl) | (simp [*, errW_none, errW_some] <;> rfl), BL⟩
          ·rw [if_neg c19] at H
           have c19b0 : (((bt a0_2 x19_2) == 35) != ((bt a1 x19_2) == 35)) = false := by simpa using c19
           (try (have c19b1 : decide (((bt a0_2 x19_2) == 35) = ((bt a1 x19_2) == 35)) = true := by simpa using c19))
           (try (have c19b2 : (((bt a0_2 x19_2) == 35) == ((bt a1 x19_2) == 35)) = true := by simpa using c19))
           clear c19
           by_cases c22 : (bt a1 x19_2) = 35
           ·rw [if_pos c22] at H
            have c22b0 : ((bt a1 x19_2) == 35) = true := beq_iff_eq.mpr c22
            have cwc19_ : ((bt a0_2 x19_2) == 35) = true := (bne_eq_false_iff_eq.mp c19b0).trans c22b0
            have c22b1 : ((bt a1 x19_2) != 35) = false := bne_eq_false_iff_eq.mpr c22
            clear c22
            have H' := Aside0.mk H
            clear H
            obtain ⟨hcz23_0, hcz23_1, hcz23_2, hfz23_0, hfz23_1, hfz23_2⟩ := cz3 BK200.out
            have p16 : 0 ≤ (x19_2 : Int) := OD
            have q16 : x19_2 < (a0_2.size : Int) := OD
            have hx16 := bt_at a0_2 x19_2
            replace p16 := eq_true p16
            replace q16 := eq_true q16
            have p18 : 0 ≤ (x19_2 : Int) := OD
            have q18 : x19_2 < (a1.size : Int) := OD
            have hx18 := bt_at a1 x19_2
            replace p18 := eq_true p18
            replace q18 := eq_true q18
            have p21 : 0 ≤ (x19_2 : Int) := OD
            have q21 : x19_2 < (a1.size : Int) := OD
            have hx21 := bt_at a1 x19_2
            replace p21 := eq_true p21
            replace q21 := eq_true q21
            go_wp2
            repeat (go_quiet (fail); try go_wp2)
            go_roundg k2
            case measure => have := HJ2.out; have := HK2.out; omega
            case rel => exact ⟨(wrap64 (x19_2 + 1)), EQ, H', ⟨by have := HJ2.out; have := HK2.out; omega⟩, ⟨BK⟩, ⟨BL⟩⟩
           ·rw [if_neg c22] at H
            have c22b0 : ((bt a1 x19_2) == 35) = false := beq_eq_false_iff_ne.mpr c22
            have cwc19_ : ((bt a0_2 x19_2) == 35) = false := (bne_eq_false_iff_eq.mp c19b0).trans c22b0
            have c22b1 : ((bt a1 x19_2) != 35) = true := bne_iff_ne.mpr c22
            by_cases c25 : (bt a1 x19_2) = 63
            ·rw [if_pos c25] at H
             have c25b0 : ((bt a1 x19_2) == 63) = true := beq_iff_eq.mpr c25
             have c25b1 : ((bt a1 x19_2) != 63) = false := bne_eq_false_iff_eq.mpr c25
             clear c25
             have H' := Aside0.mk H
             clear H
             obtain ⟨hcz26_0, hcz26_1, hcz26_2, hfz26_0, hfz26_1, hfz26_2⟩ := cz3 BK200.out
             have p16 : 0 ≤ (x19_2 : Int) := OD
             have q16 : x19_2 < (a0_2.size : Int) := OD
             have hx16 := bt_at a0_2 x19_2
             replace p16 := eq_true p16
             replace q16 := eq_true q16
             have p18 : 0 ≤ (x19_2 : Int) := OD
             have q18 : x19_2 < (a1.size : Int) := OD
             have hx18 := bt_at a1 x19_2
             replace p18 := eq_true p18
             replace q18 := eq_true q18
             have p21 : 0 ≤ (x19_2 : Int) := OD
             have q21 : x19_2 < (a1.size : Int) := OD
             have hx21 := bt_at a1 x19_2
             replace p21 := eq_true p21
             replace q21 := eq_true q21
             have p24 : 0 ≤ (x19_2 : Int) := OD
             have q24 : x19_2 < (a1.size : Int) := OD
             have hx24 := bt_at a1 x19_2
             replace p24 := eq_true p24
             replace q24 := eq_true q24
             go_wp2
             repeat (go_quiet (fail); try go_wp2)
             go_roundg k2
             case measure => have := HJ2.out; have := HK2.out; omega
             case rel => exact ⟨(wrap64 (x19_2 + 1)), EQ, H', ⟨by have := HJ2.out; have := HK2.out; omega⟩, ⟨BK⟩, ⟨BL⟩⟩
            ·rw [if_neg c25] at H
             have c25b0 : ((bt a1 x19_2) == 63) = false := beq_eq_false_iff_ne.mpr c25
             have c25b1 : ((bt a1 x19_2) != 63) = true := bne_iff_ne.mpr c25
             replace H := Option.bind_eq_some_iff.mp H
             obtain ⟨t202, A280, H⟩ := H
             replace H : (if t202 = true then (impl_IsFill.l0 k2 a1 (a1.size : Int) (wrap64 (x19_2 + 1)) a0_0 a0_1 a0_2) else (some false)) = some r := H
             have A28 := Aside0.mk A280
             clear A280
             by_cases c29 : t202 = true
             ·subst c29
              have H1 : (impl_IsFill.l0 k2 a1 (a1.size : Int) (wrap64 (x19_2 + 1)) a0_0 a0_1 a0_2) = some r := by rw [if_pos rfl] at H; exact H
              clear H
              have H := H1
              clear H1
              have H' := Aside0.mk H
              clear H
              obtain ⟨hcz30_0, hcz30_1, hcz30_2, hfz30_0, hfz30_1, hfz30_2⟩ := cz3 BK200.out
              have p16 : 0 ≤ (x19_2 : Int) := OD
              have q16 : x19_2 < (a0_2.size : Int) := OD
              have hx16 := bt_at a0_2 x19_2
              replace p16 := eq_true p16
              replace q16 := eq_true q16
              have p18 : 0 ≤ (x19_2 : Int) := OD
              have q18 : x19_2 < (a1.size : Int) := OD
              have hx18 := bt_at a1 x19_2
              replace p18 := eq_true p18
              replace q18 := eq_true q18
              have p21 : 0 ≤ (x19_2 : Int) := OD
              have q21 : x19_2 < (a1.size : Int) := OD
              have hx21 := bt_at a1 x19_2
              replace p21 := eq_true p21
              replace q21 := eq_true q21
              have p24 : 0 ≤ (x19_2 : Int) := OD
              have q24 : x19_2 < (a1.size : Int) := OD
              have hx24 := bt_at a1 x19_2
              replace p24 := eq_true p24
              replace q24 := eq_true q24
              have p27 : 0 ≤ (x19_2 : Int) := OD
              have q27 : x19_2 < (a1.size : Int) := OD
              have hx27 := bt_at a1 x19_2
              replace p27 := eq_true p27
              replace q27 := eq_true q27
              go_wp2_with (first | (go_at_call 129; (with_reducible refine (impl_isLetter.calls (bt a1 x19_2) true _ A28.out).mono ?_); rintro e w' ⟨rfl, ⟨nd, rfl⟩⟩; (try first | exact ⟨rfl, _, World.drewN_drewN _ _ _⟩ | exact ⟨rfl, _, Eq.trans (World.drewN_drewN _ _ _) (congrArg (World.drewN _) (Nat.add_assoc _ _ _))⟩)))
              repeat (go_quiet (first | (go_at_call 129; (with_reducible refine (impl_isLetter.calls (bt a1 x19_2) true _ A28.out).mono ?_); rintro e w' ⟨rfl, ⟨nd, rfl⟩⟩; (try first | exact ⟨rfl, _, World.drewN_drewN _ _ _⟩ | exact ⟨rfl, _, Eq.trans (World.drewN_drewN _ _ _) (congrArg (World.drewN _) (Nat.add_assoc _ _ _))⟩))); try go_wp2_with (first | (go_at_call 129; (with_reducible refine (impl_isLetter.calls (bt a1 x19_2) true _ A28.out).mono ?_); rintro e w' ⟨rfl, ⟨nd, rfl⟩⟩; (try first | exact ⟨rfl, _, World.drewN_drewN _ _ _⟩ | exact ⟨rfl, _, Eq.trans (World.drewN_drewN _ _ _) (congrArg (World.drewN _) (Nat.add_assoc _ _ _))⟩))))
              go_roundg k2
              case measure => have := HJ2.out; have := HK2.out; omega
              case rel => exact ⟨(wrap64 (x19_2 + 1)), EQ, H', ⟨by have := HJ2.out; have := HK2.out; omega⟩, ⟨BK⟩, ⟨BL⟩⟩
             ·replace c29 := Bool.eq_false_iff.mpr c29
              subst c29
              have H1 : (some false) = some r := by rw [if_neg (show ¬ (false = true) by decide)] at H; exact H
              clear H
              have H := H1
              clear H1
              obtain rfl := Option.some.inj H
              obtain ⟨hcz31_0, hcz31_1, hcz31_2, hfz31_0, hfz31_1, hfz31_2⟩ := cz3 BK200.out
              have p16 : 0 ≤ (x19_2 : Int) := OD
              have q16 : x19_2 < (a0_2.size : Int) := OD
              have hx16 := bt_at a0_2 x19_2
              replace p16 := eq_true p16
              replace q16 := eq_true q16
              have p18 : 0 ≤ (x19_2 : Int) := OD
              have q18 : x19_2 < (a1.size : Int) := OD
              have hx18 := bt_at a1 x19_2
              replace p18 := eq_true p18
              replace q18 := eq_true q18
              have p21 : 0 ≤ (x19_2 : Int) := OD
              have q21 : x19_2 < (a1.size : Int) := OD
              have hx21 := bt_at a1 x19_2
              replace p21 := eq_true p21
              replace q21 := eq_true q21
              have p24 : 0 ≤ (x19_2 : Int) := OD
              have q24 : x19_2 < (a1.size : Int) := OD
              have hx24 := bt_at a1 x19_2
              replace p24 := eq_true p24
              replace q24 := eq_true q24
              have p27 : 0 ≤ (x19_2 : Int) := OD
              have q27 : x19_2 < (a1.size : Int) := OD
              have hx27 := bt_at a1 x19_2
              replace p27 := eq_true p27
              replace q27 := eq_true q27
              go_wp2_with (first | (go_at_call 129; (with_reducible refine (impl_isLetter.calls (bt a1 x19_2) false _ A28.out).mono ?_); rintro e w' ⟨rfl, ⟨nd, rfl⟩⟩; (try first | exact ⟨rfl, _, World.drewN_drewN _ _ _⟩ | exact ⟨rfl, _, Eq.trans (World.drewN_drewN _ _ _) (congrArg (World.drewN _) (Nat.add_assoc _ _ _))⟩)))
              repeat (go_quiet (first | (go_at_call 129; (with_reducible refine (impl_isLetter.calls (bt a1 x19_2) false _ A28.out).mono ?_); rintro e w' ⟨rfl, ⟨nd, rfl⟩⟩; (try first | exact ⟨rfl, _, World.drewN_drewN _ _ _⟩ | exact ⟨rfl, _, Eq.trans (World.drewN_drewN _ _ _) (congrArg (World.drewN _) (Nat.add_assoc _ _ _))⟩))); try go_wp2_with (first | (go_at_call 129; (with_reducible refine (impl_isLetter.calls (bt a1 x19_2) false _ A28.out).mono ?_); rintro e w' ⟨rfl, ⟨nd, rfl⟩⟩; (try first | exact ⟨rfl, _, World.drewN_drewN _ _ _⟩ | exact ⟨rfl, _, Eq.trans (World.drewN_drewN _ _ _) (congrArg (World.drewN _) (Nat.add_assoc _ _ _))⟩))))
              go_ret
              exact ⟨by first | rfl | (simp [errW_none, errW_some] <;> rfl) | (simp [*, errW_none, errW_some] <;> rfl), BL⟩
         ·rw [if_neg c17] at H
          exact absurd H (by simp)
        ·rw [if_neg c15] at H
         exact absurd H (by simp)
       ·rw [if_neg c14] at H
        exact absurd H (by simp)
      ·rw [if_neg c13] at H
       have c13b0 : decide (x19_2 < (a1.size : Int)) = false := decide_eq_false c13
       clear c13
       obtain rfl := Option.some.inj H
       go_wp2
       repeat (go_quiet (fail); try go_wp2)
       go_ret
       exact ⟨by first | rfl | (simp [errW_none, errW_some] <;> rfl) | (simp [*, errW_none, errW_some] <;> rfl), BL⟩
end Go.Proofs.Ytddacmgigolcbaa.PFnExactRightSlots
