/- Walks of functions: what each computes. -/
import Derived.Test.YthincoghppaegaaZAnswersToP0
import Derived.Test.YthincoghppaegaaZAnswersToP10
import Derived.Test.YthincoghppaegaaZAnswersToP1
import Derived.Test.YthincoghppaegaaZAnswersToW
import Derived.Test.YthincoghppaegaaZAnswersToShelf
import Derived.Test.YthincoghppaegaaZAnswersToHandSort
namespace Go.Proofs.Ythincoghppaegaa.PFnExactAnswersTo
open Go.RowKit Go.Proofs.YthincoghppaegaaW.PrintWords Go.Proofs.YthincoghppaegaaW.PrintLast Go.Proofs.YthincoghppaegaaW.PrintMore Go.Proofs.Ythincoghppaegaa.Sq
attribute [local go_sem] max2_int min2_int max_two min_two max_three min_three max_four min_four
set_option linter.unusedVariables false
set_option linter.unusedSimpArgs false
attribute [local go_sem high] eqA54
mutual
def impl_IsPlay.l0 : Nat → List (S73) → List (S73) → Int → Int → Option (Bool)
 | 0, _, _, _, _ => none
 | k + 1, x0, x9, x10, x11 => if x11 < x10 then (if 0 ≤ x11 then (if x11 < (x9.length : Int) then ((impl_InRange.f ((rd_T73 x9 x11).f0) 1 9).bind fun t242 => (if t242 = true then (if ((rd_T73 x9 x11).f0) = 1 then ((impl_IsWord.f k ((rd_T73 x9 x11).f1)).bind fun t243 => (if t243 = true then (if ((rd_T73 x9 x11).f2) = 0 then (if ((rd_T73 x9 x11).f3) = 0 then (impl_IsPlay.l0 k x0 x9 x10 (wrap64 (x11 + 1))) else (some false)) else (some false)) else (some false))) else (if ((rd_T73 x9 x11).f1).toList = ([] : List UInt8) then ((impl_at.f ((rd_T73 x9 x11).f2) x11).bind fun t244 => (if t244 = true then ((impl_needsWord.f ((rd_T73 x9 x11).f0)).bind fun t245 => (if t245 = true then (if 0 ≤ ((rd_T73 x9 x11).f2) then (if ((rd_T73 x9 x11).f2) < (x0.length : Int) then (impl_IsPlay.j1 k x0 x11 x9 x10 x11 (((rd_T73 x0 ((rd_T73 x9 x11).f2)).f0) != 1) ((rd_T73 x9 x11).f0) ((rd_T73 x9 x11).f1) ((rd_T73 x9 x11).f2) ((rd_T73 x9 x11).f3)) else (none)) else (none)) else (impl_IsPlay.j1 k x0 x11 x9 x10 x11 false ((rd_T73 x9 x11).f0) ((rd_T73 x9 x11).f1) ((rd_T73 x9 x11).f2) ((rd_T73 x9 x11).f3)))) else (impl_IsPlay.j1 k x0 x11 x9 x10 x11 true ((rd_T73 x9 x11).f0) ((rd_T73 x9 x11).f1) ((rd_T73 x9 x11).f2) ((rd_T73 x9 x11).f3)))) else (impl_IsPlay.j1 k x0 x11 x9 x10 x11 true ((rd_T73 x9 x11).f0) ((rd_T73 x9 x11).f1) ((rd_T73 x9 x11).f2) ((rd_T73 x9 x11).f3)))) else (some false))) else (none)) else (none)) else (some true)
def impl_IsPlay.j1 : Nat → List (S73) → Int → List (S73) → Int → Int → Bool → Int → ByteArray → Int → Int → Option (Bool)
 | 0, _, _, _, _, _, _, _, _, _, _ => none
 | k + 1, x0, x3, x9, x10, x11, x60, x242000, x242001, x242002, x242003 => if x60 = true then (some false) else ((impl_isPair.f x242000).bind fun t247 => (if t247 = true then ((impl_at.f x242003 x3).bind fun t248 => (if t248 = true then ((impl_isPair.f x242000).bind fun t249 => (if t249 = true then (impl_IsPlay.l0 k x0 x9 x10 (wrap64 (x11 + 1))) else (if x242003 = 0 then (impl_IsPlay.l0 k x0 x9 x10 (wrap64 (x11 + 1))) else (some false)))) else (some false))) else ((impl_isPair.f x242000).bind fun t250 => (if t250 = true then (impl_IsPlay.l0 k x0 x9 x10 (wrap64 (x11 + 1))) else (if x242003 = 0 then (impl_IsPlay.l0 k x0 x9 x10 (wrap64 (x11 + 1))) else (some false))))))
end
def impl_IsPlay.f (k : Nat) (l0 : List (S73)) : Option (Bool) := (impl_InRange.f (l0.length : Int) 1 9).bind fun t239 => (if t239 = true then (impl_IsPlay.l0 k l0 l0 (l0.length : Int) 0) else (some false))
set_option maxHeartbeats 8000000 in
set_option maxRecDepth 100000 in
theorem impl_IsPlay.calls (k : Nat) (A0 : Option Addr) (c0 : Nat) (l0 : List (S73)) (r : Bool) (w : World) (hr0 : Kd.C k73 w A0 l0.length l0) (hc0 : l0.length ≤ c0) (h : impl_IsPlay.f k l0 = some r) :
  Calls Try.prog 66 #[.slice A0 l0.length c0] w fun e w' => e = .returned (.bool r) ∧ Below w.heap.size w w' := by
 have hu73 := Try.underlying73
 have HR0 := Aside0.mk hr0
 have HC0 := Aside0.mk hc0
 clear hr0 hc0
 have HB := Aside0.mk (Below.refl w.heap.size w)
 have H : ((impl_InRange.f (l0.length : Int) 1 9).bind fun t239 => (if t239 = true then (impl_IsPlay.l0 k l0 l0 (l0.length : Int) 0) else (some false))) = some r := h
 clear h
 replace H := Option.bind_eq_some_iff.mp H
 obtain ⟨t239, A20, H⟩ := H
 replace H : (if t239 = true then (impl_IsPlay.l0 k l0 l0 (l0.length : Int) 0) else (some false)) = some r := H
 have A2 := Aside0.mk A20
 clear A20
 by_cases c3 : t239 = true
 ·subst c3
  have H1 : (impl_IsPlay.l0 k l0 l0 (l0.length : Int) 0) = some r := by rw [if_pos rfl] at H; exact H
  clear H
  have H := H1
  clear H1
  have H' := Aside0.mk H
  clear H
  go_enter Try.func66, Try.ntmps66
  go_wp2_with (first | ((with_reducible refine gate_callee (f := 57) rfl ?_); refine goesS (some 7) Try.func57 #[.int .i64 (l0.length : Int), .int .i64 1, .int .i64 9] ?_; (with_reducible refine (impl_InRange.calls (l0.length : Int) 1 9 true _ A2.out).mono ?_); rintro e w' ⟨rfl, ⟨nd, rfl⟩⟩; refine ⟨_, rfl, ?_⟩))
  go_loopg [11] k (fun kq v11 w' => ∃ (x11_1 : Int), v11 = .int .i64 x11_1 ∧ Aside0 (impl_IsPlay.l0 kq l0 l0 (l0.length : Int) x11_1 = some r) ∧ Aside0 (kq ≤ k) ∧ Aside0 (Below w.heap.size w w'))
  case atStart => exact ⟨(0), EQ, H', ⟨Nat.le_refl _⟩, ⟨BL⟩⟩
  case round =>
   clear H'
   try clear c3
   obtain ⟨x11_1, rfl, HA, HK1, HB⟩ := hrel
   cases gk with
   | zero => exact absurd HA.out (by simp [impl_IsPlay.l0])
   | succ k1 =>
    have H := HA.out
    clear HA
    simp only [impl_IsPlay.l0] at H
    by_cases c4 : x11_1 < (l0.length : Int)
    ·rw [if_pos c4] at H
     have c4b0 : decide (x11_1 < (l0.length : Int)) = true := decide_eq_true c4
     clear c4
     by_cases c5 : 0 ≤ x11_1
     ·rw [if_pos c5] at H
      have c5b0 : decide (0 ≤ x11_1) = true := decide_eq_true c5
      clear c5
      by_cases c6 : x11_1 < (l0.length : Int)
      ·rw [if_pos c6] at H
       have c6b0 : decide (x11_1 < (l0.length : Int)) = true := decide_eq_true c6
       clear c6
       replace H := Option.bind_eq_some_iff.mp H
       obtain ⟨t242, A70, H⟩ := H
       replace H : (if t242 = true then (if ((rd_T73 l0 x11_1).f0) = 1 then ((impl_IsWord.f k1 ((rd_T73 l0 x11_1).f1)).bind fun t243 => (if t243 = true then (if ((rd_T73 l0 x11_1).f2) = 0 then (if ((rd_T73 l0 x11_1).f3) = 0 then (impl_IsPlay.l0 k1 l0 l0 (l0.length : Int) (wrap64 (x11_1 + 1))) else (some false)) else (some false)) else (some false))) else (if ((rd_T73 l0 x11_1).f1).toList = ([] : List UInt8) then ((impl_at.f ((rd_T73 l0 x11_1).f2) x11_1).bind fun t244 => (if t244 = true then ((impl_needsWord.f ((rd_T73 l0 x11_1).f0)).bind fun t245 => (if t245 = true then (if 0 ≤ ((rd_T73 l0 x11_1).f2) then (if ((rd_T73 l0 x11_1).f2) < (l0.length : Int) then (impl_IsPlay.j1 k1 l0 x11_1 l0 (l0.length : Int) x11_1 (((rd_T73 l0 ((rd_T73 l0 x11_1).f2)).f0) != 1) ((rd_T73 l0 x11_1).f0) ((rd_T73 l0 x11_1).f1) ((rd_T73 l0 x11_1).f2) ((rd_T73 l0 x11_1).f3)) else (none)) else (none)) else (impl_IsPlay.j1 k1 l0 x11_1 l0 (l0.length : Int) x11_1 false ((rd_T73 l0 x11_1).f0) ((rd_T73 l0 x11_1).f1) ((rd_T73 l0 x11_1).f2) ((rd_T73 l0 x11_1).f3)))) else (impl_IsPlay.j1 k1 l0 x11_1 l0 (l0.length : Int) x11_1 true ((rd_T73 l0 x11_1).f0) ((rd_T73 l0 x11_1).f1) ((rd_T73 l0 x11_1).f2) ((rd_T73 l0 x11_1).f3)))) else (impl_IsPlay.j1 k1 l0 x11_1 l0 (l0.length : Int) x11_1 true ((rd_T73 l0 x11_1).f0) ((rd_T73 l0 x11_1).f1) ((rd_T73 l0 x11_1).f2) ((rd_T73 l0 x11_1).f3)))) else (some false)) = some r := H
       have A7 := Aside0.mk A70
       clear A70
       by_cases c8 : t242 = true
       ·subst c8
        have H1 : (if ((rd_T73 l0 x11_1).f0) = 1 then ((impl_IsWord.f k1 ((rd_T73 l0 x11_1).f1)).bind fun t243 => (if t243 = true then (if ((rd_T73 l0 x11_1).f2) = 0 then (if ((rd_T73 l0 x11_1).f3) = 0 then (impl_IsPlay.l0 k1 l0 l0 (l0.length : Int) (wrap64 (x11_1 + 1))) else (some false)) else (some false)) else (some false))) else (if ((rd_T73 l0 x11_1).f1).toList = ([] : List UInt8) then ((impl_at.f ((rd_T73 l0 x11_1).f2) x11_1).bind fun t244 => (if t244 = true then ((impl_needsWord.f ((rd_T73 l0 x11_1).f0)).bind fun t245 => (if t245 = true then (if 0 ≤ ((rd_T73 l0 x11_1).f2) then (if ((rd_T73 l0 x11_1).f2) < (l0.length : Int) then (impl_IsPlay.j1 k1 l0 x11_1 l0 (l0.length : Int) x11_1 (((rd_T73 l0 ((rd_T73 l0 x11_1).f2)).f0) != 1) ((rd_T73 l0 x11_1).f0) ((rd_T73 l0 x11_1).f1) ((rd_T73 l0 x11_1).f2) ((rd_T73 l0 x11_1).f3)) else (none)) else (none)) else (impl_IsPlay.j1 k1 l0 x11_1 l0 (l0.length : Int) x11_1 false ((rd_T73 l0 x11_1).f0) ((rd_T73 l0 x11_1).f1) ((rd_T73 l0 x11_1).f2) ((rd_T73 l0 x11_1).f3)))) else (impl_IsPlay.j1 k1 l0 x11_1 l0 (l0.length : Int) x11_1 true ((rd_T73 l0 x11_1).f0) ((rd_T73 l0 x11_1).f1) ((rd_T73 l0 x11_1).f2) ((rd_T73 l0 x11_1).f3)))) else (impl_IsPlay.j1 k1 l0 x11_1 l0 (l0.length : Int) x11_1 true ((rd_T73 l0 x11_1).f0) ((rd_T73 l0 x11_1).f1) ((rd_T73 l0 x11_1).f2) ((rd_T73 l0 x11_1).f3)))) = some r := by rw [if_pos rfl] at H; exact H
        clear H
        have H := H1
        clear H1
        by_cases c9 : ((rd_T73 l0 x11_1).f0) = 1
        ·rw [if_pos c9] at H
         have c9b0 : (((rd_T73 l0 x11_1).f0) == 1) = true := beq_iff_eq.mpr c9
         have c9b1 : (((rd_T73 l0 x11_1).f0) != 1) = false := bne_eq_false_iff_eq.mpr c9
         clear c9
         replace H := Option.bind_eq_some_iff.mp H
         obtain ⟨t243, A100, H⟩ := H
         replace H : (if t243 = true then (if ((rd_T73 l0 x11_1).f2) = 0 then (if ((rd_T73 l0 x11_1).f3) = 0 then (impl_IsPlay.l0 k1 l0 l0 (l0.length : Int) (wrap64 (x11_1 + 1))) else (some false)) else (some false)) else (some false)) = some r := H
         have A10 := Aside0.mk A100
         clear A100
         by_cases c11 : t243 = true
         ·subst c11
          have H1 : (if ((rd_T73 l0 x11_1).f2) = 0 then (if ((rd_T73 l0 x11_1).f3) = 0 then (impl_IsPlay.l0 k1 l0 l0 (l0.length : Int) (wrap64 (x11_1 + 1))) else (some false)) else (some false)) = some r := by rw [if_pos rfl] at H; exact H
          clear H
          have H := H1
          clear H1
          by_cases c12 : ((rd_T73 l0 x11_1).f2) = 0
          ·rw [if_pos c12] at H
           have c12b0 : (((rd_T73 l0 x11_1).f2) == 0) = true := beq_iff_eq.mpr c12
           have c12b1 : (((rd_T73 l0 x11_1).f2) != 0) = false := bne_eq_false_iff_eq.mpr c12
           clear c12
           by_cases c13 : ((rd_T73 l0 x11_1).f3) = 0
           ·rw [if_pos c13] at H
            have c13b0 : (((rd_T73 l0 x11_1).f3) == 0) = true := beq_iff_eq.mpr c13
            have c13b1 : (((rd_T73 l0 x11_1).f3) != 0) = false := bne_eq_false_iff_eq.mpr c13
            clear c13
            have H' := Aside0.mk H
            clear H
            have p240 : 0 ≤ (x11_1 : Int) := OD
            have q240 : x11_1 < (l0.length : Int) := OD
            obtain ⟨ad240, e240, hx240_0, hx240_1, hx240_2, hx240_3⟩ := at_T73 HR0.out x11_1 p240 q240
            cases e240
            replace hx240_0 := (HB.out.cell (World.block_lt_of_cell? w _ hx240_0)).trans hx240_0
            replace hx240_1 := (HB.out.cell (World.block_lt_of_cell? w _ hx240_1)).trans hx240_1
            replace hx240_2 := (HB.out.cell (World.block_lt_of_cell? w _ hx240_2)).trans hx240_2
            replace hx240_3 := (HB.out.cell (World.block_lt_of_cell? w _ hx240_3)).trans hx240_3
            replace p240 := eq_true p240
            replace q240 := eq_true q240
            go_wp2_with (first | ((with_reducible refine gate_dst (N := 4) rfl ?_); refine box_ev (N := 4) (cs := #[.int .i64 0, .string (⟨#[]⟩ : ByteArray), .int .i64 0, .int .i64 0]) (t := 73) ?_; intro gb241 hg w14 hbox hb; have n0_ := BS (w := w) hb; have n1_ := Aside0.mk (hbox); have n2_ := SZ (w := w) hg; have n3_ := SZ (w := w) hg; clear HB; have HB := n0_; have BK241 := n1_; have GW241 := n2_; have GE241 := n3_; clear n0_ n1_ n2_ n3_; clear hb hbox hg; obtain ⟨hcz15_0, hcz15_1, hcz15_2, hcz15_3, hfz15_0, hfz15_1, hfz15_2, hfz15_3⟩ := cz4 BK241.out) | ((with_reducible refine gate_callee (f := 57) rfl ?_); refine goesS (some 18) Try.func57 #[.int .i64 ((rd_T73 l0 x11_1).f0), .int .i64 1, .int .i64 9] ?_; (with_reducible refine (impl_InRange.calls ((rd_T73 l0 x11_1).f0) 1 9 true _ A7.out).mono ?_); rintro e w' ⟨rfl, ⟨nd, rfl⟩⟩; refine ⟨_, rfl, ?_⟩) | ((with_reducible refine gate_callee (f := 68) rfl ?_); refine goesS (some 25) Try.func68 #[.string ((rd_T73 l0 x11_1).f1)] ?_; (with_reducible refine (impl_IsWord.calls k1 ((rd_T73 l0 x11_1).f1) true _ A10.out).mono ?_); rintro e w' ⟨rfl, ⟨nd, rfl⟩⟩; refine ⟨_, rfl, ?_⟩))
            go_roundg k1
            case measure => have := HK1.out; omega
            case rel => exact ⟨(wrap64 (x11_1 + 1)), EQ, H', ⟨by have := HK1.out; omega⟩, ⟨BL⟩⟩
           ·rw [if_neg c13] at H
            have c13b0 : (((rd_T73 l0 x11_1).f3) == 0) = false := beq_eq_false_iff_ne.mpr c13
            have c13b1 : (((rd_T73 l0 x11_1).f3) != 0) = true := bne_iff_ne.mpr c13
            obtain rfl := Option.some.inj H
            have p240 : 0 ≤ (x11_1 : Int) := OD
            have q240 : x11_1 < (l0.length : Int) := OD
            obtain ⟨ad240, e240, hx240_0, hx240_1, hx240_2, hx240_3⟩ := at_T73 HR0.out x11_1 p240 q240
            cases e240
            replace hx240_0 := (HB.out.cell (World.block_lt_of_cell? w _ hx240_0)).trans hx240_0
            replace hx240_1 := (HB.out.cell (World.block_lt_of_cell? w _ hx240_1)).trans hx240_1
            replace hx240_2 := (HB.out.cell (World.block_lt_of_cell? w _ hx240_2)).trans hx240_2
            replace hx240_3 := (HB.out.cell (World.block_lt_of_cell? w _ hx240_3)).trans hx240_3
            replace p240 := eq_true p240
            replace q240 := eq_true q240
            go_wp2_with (first | ((with_reducible refine gate_dst (N := 4) rfl ?_); refine box_ev (N := 4) (cs := #[.int .i64 0, .string (⟨#[]⟩ : ByteArray), .int .i64 0, .int .i64 0]) (t := 73) ?_; intro gb241 hg w16 hbox hb; have n0_ := BS (w := w) hb; have n1_ := Aside0.mk (hbox); have n2_ := SZ (w := w) hg; have n3_ := SZ (w := w) hg; clear HB; have HB := n0_; have BK241 := n1_; have GW241 := n2_; have GE241 := n3_; clear n0_ n1_ n2_ n3_; clear hb hbox hg; obtain ⟨hcz17_0, hcz17_1, hcz17_2, hcz17_3, hfz17_0, hfz17_1, hfz17_2, hfz17_3⟩ := cz4 BK241.out) | ((with_reducible refine gate_callee (f := 57) rfl ?_); refine goesS (some 18) Try.func57 #[.int .i64 ((rd_T73 l0 x11_1).f0), .int .i64 1, .int .i64 9] ?_; (with_reducible refine (impl_InRange.calls ((rd_T73 l0 x11_1).f0) 1 9 true _ A7.out).mono ?_); rintro e w' ⟨rfl, ⟨nd, rfl⟩⟩; refine ⟨_, rfl, ?_⟩) | ((with_reducible refine gate_callee (f := 68) rfl ?_); refine goesS (some 25) Try.func68 #[.string ((rd_T73 l0 x11_1).f1)] ?_; (with_reducible refine (impl_IsWord.calls k1 ((rd_T73 l0 x11_1).f1) true _ A10.out).mono ?_); rintro e w' ⟨rfl, ⟨nd, rfl⟩⟩; refine ⟨_, rfl, ?_⟩))
            go_ret
            exact ⟨EWW, BL⟩
          ·rw [if_neg c12] at H
           have c12b0 : (((rd_T73 l0 x11_1).f2) == 0) = false := beq_eq_false_iff_ne.mpr c12
           have c12b1 : (((rd_T73 l0 x11_1).f2) != 0) = true := bne_iff_ne.mpr c12
           obtain rfl := Option.some.inj H
           have p240 : 0 ≤ (x11_1 : Int) := OD
           have q240 : x11_1 < (l0.length : Int) := OD
           obtain ⟨ad240, e240, hx240_0, hx240_1, hx240_2, hx240_3⟩ := at_T73 HR0.out x11_1 p240 q240
           cases e240
           replace hx240_0 := (HB.out.cell (World.block_lt_of_cell? w _ hx240_0)).trans hx240_0
           replace hx240_1 := (HB.out.cell (World.block_lt_of_cell? w _ hx240_1)).trans hx240_1
           replace hx240_2 := (HB.out.cell (World.block_lt_of_cell? w _ hx240_2)).trans hx240_2
           replace hx240_3 := (HB.out.cell (World.block_lt_of_cell? w _ hx240_3)).trans hx240_3
           replace p240 := eq_true p240
           replace q240 := eq_true q240
           go_wp2_with (first | ((with_reducible refine gate_dst (N := 4) rfl ?_); refine box_ev (N := 4) (cs := #[.int .i64 0, .string (⟨#[]⟩ : ByteArray), .int .i64 0, .int .i64 0]) (t := 73) ?_; intro gb241 hg w18 hbox hb; have n0_ := BS (w := w) hb; have n1_ := Aside0.mk (hbox); have n2_ := SZ (w := w) hg; have n3_ := SZ (w := w) hg; clear HB; have HB := n0_; have BK241 := n1_; have GW241 := n2_; have GE241 := n3_; clear n0_ n1_ n2_ n3_; clear hb hbox hg; obtain ⟨hcz19_0, hcz19_1, hcz19_2, hcz19_3, hfz19_0, hfz19_1, hfz19_2, hfz19_3⟩ := cz4 BK241.out) | ((with_reducible refine gate_callee (f := 57) rfl ?_); refine goesS (some 18) Try.func57 #[.int .i64 ((rd_T73 l0 x11_1).f0), .int .i64 1, .int .i64 9] ?_; (with_reducible refine (impl_InRange.calls ((rd_T73 l0 x11_1).f0) 1 9 true _ A7.out).mono ?_); rintro e w' ⟨rfl, ⟨nd, rfl⟩⟩; refine ⟨_, rfl, ?_⟩) | ((with_reducible refine gate_callee (f := 68) rfl ?_); refine goesS (some 25) Try.func68 #[.string ((rd_T73 l0 x11_1).f1)] ?_; (with_reducible refine (impl_IsWord.calls k1 ((rd_T73 l0 x11_1).f1) true _ A10.out).mono ?_); rintro e w' ⟨rfl, ⟨nd, rfl⟩⟩; refine ⟨_, rfl, ?_⟩))
           go_ret
           exact ⟨EWW, BL⟩
         ·replace c11 := Bool.eq_false_iff.mpr c11
          subst c11
          have H1 : (some false) = some r := by rw [if_neg (show ¬ (false = true) by decide)] at H; exact H
          clear H
          have H := H1
          clear H1
          obtain rfl := Option.some.inj H
          have p240 : 0 ≤ (x11_1 : Int) := OD
          have q240 : x11_1 < (l0.length : Int) := OD
          obtain ⟨ad240, e240, hx240_0, hx240_1, hx240_2, hx240_3⟩ := at_T73 HR0.out x11_1 p240 q240
          cases e240
          replace hx240_0 := (HB.out.cell (World.block_lt_of_cell? w _ hx240_0)).trans hx240_0
          replace hx240_1 := (HB.out.cell (World.block_lt_of_cell? w _ hx240_1)).trans hx240_1
          replace hx240_2 := (HB.out.cell (World.block_lt_of_cell? w _ hx240_2)).trans hx240_2
          replace hx240_3 := (HB.out.cell (World.block_lt_of_cell? w _ hx240_3)).trans hx240_3
          replace p240 := eq_true p240
          replace q240 := eq_true q240
          go_wp2_with (first | ((with_reducible refine gate_dst (N := 4) rfl ?_); refine box_ev (N := 4) (cs := #[.int .i64 0, .string (⟨#[]⟩ : ByteArray), .int .i64 0, .int .i64 0]) (t := 73) ?_; intro gb241 hg w20 hbox hb; have n0_ := BS (w := w) hb; have n1_ := Aside0.mk (hbox); have n2_ := SZ (w := w) hg; have n3_ := SZ (w := w) hg; clear HB; have HB := n0_; have BK241 := n1_; have GW241 := n2_; have GE241 := n3_; clear n0_ n1_ n2_ n3_; clear hb hbox hg; obtain ⟨hcz21_0, hcz21_1, hcz21_2, hcz21_3, hfz21_0, hfz21_1, hfz21_2, hfz21_3⟩ := cz4 BK241.out) | ((with_reducible refine gate_callee (f := 57) rfl ?_); refine goesS (some 18) Try.func57 #[.int .i64 ((rd_T73 l0 x11_1).f0), .int .i64 1, .int .i64 9] ?_; (with_reducible refine (impl_InRange.calls ((rd_T73 l0 x11_1).f0) 1 9 true _ A7.out).mono ?_); rintro e w' ⟨rfl, ⟨nd, rfl⟩⟩; refine ⟨_, rfl, ?_⟩) | ((with_reducible refine gate_callee (f := 68) rfl ?_); refine goesS (some 25) Try.func68 #[.string ((rd_T73 l0 x11_1).f1)] ?_; (with_reducible refine (impl_IsWord.calls k1 ((rd_T73 l0 x11_1).f1) false _ A10.out).mono ?_); rintro e w' ⟨rfl, ⟨nd, rfl⟩⟩; refine ⟨_, rfl, ?_⟩))
          go_ret
          exact ⟨EWW, BL⟩
        ·rw [if_neg c9] at H
         have c9b0 : (((rd_T73 l0 x11_1).f0) == 1) = false := beq_eq_false_iff_ne.mpr c9
         have c9b1 : (((rd_T73 l0 x11_1).f0) != 1) = true := bne_iff_ne.mpr c9
         have HC22 := Aside0.mk H
         clear H
         have p240 : 0 ≤ (x11_1 : Int) := OD
         have q240 : x11_1 < (l0.length : Int) := OD
         obtain ⟨ad240, e240, hx240_0, hx240_1, hx240_2, hx240_3⟩ := at_T73 HR0.out x11_1 p240 q240
         cases e240
         replace hx240_0 := (HB.out.cell (World.block_lt_of_cell? w _ hx240_0)).trans hx240_0
         replace hx240_1 := (HB.out.cell (World.block_lt_of_cell? w _ hx240_1)).trans hx240_1
         replace hx240_2 := (HB.out.cell (World.block_lt_of_cell? w _ hx240_2)).trans hx240_2
         replace hx240_3 := (HB.out.cell (World.block_lt_of_cell? w _ hx240_3)).trans hx240_3
         replace p240 := eq_true p240
         replace q240 := eq_true q240
         go_upto_region 11 with (first | ((with_reducible refine gate_dst (N := 4) rfl ?_); refine box_ev (N := 4) (cs := #[.int .i64 0, .string (⟨#[]⟩ : ByteArray), .int .i64 0, .int .i64 0]) (t := 73) ?_; intro gb241 hg w23 hbox hb; have n0_ := BS (w := w) hb; have n1_ := Aside0.mk (hbox); have n2_ := SZ (w := w) hg; have n3_ := SZ (w := w) hg; clear HB; have HB := n0_; have BK241 := n1_; have GW241 := n2_; have GE241 := n3_; clear n0_ n1_ n2_ n3_; clear hb hbox hg; obtain ⟨hcz24_0, hcz24_1, hcz24_2, hcz24_3, hfz24_0, hfz24_1, hfz24_2, hfz24_3⟩ := cz4 BK241.out) | ((with_reducible refine gate_callee (f := 57) rfl ?_); refine goesS (some 18) Try.func57 #[.int .i64 ((rd_T73 l0 x11_1).f0), .int .i64 1, .int .i64 9] ?_; (with_reducible refine (impl_InRange.calls ((rd_T73 l0 x11_1).f0) 1 9 true _ A7.out).mono ?_); rintro e w' ⟨rfl, ⟨nd, rfl⟩⟩; refine ⟨_, rfl, ?_⟩))
         (try simp only [Act.put, List.setIfInBounds_toArray, List.set_cons_zero, List.set_cons_succ])
         go_cut [60] (fun v60 wc => ∃ (kq : Nat) (x60_21 : Bool), v60 = .bool x60_21 ∧ Aside0 (impl_IsPlay.j1 kq l0 x11_1 l0 (l0.length : Int) x11_1 x60_21 ((rd_T73 l0 x11_1).f0) ((rd_T73 l0 x11_1).f1) ((rd_T73 l0 x11_1).f2) ((rd_T73 l0 x11_1).f3) = some r) ∧ Aside0 (kq ≤ k1) ∧ Aside0 (wc.heap[gb241]? = some (.cells #[.int .i64 ((rd_T73 l0 x11_1).f0), .string ((rd_T73 l0 x11_1).f1), .int .i64 ((rd_T73 l0 x11_1).f2), .int .i64 ((rd_T73 l0 x11_1).f3)] 73 (0, 0))) ∧ Aside0 (Below w.heap.size w wc))
         case first =>
          have H := HC22.out
          clear HC22
          by_cases c25 : ((rd_T73 l0 x11_1).f1).toList = ([] : List UInt8)
          ·rw [if_pos c25] at H
           have c25b0 : (((rd_T73 l0 x11_1).f1).toList == ([] : List UInt8)) = true := beq_iff_eq.mpr c25
           have c25b1 : (((rd_T73 l0 x11_1).f1).toList != ([] : List UInt8)) = false := bne_eq_false_iff_eq.mpr c25
           clear c25
           (first | rw [c25b0] | (simp only [i64_w, i32_w]; rw [c25b0]) | skip)
           replace H := Option.bind_eq_some_iff.mp H
           obtain ⟨t244, A260, H⟩ := H
           replace H : (if t244 = true then ((impl_needsWord.f ((rd_T73 l0 x11_1).f0)).bind fun t245 => (if t245 = true then (if 0 ≤ ((rd_T73 l0 x11_1).f2) then (if ((rd_T73 l0 x11_1).f2) < (l0.length : Int) then (impl_IsPlay.j1 k1 l0 x11_1 l0 (l0.length : Int) x11_1 (((rd_T73 l0 ((rd_T73 l0 x11_1).f2)).f0) != 1) ((rd_T73 l0 x11_1).f0) ((rd_T73 l0 x11_1).f1) ((rd_T73 l0 x11_1).f2) ((rd_T73 l0 x11_1).f3)) else (none)) else (none)) else (impl_IsPlay.j1 k1 l0 x11_1 l0 (l0.length : Int) x11_1 false ((rd_T73 l0 x11_1).f0) ((rd_T73 l0 x11_1).f1) ((rd_T73 l0 x11_1).f2) ((rd_T73 l0 x11_1).f3)))) else (impl_IsPlay.j1 k1 l0 x11_1 l0 (l0.length : Int) x11_1 true ((rd_T73 l0 x11_1).f0) ((rd_T73 l0 x11_1).f1) ((rd_T73 l0 x11_1).f2) ((rd_T73 l0 x11_1).f3))) = some r := H
           have A26 := Aside0.mk A260
           clear A260
           by_cases c27 : t244 = true
           ·subst c27
            have H1 : ((impl_needsWord.f ((rd_T73 l0 x11_1).f0)).bind fun t245 => (if t245 = true then (if 0 ≤ ((rd_T73 l0 x11_1).f2) then (if ((rd_T73 l0 x11_1).f2) < (l0.length : Int) then (impl_IsPlay.j1 k1 l0 x11_1 l0 (l0.length : Int) x11_1 (((rd_T73 l0 ((rd_T73 l0 x11_1).f2)).f0) != 1) ((rd_T73 l0 x11_1).f0) ((rd_T73 l0 x11_1).f1) ((rd_T73 l0 x11_1).f2) ((rd_T73 l0 x11_1).f3)) else (none)) else (none)) else (impl_IsPlay.j1 k1 l0 x11_1 l0 (l0.length : Int) x11_1 false ((rd_T73 l0 x11_1).f0) ((rd_T73 l0 x11_1).f1) ((rd_T73 l0 x11_1).f2) ((rd_T73 l0 x11_1).f3)))) = some r := by rw [if_pos rfl] at H; exact H
            clear H
            have H := H1
            clear H1
            replace H := Option.bind_eq_some_iff.mp H
            obtain ⟨t245, A280, H⟩ := H
            replace H : (if t245 = true then (if 0 ≤ ((rd_T73 l0 x11_1).f2) then (if ((rd_T73 l0 x11_1).f2) < (l0.length : Int) then (impl_IsPlay.j1 k1 l0 x11_1 l0 (l0.length : Int) x11_1 (((rd_T73 l0 ((rd_T73 l0 x11_1).f2)).f0) != 1) ((rd_T73 l0 x11_1).f0) ((rd_T73 l0 x11_1).f1) ((rd_T73 l0 x11_1).f2) ((rd_T73 l0 x11_1).f3)) else (none)) else (none)) else (impl_IsPlay.j1 k1 l0 x11_1 l0 (l0.length : Int) x11_1 false ((rd_T73 l0 x11_1).f0) ((rd_T73 l0 x11_1).f1) ((rd_T73 l0 x11_1).f2) ((rd_T73 l0 x11_1).f3))) = some r := H
            have A28 := Aside0.mk A280
            clear A280
            by_cases c29 : t245 = true
            ·subst c29
             have H1 : (if 0 ≤ ((rd_T73 l0 x11_1).f2) then (if ((rd_T73 l0 x11_1).f2) < (l0.length : Int) then (impl_IsPlay.j1 k1 l0 x11_1 l0 (l0.length : Int) x11_1 (((rd_T73 l0 ((rd_T73 l0 x11_1).f2)).f0) != 1) ((rd_T73 l0 x11_1).f0) ((rd_T73 l0 x11_1).f1) ((rd_T73 l0 x11_1).f2) ((rd_T73 l0 x11_1).f3)) else (none)) else (none)) = some r := by rw [if_pos rfl] at H; exact H
             clear H
             have H := H1
             clear H1
             by_cases c30 : 0 ≤ ((rd_T73 l0 x11_1).f2)
             ·rw [if_pos c30] at H
              have c30b0 : decide (0 ≤ ((rd_T73 l0 x11_1).f2)) = true := decide_eq_true c30
              clear c30
              by_cases c31 : ((rd_T73 l0 x11_1).f2) < (l0.length : Int)
              ·rw [if_pos c31] at H
               have c31b0 : decide (((rd_T73 l0 x11_1).f2) < (l0.length : Int)) = true := decide_eq_true c31
               clear c31
               have H' := Aside0.mk H
               clear H
               obtain ⟨hcz32_0, hcz32_1, hcz32_2, hcz32_3, hfz32_0, hfz32_1, hfz32_2, hfz32_3⟩ := cz4 BK241.out
               go_wp2_with (first | (go_at_call 82; (with_reducible refine (impl_at.calls ((rd_T73 l0 x11_1).f2) x11_1 true _ A26.out).mono ?_); rintro e w' ⟨rfl, ⟨nd, rfl⟩⟩) | (go_at_call 83; (with_reducible refine (impl_needsWord.calls ((rd_T73 l0 x11_1).f0) true _ A28.out).mono ?_); rintro e w' ⟨rfl, ⟨nd, rfl⟩⟩; have p246 : 0 ≤ (((rd_T73 l0 x11_1).f2) : Int) := OD; have q246 : ((rd_T73 l0 x11_1).f2) < (l0.length : Int) := OD; obtain ⟨ad246, e246, hx246_0, hx246_1, hx246_2, hx246_3⟩ := at_T73 HR0.out ((rd_T73 l0 x11_1).f2) p246 q246; obtain rfl : ad240 = ad246 := (by injection e246); have hn246_0 : ad240.block ≠ gb241 := Nat.ne_of_lt (Nat.lt_of_lt_of_le (by have := World.block_lt_of_cell? _ _ hx246_0; first | rwa [add_block] at this | exact this) GW241.out); have hn246_1 : ad240.block ≠ gb241 := Nat.ne_of_lt (Nat.lt_of_lt_of_le (by have := World.block_lt_of_cell? _ _ hx246_0; first | rwa [add_block] at this | exact this) GW241.out); have hn246_2 : ad240.block ≠ gb241 := Nat.ne_of_lt (Nat.lt_of_lt_of_le (by have := World.block_lt_of_cell? _ _ hx246_0; first | rwa [add_block] at this | exact this) GW241.out); have hn246_3 : ad240.block ≠ gb241 := Nat.ne_of_lt (Nat.lt_of_lt_of_le (by have := World.block_lt_of_cell? _ _ hx246_0; first | rwa [add_block] at this | exact this) GW241.out); replace hx246_0 := (HB.out.cell (World.block_lt_of_cell? w _ hx246_0)).trans hx246_0; replace hx246_1 := (HB.out.cell (World.block_lt_of_cell? w _ hx246_1)).trans hx246_1; replace hx246_2 := (HB.out.cell (World.block_lt_of_cell? w _ hx246_2)).trans hx246_2; replace hx246_3 := (HB.out.cell (World.block_lt_of_cell? w _ hx246_3)).trans hx246_3; replace hx246_0 := (cell_far (p := ⟨gb241, 0, none⟩) (by first | (rw [add_block]; exact hn246_0) | (show (Addr.add _ _).block ≠ _; rw [add_block]; exact hn246_0) | exact hn246_0) (.int .i64 ((rd_T73 l0 x11_1).f0))).trans hx246_0; replace hx246_1 := (cell_far (p := ⟨gb241, 0, none⟩) (by first | (rw [add_block]; exact hn246_0) | (show (Addr.add _ _).block ≠ _; rw [add_block]; exact hn246_0) | exact hn246_0) (.int .i64 ((rd_T73 l0 x11_1).f0))).trans hx246_1; replace hx246_2 := (cell_far (p := ⟨gb241, 0, none⟩) (by first | (rw [add_block]; exact hn246_0) | (show (Addr.add _ _).block ≠ _; rw [add_block]; exact hn246_0) | exact hn246_0) (.int .i64 ((rd_T73 l0 x11_1).f0))).trans hx246_2; replace hx246_3 := (cell_far (p := ⟨gb241, 0, none⟩) (by first | (rw [add_block]; exact hn246_0) | (show (Addr.add _ _).block ≠ _; rw [add_block]; exact hn246_0) | exact hn246_0) (.int .i64 ((rd_T73 l0 x11_1).f0))).trans hx246_3; replace hx246_0 := (cell_far (p := ⟨gb241, 1, none⟩) (by first | (rw [add_block]; exact hn246_1) | (show (Addr.add _ _).block ≠ _; rw [add_block]; exact hn246_1) | exact hn246_1) (.string ((rd_T73 l0 x11_1).f1))).trans hx246_0; replace hx246_1 := (cell_far (p := ⟨gb241, 1, none⟩) (by first | (rw [add_block]; exact hn246_1) | (show (Addr.add _ _).block ≠ _; rw [add_block]; exact hn246_1) | exact hn246_1) (.string ((rd_T73 l0 x11_1).f1))).trans hx246_1; replace hx246_2 := (cell_far (p := ⟨gb241, 1, none⟩) (by first | (rw [add_block]; exact hn246_1) | (show (Addr.add _ _).block ≠ _; rw [add_block]; exact hn246_1) | exact hn246_1) (.string ((rd_T73 l0 x11_1).f1))).trans hx246_2; replace hx246_3 := (cell_far (p := ⟨gb241, 1, none⟩) (by first | (rw [add_block]; exact hn246_1) | (show (Addr.add _ _).block ≠ _; rw [add_block]; exact hn246_1) | exact hn246_1) (.string ((rd_T73 l0 x11_1).f1))).trans hx246_3; replace hx246_0 := (cell_far (p := ⟨gb241, 2, none⟩) (by first | (rw [add_block]; exact hn246_2) | (show (Addr.add _ _).block ≠ _; rw [add_block]; exact hn246_2) | exact hn246_2) (.int .i64 ((rd_T73 l0 x11_1).f2))).trans hx246_0; replace hx246_1 := (cell_far (p := ⟨gb241, 2, none⟩) (by first | (rw [add_block]; exact hn246_2) | (show (Addr.add _ _).block ≠ _; rw [add_block]; exact hn246_2) | exact hn246_2) (.int .i64 ((rd_T73 l0 x11_1).f2))).trans hx246_1; replace hx246_2 := (cell_far (p := ⟨gb241, 2, none⟩) (by first | (rw [add_block]; exact hn246_2) | (show (Addr.add _ _).block ≠ _; rw [add_block]; exact hn246_2) | exact hn246_2) (.int .i64 ((rd_T73 l0 x11_1).f2))).trans hx246_2; replace hx246_3 := (cell_far (p := ⟨gb241, 2, none⟩) (by first | (rw [add_block]; exact hn246_2) | (show (Addr.add _ _).block ≠ _; rw [add_block]; exact hn246_2) | exact hn246_2) (.int .i64 ((rd_T73 l0 x11_1).f2))).trans hx246_3; replace hx246_0 := (cell_far (p := ⟨gb241, 3, none⟩) (by first | (rw [add_block]; exact hn246_3) | (show (Addr.add _ _).block ≠ _; rw [add_block]; exact hn246_3) | exact hn246_3) (.int .i64 ((rd_T73 l0 x11_1).f3))).trans hx246_0; replace hx246_1 := (cell_far (p := ⟨gb241, 3, none⟩) (by first | (rw [add_block]; exact hn246_3) | (show (Addr.add _ _).block ≠ _; rw [add_block]; exact hn246_3) | exact hn246_3) (.int .i64 ((rd_T73 l0 x11_1).f3))).trans hx246_1; replace hx246_2 := (cell_far (p := ⟨gb241, 3, none⟩) (by first | (rw [add_block]; exact hn246_3) | (show (Addr.add _ _).block ≠ _; rw [add_block]; exact hn246_3) | exact hn246_3) (.int .i64 ((rd_T73 l0 x11_1).f3))).trans hx246_2; replace hx246_3 := (cell_far (p := ⟨gb241, 3, none⟩) (by first | (rw [add_block]; exact hn246_3) | (show (Addr.add _ _).block ≠ _; rw [add_block]; exact hn246_3) | exact hn246_3) (.int .i64 ((rd_T73 l0 x11_1).f3))).trans hx246_3; clear hn246_0 hn246_1 hn246_2 hn246_3; replace p246 := eq_true p246; replace q246 := eq_true q246))
               go_meet
               case rel => exact ⟨_, ((((rd_T73 l0 ((rd_T73 l0 x11_1).f2)).f0) != 1)), EQ, H', ⟨by have := HK1.out; first | omega | exact Nat.le_refl _⟩, ⟨by (with_reducible repeat (first | refine blk_drewN ?_ _ | refine blk_drew ?_ | refine blk_alloc ?_ _)); refine blk_put (cs := #[.int .i64 ((rd_T73 l0 x11_1).f0), .string ((rd_T73 l0 x11_1).f1), .int .i64 ((rd_T73 l0 x11_1).f2), .int .i64 0]) ?_ 3 _ rfl; (with_reducible repeat (first | refine blk_drewN ?_ _ | refine blk_drew ?_ | refine blk_alloc ?_ _)); refine blk_put (cs := #[.int .i64 ((rd_T73 l0 x11_1).f0), .string ((rd_T73 l0 x11_1).f1), .int .i64 0, .int .i64 0]) ?_ 2 _ rfl; (with_reducible repeat (first | refine blk_drewN ?_ _ | refine blk_drew ?_ | refine blk_alloc ?_ _)); refine blk_put (cs := #[.int .i64 ((rd_T73 l0 x11_1).f0), .string (⟨#[]⟩ : ByteArray), .int .i64 0, .int .i64 0]) ?_ 1 _ rfl; (with_reducible repeat (first | refine blk_drewN ?_ _ | refine blk_drew ?_ | refine blk_alloc ?_ _)); refine blk_put (cs := #[.int .i64 0, .string (⟨#[]⟩ : ByteArray), .int .i64 0, .int .i64 0]) ?_ 0 _ rfl; (with_reducible repeat (first | refine blk_drewN ?_ _ | refine blk_drew ?_ | refine blk_alloc ?_ _)); exact BK241.out⟩, ⟨BL⟩⟩
              ·rw [if_neg c31] at H
               exact absurd H (by simp)
             ·rw [if_neg c30] at H
              exact absurd H (by simp)
            ·replace c29 := Bool.eq_false_iff.mpr c29
             subst c29
             have H1 : (impl_IsPlay.j1 k1 l0 x11_1 l0 (l0.length : Int) x11_1 false ((rd_T73 l0 x11_1).f0) ((rd_T73 l0 x11_1).f1) ((rd_T73 l0 x11_1).f2) ((rd_T73 l0 x11_1).f3)) = some r := by rw [if_neg (show ¬ (false = true) by decide)] at H; exact H
             clear H
             have H := H1
             clear H1
             have H' := Aside0.mk H
             clear H
             obtain ⟨hcz33_0, hcz33_1, hcz33_2, hcz33_3, hfz33_0, hfz33_1, hfz33_2, hfz33_3⟩ := cz4 BK241.out
             go_wp2_with (first | (go_at_call 82; (with_reducible refine (impl_at.calls ((rd_T73 l0 x11_1).f2) x11_1 true _ A26.out).mono ?_); rintro e w' ⟨rfl, ⟨nd, rfl⟩⟩) | (go_at_call 83; (with_reducible refine (impl_needsWord.calls ((rd_T73 l0 x11_1).f0) false _ A28.out).mono ?_); rintro e w' ⟨rfl, ⟨nd, rfl⟩⟩))
             go_meet
             case rel => exact ⟨_, (false), EQ, H', ⟨by have := HK1.out; first | omega | exact Nat.le_refl _⟩, ⟨by (with_reducible repeat (first | refine blk_drewN ?_ _ | refine blk_drew ?_ | refine blk_alloc ?_ _)); refine blk_put (cs := #[.int .i64 ((rd_T73 l0 x11_1).f0), .string ((rd_T73 l0 x11_1).f1), .int .i64 ((rd_T73 l0 x11_1).f2), .int .i64 0]) ?_ 3 _ rfl; (with_reducible repeat (first | refine blk_drewN ?_ _ | refine blk_drew ?_ | refine blk_alloc ?_ _)); refine blk_put (cs := #[.int .i64 ((rd_T73 l0 x11_1).f0), .string ((rd_T73 l0 x11_1).f1), .int .i64 0, .int .i64 0]) ?_ 2 _ rfl; (with_reducible repeat (first | refine blk_drewN ?_ _ | refine blk_drew ?_ | refine blk_alloc ?_ _)); refine blk_put (cs := #[.int .i64 ((rd_T73 l0 x11_1).f0), .string (⟨#[]⟩ : ByteArray), .int .i64 0, .int .i64 0]) ?_ 1 _ rfl; (with_reducible repeat (first | refine blk_drewN ?_ _ | refine blk_drew ?_ | refine blk_alloc ?_ _)); refine blk_put (cs := #[.int .i64 0, .string (⟨#[]⟩ : ByteArray), .int .i64 0, .int .i64 0]) ?_ 0 _ rfl; (with_reducible repeat (first | refine blk_drewN ?_ _ | refine blk_drew ?_ | refine blk_alloc ?_ _)); exact BK241.out⟩, ⟨BL⟩⟩
           ·replace c27 := Bool.eq_false_iff.mpr c27
            subst c27
            have H1 : (impl_IsPlay.j1 k1 l0 x11_1 l0 (l0.length : Int) x11_1 true ((rd_T73 l0 x11_1).f0) ((rd_T73 l0 x11_1).f1) ((rd_T73 l0 x11_1).f2) ((rd_T73 l0 x11_1).f3)) = some r := by rw [if_neg (show ¬ (false = true) by decide)] at H; exact H
            clear H
            have H := H1
            clear H1
            have H' := Aside0.mk H
            clear H
            obtain ⟨hcz34_0, hcz34_1, hcz34_2, hcz34_3, hfz34_0, hfz34_1, hfz34_2, hfz34_3⟩ := cz4 BK241.out
            go_wp2_with (first | (go_at_call 82; (with_reducible refine (impl_at.calls ((rd_T73 l0 x11_1).f2) x11_1 false _ A26.out).mono ?_); rintro e w' ⟨rfl, ⟨nd, rfl⟩⟩))
            go_meet
            case rel => exact ⟨_, (true), EQ, H', ⟨by have := HK1.out; first | omega | exact Nat.le_refl _⟩, ⟨by (with_reducible repeat (first | refine blk_drewN ?_ _ | refine blk_drew ?_ | refine blk_alloc ?_ _)); refine blk_put (cs := #[.int .i64 ((rd_T73 l0 x11_1).f0), .string ((rd_T73 l0 x11_1).f1), .int .i64 ((rd_T73 l0 x11_1).f2), .int .i64 0]) ?_ 3 _ rfl; (with_reducible repeat (first | refine blk_drewN ?_ _ | refine blk_drew ?_ | refine blk_alloc ?_ _)); refine blk_put (cs := #[.int .i64 ((rd_T73 l0 x11_1).f0), .string ((rd_T73 l0 x11_1).f1), .int .i64 0, .int .i64 0]) ?_ 2 _ rfl; (with_reducible repeat (first | refine blk_drewN ?_ _ | refine blk_drew ?_ | refine blk_alloc ?_ _)); refine blk_put (cs := #[.int .i64 ((rd_T73 l0 x11_1).f0), .string (⟨#[]⟩ : ByteArray), .int .i64 0, .int .i64 0]) ?_ 1 _ rfl; (with_reducible repeat (first | refine blk_drewN ?_ _ | refine blk_drew ?_ | refine blk_alloc ?_ _)); refine blk_put (cs := #[.int .i64 0, .string (⟨#[]⟩ : ByteArray), .int .i64 0, .int .i64 0]) ?_ 0 _ rfl; (with_reducible repeat (first | refine blk_drewN ?_ _ | refine blk_drew ?_ | refine blk_alloc ?_ _)); exact BK241.out⟩, ⟨BL⟩⟩
          ·rw [if_neg c25] at H
           have c25b0 : (((rd_T73 l0 x11_1).f1).toList == ([] : List UInt8)) = false := beq_eq_false_iff_ne.mpr c25
           have c25b1 : (((rd_T73 l0 x11_1).f1).toList != ([] : List UInt8)) = true := bne_iff_ne.mpr c25
           (first | rw [c25b0] | (simp only [i64_w, i32_w]; rw [c25b0]) | skip)
           have H' := Aside0.mk H
           clear H
           obtain ⟨hcz35_0, hcz35_1, hcz35_2, hcz35_3, hfz35_0, hfz35_1, hfz35_2, hfz35_3⟩ := cz4 BK241.out
           go_wp2
           go_meet
           case rel => exact ⟨_, (true), EQ, H', ⟨by have := HK1.out; first | omega | exact Nat.le_refl _⟩, ⟨by (with_reducible repeat (first | refine blk_drewN ?_ _ | refine blk_drew ?_ | refine blk_alloc ?_ _)); refine blk_put (cs := #[.int .i64 ((rd_T73 l0 x11_1).f0), .string ((rd_T73 l0 x11_1).f1), .int .i64 ((rd_T73 l0 x11_1).f2), .int .i64 0]) ?_ 3 _ rfl; (with_reducible repeat (first | refine blk_drewN ?_ _ | refine blk_drew ?_ | refine blk_alloc ?_ _)); refine blk_put (cs := #[.int .i64 ((rd_T73 l0 x11_1).f0), .string ((rd_T73 l0 x11_1).f1), .int .i64 0, .int .i64 0]) ?_ 2 _ rfl; (with_reducible repeat (first | refine blk_drewN ?_ _ | refine blk_drew ?_ | refine blk_alloc ?_ _)); refine blk_put (cs := #[.int .i64 ((rd_T73 l0 x11_1).f0), .string (⟨#[]⟩ : ByteArray), .int .i64 0, .int .i64 0]) ?_ 1 _ rfl; (with_reducible repeat (first | refine blk_drewN ?_ _ | refine blk_drew ?_ | refine blk_alloc ?_ _)); refine blk_put (cs := #[.int .i64 0, .string (⟨#[]⟩ : ByteArray), .int .i64 0, .int .i64 0]) ?_ 0 _ rfl; (with_reducible repeat (first | refine blk_drewN ?_ _ | refine blk_drew ?_ | refine blk_alloc ?_ _)); exact BK241.out⟩, ⟨BL⟩⟩
         case rest =>
          clear HC22
          try clear c3
          try clear c4
          try clear c4b0
          try clear c5
          try clear c5b0
          try clear c6
          try clear c6b0
          try clear c8
          try clear c9
          try clear c9b0
          try clear c9b1
          try clear hcz24_0
          try clear hcz24_1
          try clear hcz24_2
          try clear hcz24_3
          try clear hfz24_0
          try clear hfz24_1
          try clear hfz24_2
          try clear hfz24_3
          try clear hx240_0
          try clear hx240_1
          try clear hx240_2
          try clear hx240_3
          try clear p240
          try clear q240
          obtain ⟨kq, x60_21, rfl, HA, HJ21, BK241, HB⟩ := hcut
          cases kq with
          | zero => exact absurd HA.out (by simp [impl_IsPlay.j1])
          | succ kj21 =>
           have H := HA.out
           clear HA
           simp only [impl_IsPlay.j1] at H
           by_cases c36 : x60_21 = true
           ·subst c36
            have H1 : (some false) = some r := by rw [if_pos rfl] at H; exact H
            clear H
            have H := H1
            clear H1
            obtain rfl := Option.some.inj H
            go_wp2
            go_ret
            exact ⟨EWW, BL⟩
           ·replace c36 := Bool.eq_false_iff.mpr c36
            subst c36
            have H1 : ((impl_isPair.f ((rd_T73 l0 x11_1).f0)).bind fun t247 => (if t247 = true then ((impl_at.f ((rd_T73 l0 x11_1).f3) x11_1).bind fun t248 => (if t248 = true then ((impl_isPair.f ((rd_T73 l0 x11_1).f0)).bind fun t249 => (if t249 = true then (impl_IsPlay.l0 kj21 l0 l0 (l0.length : Int) (wrap64 (x11_1 + 1))) else (if ((rd_T73 l0 x11_1).f3) = 0 then (impl_IsPlay.l0 kj21 l0 l0 (l0.length : Int) (wrap64 (x11_1 + 1))) else (some false)))) else (some false))) else ((impl_isPair.f ((rd_T73 l0 x11_1).f0)).bind fun t250 => (if t250 = true then (impl_IsPlay.l0 kj21 l0 l0 (l0.length : Int) (wrap64 (x11_1 + 1))) else (if ((rd_T73 l0 x11_1).f3) = 0 then (impl_IsPlay.l0 kj21 l0 l0 (l0.length : Int) (wrap64 (x11_1 + 1))) else (some false)))))) = some r := by rw [if_neg (show ¬ (false = true) by decide)] at H; exact H
            clear H
            have H := H1
            clear H1
            replace H := Option.bind_eq_some_iff.mp H
            obtain ⟨t247, A370, H⟩ := H
            replace H : (if t247 = true then ((impl_at.f ((rd_T73 l0 x11_1).f3) x11_1).bind fun t248 => (if t248 = true then ((impl_isPair.f ((rd_T73 l0 x11_1).f0)).bind fun t249 => (if t249 = true then (impl_IsPlay.l0 kj21 l0 l0 (l0.length : Int) (wrap64 (x11_1 + 1))) else (if ((rd_T73 l0 x11_1).f3) = 0 then (impl_IsPlay.l0 kj21 l0 l0 (l0.length : Int) (wrap64 (x11_1 + 1))) else (some false)))) else (some false))) else ((impl_isPair.f ((rd_T73 l0 x11_1).f0)).bind fun t250 => (if t250 = true then (impl_IsPlay.l0 kj21 l0 l0 (l0.length : Int) (wrap64 (x11_1 + 1))) else (if ((rd_T73 l0 x11_1).f3) = 0 then (impl_IsPlay.l0 kj21 l0 l0 (l0.length : Int) (wrap64 (x11_1 + 1))) else (some false))))) = some r := H
            have A37 := Aside0.mk A370
            clear A370
            by_cases c38 : t247 = true
            ·subst c38
             have H1 : ((impl_at.f ((rd_T73 l0 x11_1).f3) x11_1).bind fun t248 => (if t248 = true then ((impl_isPair.f ((rd_T73 l0 x11_1).f0)).bind fun t249 => (if t249 = true then (impl_IsPlay.l0 kj21 l0 l0 (l0.length : Int) (wrap64 (x11_1 + 1))) else (if ((rd_T73 l0 x11_1).f3) = 0 then (impl_IsPlay.l0 kj21 l0 l0 (l0.length : Int) (wrap64 (x11_1 + 1))) else (some false)))) else (some false))) = some r := by rw [if_pos rfl] at H; exact H
             clear H
             have H := H1
             clear H1
             replace H := Option.bind_eq_some_iff.mp H
             obtain ⟨t248, A390, H⟩ := H
             replace H : (if t248 = true then ((impl_isPair.f ((rd_T73 l0 x11_1).f0)).bind fun t249 => (if t249 = true then (impl_IsPlay.l0 kj21 l0 l0 (l0.length : Int) (wrap64 (x11_1 + 1))) else (if ((rd_T73 l0 x11_1).f3) = 0 then (impl_IsPlay.l0 kj21 l0 l0 (l0.length : Int) (wrap64 (x11_1 + 1))) else (some false)))) else (some false)) = some r := H
             have A39 := Aside0.mk A390
             clear A390
             by_cases c40 : t248 = true
             ·subst c40
              have H1 : ((impl_isPair.f ((rd_T73 l0 x11_1).f0)).bind fun t249 => (if t249 = true then (impl_IsPlay.l0 kj21 l0 l0 (l0.length : Int) (wrap64 (x11_1 + 1))) else (if ((rd_T73 l0 x11_1).f3) = 0 then (impl_IsPlay.l0 kj21 l0 l0 (l0.length : Int) (wrap64 (x11_1 + 1))) else (some false)))) = some r := by rw [if_pos rfl] at H; exact H
              clear H
              have H := H1
              clear H1
              replace H := Option.bind_eq_some_iff.mp H
              obtain ⟨t249, A410, H⟩ := H
              replace H : (if t249 = true then (impl_IsPlay.l0 kj21 l0 l0 (l0.length : Int) (wrap64 (x11_1 + 1))) else (if ((rd_T73 l0 x11_1).f3) = 0 then (impl_IsPlay.l0 kj21 l0 l0 (l0.length : Int) (wrap64 (x11_1 + 1))) else (some false))) = some r := H
              have A41 := Aside0.mk A410
              clear A410
              by_cases c42 : t249 = true
              ·subst c42
               have H1 : (impl_IsPlay.l0 kj21 l0 l0 (l0.length : Int) (wrap64 (x11_1 + 1))) = some r := by rw [if_pos rfl] at H; exact H
               clear H
               have H := H1
               clear H1
               have H' := Aside0.mk H
               clear H
               obtain ⟨hcz43_0, hcz43_1, hcz43_2, hcz43_3, hfz43_0, hfz43_1, hfz43_2, hfz43_3⟩ := cz4 BK241.out
               go_wp2_with (first | ((with_reducible refine gate_callee (f := 84) rfl ?_); refine goesS (some 63) Try.func84 #[.int .i64 ((rd_T73 l0 x11_1).f0)] ?_; (with_reducible refine (impl_isPair.calls ((rd_T73 l0 x11_1).f0) true _ A37.out).mono ?_); rintro e w' ⟨rfl, ⟨nd, rfl⟩⟩; refine ⟨_, rfl, ?_⟩) | (go_at_call 82; (with_reducible refine (impl_at.calls ((rd_T73 l0 x11_1).f3) x11_1 true _ A39.out).mono ?_); rintro e w' ⟨rfl, ⟨nd, rfl⟩⟩) | (go_at_call 84; (with_reducible refine (impl_isPair.calls ((rd_T73 l0 x11_1).f0) true _ A41.out).mono ?_); rintro e w' ⟨rfl, ⟨nd, rfl⟩⟩))
               go_roundg kj21
               case measure => have := HK1.out; have := HJ21.out; omega
               case rel => exact ⟨(wrap64 (x11_1 + 1)), EQ, H', ⟨by have := HK1.out; have := HJ21.out; omega⟩, ⟨BL⟩⟩
              ·replace c42 := Bool.eq_false_iff.mpr c42
               subst c42
               have H1 : (if ((rd_T73 l0 x11_1).f3) = 0 then (impl_IsPlay.l0 kj21 l0 l0 (l0.length : Int) (wrap64 (x11_1 + 1))) else (some false)) = some r := by rw [if_neg (show ¬ (false = true) by decide)] at H; exact H
               clear H
               have H := H1
               clear H1
               by_cases c44 : ((rd_T73 l0 x11_1).f3) = 0
               ·rw [if_pos c44] at H
                have c44b0 : (((rd_T73 l0 x11_1).f3) == 0) = true := beq_iff_eq.mpr c44
                have c44b1 : (((rd_T73 l0 x11_1).f3) != 0) = false := bne_eq_false_iff_eq.mpr c44
                clear c44
                have H' := Aside0.mk H
                clear H
                obtain ⟨hcz45_0, hcz45_1, hcz45_2, hcz45_3, hfz45_0, hfz45_1, hfz45_2, hfz45_3⟩ := cz4 BK241.out
                go_wp2_with (first | ((with_reducible refine gate_callee (f := 84) rfl ?_); refine goesS (some 63) Try.func84 #[.int .i64 ((rd_T73 l0 x11_1).f0)] ?_; (with_reducible refine (impl_isPair.calls ((rd_T73 l0 x11_1).f0) true _ A37.out).mono ?_); rintro e w' ⟨rfl, ⟨nd, rfl⟩⟩; refine ⟨_, rfl, ?_⟩) | (go_at_call 82; (with_reducible refine (impl_at.calls ((rd_T73 l0 x11_1).f3) x11_1 true _ A39.out).mono ?_); rintro e w' ⟨rfl, ⟨nd, rfl⟩⟩) | (go_at_call 84; (with_reducible refine (impl_isPair.calls ((rd_T73 l0 x11_1).f0) false _ A41.out).mono ?_); rintro e w' ⟨rfl, ⟨nd, rfl⟩⟩))
                go_roundg kj21
                case measure => have := HK1.out; have := HJ21.out; omega
                case rel => exact ⟨(wrap64 (x11_1 + 1)), EQ, H', ⟨by have := HK1.out; have := HJ21.out; omega⟩, ⟨BL⟩⟩
               ·rw [if_neg c44] at H
                have c44b0 : (((rd_T73 l0 x11_1).f3) == 0) = false := beq_eq_false_iff_ne.mpr c44
                have c44b1 : (((rd_T73 l0 x11_1).f3) != 0) = true := bne_iff_ne.mpr c44
                obtain rfl := Option.some.inj H
                obtain ⟨hcz46_0, hcz46_1, hcz46_2, hcz46_3, hfz46_0, hfz46_1, hfz46_2, hfz46_3⟩ := cz4 BK241.out
                go_wp2_with (first | ((with_reducible refine gate_callee (f := 84) rfl ?_); refine goesS (some 63) Try.func84 #[.int .i64 ((rd_T73 l0 x11_1).f0)] ?_; (with_reducible refine (impl_isPair.calls ((rd_T73 l0 x11_1).f0) true _ A37.out).mono ?_); rintro e w' ⟨rfl, ⟨nd, rfl⟩⟩; refine ⟨_, rfl, ?_⟩) | (go_at_call 82; (with_reducible refine (impl_at.calls ((rd_T73 l0 x11_1).f3) x11_1 true _ A39.out).mono ?_); rintro e w' ⟨rfl, ⟨nd, rfl⟩⟩) | (go_at_call 84; (with_reducible refine (impl_isPair.calls ((rd_T73 l0 x11_1).f0) false _ A41.out).mono ?_); rintro e w' ⟨rfl, ⟨nd, rfl⟩⟩))
                go_ret
                exact ⟨EWW, BL⟩
             ·replace c40 := Bool.eq_false_iff.mpr c40
              subst c40
              have H1 : (some false) = some r := by rw [if_neg (show ¬ (false = true) by decide)] at H; exact H
              clear H
              have H := H1
              clear H1
              obtain rfl := Option.some.inj H
              obtain ⟨hcz47_0, hcz47_1, hcz47_2, hcz47_3, hfz47_0, hfz47_1, hfz47_2, hfz47_3⟩ := cz4 BK241.out
              go_wp2_with (first | ((with_reducible refine gate_callee (f := 84) rfl ?_); refine goesS (some 63) Try.func84 #[.int .i64 ((rd_T73 l0 x11_1).f0)] ?_; (with_reducible refine (impl_isPair.calls ((rd_T73 l0 x11_1).f0) true _ A37.out).mono ?_); rintro e w' ⟨rfl, ⟨nd, rfl⟩⟩; refine ⟨_, rfl, ?_⟩) | (go_at_call 82; (with_reducible refine (impl_at.calls ((rd_T73 l0 x11_1).f3) x11_1 false _ A39.out).mono ?_); rintro e w' ⟨rfl, ⟨nd, rfl⟩⟩))
              go_ret
              exact ⟨EWW, BL⟩
            ·replace c38 := Bool.eq_false_iff.mpr c38
             subst c38
             have H1 : ((impl_isPair.f ((rd_T73 l0 x11_1).f0)).bind fun t250 => (if t250 = true then (impl_IsPlay.l0 kj21 l0 l0 (l0.length : Int) (wrap64 (x11_1 + 1))) else (if ((rd_T73 l0 x11_1).f3) = 0 then (impl_IsPlay.l0 kj21 l0 l0 (l0.length : Int) (wrap64 (x11_1 + 1))) else (some false)))) = some r := by rw [if_neg (show ¬ (false = true) by decide)] at H; exact H
             clear H
             have H := H1
             clear H1
             replace H := Option.bind_eq_some_iff.mp H
             obtain ⟨t250, A480, H⟩ := H
             replace H : (if t250 = true then (impl_IsPlay.l0 kj21 l0 l0 (l0.length : Int) (wrap64 (x11_1 + 1))) else (if ((rd_T73 l0 x11_1).f3) = 0 then (impl_IsPlay.l0 kj21 l0 l0 (l0.length : Int) (wrap64 (x11_1 + 1))) else (some false))) = some r := H
             have A48 := Aside0.mk A480
             clear A480
             by_cases c49 : t250 = true
             ·subst c49
              have H1 : (impl_IsPlay.l0 kj21 l0 l0 (l0.length : Int) (wrap64 (x11_1 + 1))) = some r := by rw [if_pos rfl] at H; exact H
              clear H
              have H := H1
              clear H1
              have H' := Aside0.mk H
              clear H
              obtain ⟨hcz50_0, hcz50_1, hcz50_2, hcz50_3, hfz50_0, hfz50_1, hfz50_2, hfz50_3⟩ := cz4 BK241.out
              go_wp2_with (first | ((with_reducible refine gate_callee (f := 84) rfl ?_); refine goesS (some 63) Try.func84 #[.int .i64 ((rd_T73 l0 x11_1).f0)] ?_; (with_reducible refine (impl_isPair.calls ((rd_T73 l0 x11_1).f0) false _ A37.out).mono ?_); rintro e w' ⟨rfl, ⟨nd, rfl⟩⟩; refine ⟨_, rfl, ?_⟩) | (go_at_call 84; (with_reducible refine (impl_isPair.calls ((rd_T73 l0 x11_1).f0) true _ A48.out).mono ?_); rintro e w' ⟨rfl, ⟨nd, rfl⟩⟩))
              go_roundg kj21
              case measure => have := HK1.out; have := HJ21.out; omega
              case rel => exact ⟨(wrap64 (x11_1 + 1)), EQ, H', ⟨by have := HK1.out; have := HJ21.out; omega⟩, ⟨BL⟩⟩
             ·replace c49 := Bool.eq_false_iff.mpr c49
              subst c49
              have H1 : (if ((rd_T73 l0 x11_1).f3) = 0 then (impl_IsPlay.l0 kj21 l0 l0 (l0.length : Int) (wrap64 (x11_1 + 1))) else (some false)) = some r := by rw [if_neg (show ¬ (false = true) by decide)] at H; exact H
              clear H
              have H := H1
              clear H1
              by_cases c51 : ((rd_T73 l0 x11_1).f3) = 0
              ·rw [if_pos c51] at H
               have c51b0 : (((rd_T73 l0 x11_1).f3) == 0) = true := beq_iff_eq.mpr c51
               have c51b1 : (((rd_T73 l0 x11_1).f3) != 0) = false := bne_eq_false_iff_eq.mpr c51
               clear c51
               have H' := Aside0.mk H
               clear H
               obtain ⟨hcz52_0, hcz52_1, hcz52_2, hcz52_3, hfz52_0, hfz52_1, hfz52_2, hfz52_3⟩ := cz4 BK241.out
               go_wp2_with (first | ((with_reducible refine gate_callee (f := 84) rfl ?_); refine goesS (some 63) Try.func84 #[.int .i64 ((rd_T73 l0 x11_1).f0)] ?_; (with_reducible refine (impl_isPair.calls ((rd_T73 l0 x11_1).f0) false _ A37.out).mono ?_); rintro e w' ⟨rfl, ⟨nd, rfl⟩⟩; refine ⟨_, rfl, ?_⟩) | (go_at_call 84; (with_reducible refine (impl_isPair.calls ((rd_T73 l0 x11_1).f0) false _ A48.out).mono ?_); rintro e w' ⟨rfl, ⟨nd, rfl⟩⟩))
               go_roundg kj21
               case measure => have := HK1.out; have := HJ21.out; omega
               case rel => exact ⟨(wrap64 (x11_1 + 1)), EQ, H', ⟨by have := HK1.out; have := HJ21.out; omega⟩, ⟨BL⟩⟩
              ·rw [if_neg c51] at H
               have c51b0 : (((rd_T73 l0 x11_1).f3) == 0) = false := beq_eq_false_iff_ne.mpr c51
               have c51b1 : (((rd_T73 l0 x11_1).f3) != 0) = true := bne_iff_ne.mpr c51
               obtain rfl := Option.some.inj H
               obtain ⟨hcz53_0, hcz53_1, hcz53_2, hcz53_3, hfz53_0, hfz53_1, hfz53_2, hfz53_3⟩ := cz4 BK241.out
               go_wp2_with (first | ((with_reducible refine gate_callee (f := 84) rfl ?_); refine goesS (some 63) Try.func84 #[.int .i64 ((rd_T73 l0 x11_1).f0)] ?_; (with_reducible refine (impl_isPair.calls ((rd_T73 l0 x11_1).f0) false _ A37.out).mono ?_); rintro e w' ⟨rfl, ⟨nd, rfl⟩⟩; refine ⟨_, rfl, ?_⟩) | (go_at_call 84; (with_reducible refine (impl_isPair.calls ((rd_T73 l0 x11_1).f0) false _ A48.out).mono ?_); rintro e w' ⟨rfl, ⟨nd, rfl⟩⟩))
               go_ret
               exact ⟨EWW, BL⟩
       ·replace c8 := Bool.eq_false_iff.mpr c8
        subst c8
        have H1 : (some false) = some r := by rw [if_neg (show ¬ (false = true) by decide)] at H; exact H
        clear H
        have H := H1
        clear H1
        obtain rfl := Option.some.inj H
        have p240 : 0 ≤ (x11_1 : Int) := OD
        have q240 : x11_1 < (l0.length : Int) := OD
        obtain ⟨ad240, e240, hx240_0, hx240_1, hx240_2, hx240_3⟩ := at_T73 HR0.out x11_1 p240 q240
        cases e240
        replace hx240_0 := (HB.out.cell (World.block_lt_of_cell? w _ hx240_0)).trans hx240_0
        replace hx240_1 := (HB.out.cell (World.block_lt_of_cell? w _ hx240_1)).trans hx240_1
        replace hx240_2 := (HB.out.cell (World.block_lt_of_cell? w _ hx240_2)).trans hx240_2
        replace hx240_3 := (HB.out.cell (World.block_lt_of_cell? w _ hx240_3)).trans hx240_3
        replace p240 := eq_true p240
        replace q240 := eq_true q240
        go_wp2_with (first | ((with_reducible refine gate_dst (N := 4) rfl ?_); refine box_ev (N := 4) (cs := #[.int .i64 0, .string (⟨#[]⟩ : ByteArray), .int .i64 0, .int .i64 0]) (t := 73) ?_; intro gb241 hg w54 hbox hb; have n0_ := BS (w := w) hb; have n1_ := Aside0.mk (hbox); have n2_ := SZ (w := w) hg; have n3_ := SZ (w := w) hg; clear HB; have HB := n0_; have BK241 := n1_; have GW241 := n2_; have GE241 := n3_; clear n0_ n1_ n2_ n3_; clear hb hbox hg; obtain ⟨hcz55_0, hcz55_1, hcz55_2, hcz55_3, hfz55_0, hfz55_1, hfz55_2, hfz55_3⟩ := cz4 BK241.out) | ((with_reducible refine gate_callee (f := 57) rfl ?_); refine goesS (some 18) Try.func57 #[.int .i64 ((rd_T73 l0 x11_1).f0), .int .i64 1, .int .i64 9] ?_; (with_reducible refine (impl_InRange.calls ((rd_T73 l0 x11_1).f0) 1 9 false _ A7.out).mono ?_); rintro e w' ⟨rfl, ⟨nd, rfl⟩⟩; refine ⟨_, rfl, ?_⟩))
        go_ret
        exact ⟨EWW, BL⟩
      ·rw [if_neg c6] at H
       exact absurd H (by simp)
     ·rw [if_neg c5] at H
      exact absurd H (by simp)
    ·rw [if_neg c4] at H
     have c4b0 : decide (x11_1 < (l0.length : Int)) = false := decide_eq_false c4
     clear c4
     obtain rfl := Option.some.inj H
     go_wp2
     go_ret
     exact ⟨EWW, BL⟩
 ·replace c3 := Bool.eq_false_iff.mpr c3
  subst c3
  have H1 : (some false) = some r := by rw [if_neg (show ¬ (false = true) by decide)] at H; exact H
  clear H
  have H := H1
  clear H1
  obtain rfl := Option.some.inj H
  go_enter Try.func66, Try.ntmps66
  go_wp2_with (first | ((with_reducible refine gate_callee (f := 57) rfl ?_); refine goesS (some 7) Try.func57 #[.int .i64 (l0.length : Int), .int .i64 1, .int .i64 9] ?_; (with_reducible refine (impl_InRange.calls (l0.length : Int) 1 9 false _ A2.out).mono ?_); rintro e w' ⟨rfl, ⟨nd, rfl⟩⟩; refine ⟨_, rfl, ?_⟩))
  go_ret
  exact ⟨EWW, BL⟩
def impl_IsClue.f (k : Nat) (a0_0 : Int) (l0_1 : List (S73)) : Option (Bool) := (impl_InRange.f a0_0 1 99).bind fun t252 => (if t252 = true then ((impl_IsPlay.f k l0_1).bind fun t253 => (some t253)) else (some false))
set_option maxHeartbeats 8000000 in
set_option maxRecDepth 100000 in
theorem impl_IsClue.calls (k : Nat) (a0_0 : Int) (A0_1 : Option Addr) (c0_1 : Nat) (l0_1 : List (S73)) (r : Bool) (w : World) (hr0_1 : Kd.C k73 w A0_1 l0_1.length l0_1) (hc0_1 : l0_1.length ≤ c0_1) (h : impl_IsClue.f k a0_0 l0_1 = some r) :
  Calls Try.prog 49 #[.agg #[.int .i64 a0_0, .slice A0_1 l0_1.length c0_1]] w fun e w' => e = .returned (.bool r) ∧ Below w.heap.size w w' := by
 have hu33 := Try.underlying33
 have HR0_1 := Aside0.mk hr0_1
 have HC0_1 := Aside0.mk hc0_1
 clear hr0_1 hc0_1
 have HB := Aside0.mk (Below.refl w.heap.size w)
 have H : ((impl_InRange.f a0_0 1 99).bind fun t252 => (if t252 = true then ((impl_IsPlay.f k l0_1).bind fun t253 => (some t253)) else (some false))) = some r := h
 clear h
 replace H := Option.bind_eq_some_iff.mp H
 obtain ⟨t252, A20, H⟩ := H
 replace H : (if t252 = true then ((impl_IsPlay.f k l0_1).bind fun t253 => (some t253)) else (some false)) = some r := H
 have A2 := Aside0.mk A20
 clear A20
 by_cases c3 : t252 = true
 ·subst c3
  have H1 : ((impl_IsPlay.f k l0_1).bind fun t253 => (some t253)) = some r := by rw [if_pos rfl] at H; exact H
  clear H
  have H := H1
  clear H1
  replace H := Option.bind_eq_some_iff.mp H
  obtain ⟨t253, A40, H⟩ := H
  replace H : (some t253) = some r := H
  have A4 := Aside0.mk A40
  clear A40
  obtain rfl := Option.some.inj H
  go_enter Try.func49, Try.ntmps49
  go_wp2_with (first | ((with_reducible refine gate_dst (N := 1) rfl ?_); refine box_ev (N := 1) (cs := #[.int .i64 a0_0, .slice A0_1 l0_1.length c0_1]) (t := 33) ?_; intro gb251 hg w5 hbox hb; have n0_ := BS (w := w) hb; have n1_ := Aside0.mk (hbox); have n2_ := SZ (w := w) hg; have n3_ := SZ (w := w) hg; clear HB; have HB := n0_; have BK251 := n1_; have GW251 := n2_; have GE251 := n3_; clear n0_ n1_ n2_ n3_; clear hb hbox hg; obtain ⟨hcz6_0, hcz6_1, hfz6_0, hfz6_1⟩ := cz2 BK251.out) | ((with_reducible refine gate_callee (f := 57) rfl ?_); refine goesS (some 5) Try.func57 #[.int .i64 a0_0, .int .i64 1, .int .i64 99] ?_; (with_reducible refine (impl_InRange.calls a0_0 1 99 true _ A2.out).mono ?_); rintro e w' ⟨rfl, ⟨nd, rfl⟩⟩; refine ⟨_, rfl, ?_⟩) | (go_at_call 66; (with_reducible refine (impl_IsPlay.calls k _ _ l0_1 t253 _ ?side1 ?side2 A4.out).mono ?_); (case side1 => repeat (first | exact (Kd.C_below HR0_1.out BL) | (with_reducible refine Kd.C_alloc ?_ _) | (with_reducible refine Kd.C_drewN ?_ _) | (with_reducible refine Kd.C_drew ?_))); (case side2 => exact HC0_1.out); rintro e w7 ⟨rfl, hb⟩; have n0_ := KB BK251 hb; have n1_ := BS (w := w) hb; clear BK251 HB; have BK251 := n0_; have HB := n1_; clear n0_ n1_; (try clear hb)))
  go_ret
  exact ⟨EWW, BL⟩
 ·replace c3 := Bool.eq_false_iff.mpr c3
  subst c3
  have H1 : (some false) = some r := by rw [if_neg (show ¬ (false = true) by decide)] at H; exact H
  clear H
  have H := H1
  clear H1
  obtain rfl := Option.some.inj H
  go_enter Try.func49, Try.ntmps49
  go_wp2_with (first | ((with_reducible refine gate_dst (N := 1) rfl ?_); refine box_ev (N := 1) (cs := #[.int .i64 a0_0, .slice A0_1 l0_1.length c0_1]) (t := 33) ?_; intro gb251 hg w8 hbox hb; have n0_ := BS (w := w) hb; have n1_ := Aside0.mk (hbox); have n2_ := SZ (w := w) hg; have n3_ := SZ (w := w) hg; clear HB; have HB := n0_; have BK251 := n1_; have GW251 := n2_; have GE251 := n3_; clear n0_ n1_ n2_ n3_; clear hb hbox hg; obtain ⟨hcz9_0, hcz9_1, hfz9_0, hfz9_1⟩ := cz2 BK251.out) | ((with_reducible refine gate_callee (f := 57) rfl ?_); refine goesS (some 5) Try.func57 #[.int .i64 a0_0, .int .i64 1, .int .i64 99] ?_; (with_reducible refine (impl_InRange.calls a0_0 1 99 false _ A2.out).mono ?_); rintro e w' ⟨rfl, ⟨nd, rfl⟩⟩; refine ⟨_, rfl, ?_⟩))
  go_ret
  exact ⟨EWW, BL⟩
def impl_Meaning_85.l0 : Nat → List (S54) → Int → Int → ByteArray → Int → Option (Int)
 | 0, _, _, _, _, _ => none
 | k + 1, x0, x7, x8, x255000, x255001 => if x8 < x7 then (if 0 ≤ x8 then (if x8 < (x0.length : Int) then (if (x255000.toList == (((rd_T54 x0 x8).f0).toList) && (x255001 == ((rd_T54 x0 x8).f1))) = true then (some x8) else (impl_Meaning_85.l0 k x0 x7 (wrap64 (x8 + 1)) x255000 x255001)) else (none)) else (none)) else (some (-1))
def impl_Meaning_85.f (k : Nat) (l0 : List (S54)) (a1_0 : ByteArray) (a1_1 : Int) : Option (Int) := impl_Meaning_85.l0 k l0 (l0.length : Int) 0 a1_0 a1_1
set_option maxHeartbeats 8000000 in
set_option maxRecDepth 100000 in
theorem impl_Meaning_85.calls (k : Nat) (A0 : Option Addr) (c0 : Nat) (l0 : List (S54)) (a1_0 : ByteArray) (a1_1 : Int) (r : Int) (w : World) (hr0 : Kd.C k54 w A0 l0.length l0) (hc0 : l0.length ≤ c0) (h : impl_Meaning_85.f k l0 a1_0 a1_1 = some r) :
  Calls Try.prog 85 #[.slice A0 l0.length c0, .agg #[.string a1_0, .int .i64 a1_1]] w fun e w' => e = .returned (.int .i64 r) ∧ Below w.heap.size w w' := by
 have hu54 := Try.underlying54
 have HR0 := Aside0.mk hr0
 have HC0 := Aside0.mk hc0
 clear hr0 hc0
 have HB := Aside0.mk (Below.refl w.heap.size w)
 have H : (impl_Meaning_85.l0 k l0 (l0.length : Int) 0 a1_0 a1_1) = some r := h
 clear h
 have H' := Aside0.mk H
 clear H
 go_enter Try.func85, Try.ntmps85
 go_wp2_with (first | ((with_reducible refine gate_dst (N := 3) rfl ?_); refine box_ev (N := 3) (cs := #[.string a1_0, .int .i64 a1_1]) (t := 54) ?_; intro gb254 hg w3 hbox hb; have n0_ := BS (w := w) hb; have n1_ := Aside0.mk (hbox); have n2_ := SZ (w := w) hg; have n3_ := SZ (w := w) hg; clear HB; have HB := n0_; have BK254 := n1_; have GW254 := n2_; have GE254 := n3_; clear n0_ n1_ n2_ n3_; clear hb hbox hg))
 repeat (go_quiet (first | ((with_reducible refine gate_dst (N := 3) rfl ?_); refine box_ev (N := 3) (cs := #[.string a1_0, .int .i64 a1_1]) (t := 54) ?_; intro gb254 hg w3 hbox hb; have n0_ := BS (w := w) hb; have n1_ := Aside0.mk (hbox); have n2_ := SZ (w := w) hg; have n3_ := SZ (w := w) hg; clear HB; have HB := n0_; have BK254 := n1_; have GW254 := n2_; have GE254 := n3_; clear n0_ n1_ n2_ n3_; clear hb hbox hg)); try go_wp2_with (first | ((with_reducible refine gate_dst (N := 3) rfl ?_); refine box_ev (N := 3) (cs := #[.string a1_0, .int .i64 a1_1]) (t := 54) ?_; intro gb254 hg w3 hbox hb; have n0_ := BS (w := w) hb; have n1_ := Aside0.mk (hbox); have n2_ := SZ (w := w) hg; have n3_ := SZ (w := w) hg; clear HB; have HB := n0_; have BK254 := n1_; have GW254 := n2_; have GE254 := n3_; clear n0_ n1_ n2_ n3_; clear hb hbox hg)))
 go_loopg [8] k (fun kq v8 w' => ∃ (x8_1 : Int), v8 = .int .i64 x8_1 ∧ Aside0 (impl_Meaning_85.l0 kq l0 (l0.length : Int) x8_1 a1_0 a1_1 = some r) ∧ Aside0 (kq ≤ k) ∧ Aside0 (w'.heap[gb254]? = some (.cells #[.string a1_0, .int .i64 a1_1] 54 (0, 0))) ∧ Aside0 (Below w.heap.size w w'))
 case atStart => exact ⟨(0), EQ, H', ⟨Nat.le_refl _⟩, ⟨BK⟩, ⟨BL⟩⟩
 case round =>
  clear H'
  obtain ⟨x8_1, rfl, HA, HK1, BK254, HB⟩ := hrel
  cases gk with
  | zero => exact absurd HA.out (by simp [impl_Meaning_85.l0])
  | succ k1 =>
   have H := HA.out
   clear HA
   simp only [impl_Meaning_85.l0] at H
   by_cases c4 : x8_1 < (l0.length : Int)
   ·rw [if_pos c4] at H
    have c4b0 : decide (x8_1 < (l0.length : Int)) = true := decide_eq_true c4
    clear c4
    by_cases c5 : 0 ≤ x8_1
    ·rw [if_pos c5] at H
     have c5b0 : decide (0 ≤ x8_1) = true := decide_eq_true c5
     clear c5
     by_cases c6 : x8_1 < (l0.length : Int)
     ·rw [if_pos c6] at H
      have c6b0 : decide (x8_1 < (l0.length : Int)) = true := decide_eq_true c6
      clear c6
      by_cases c7 : (a1_0.toList == (((rd_T54 l0 x8_1).f0).toList) && (a1_1 == ((rd_T54 l0 x8_1).f1))) = true
      ·rw [if_pos c7] at H
       have c7b0 : (a1_0.toList == (((rd_T54 l0 x8_1).f0).toList) && (a1_1 == ((rd_T54 l0 x8_1).f1))) = true := c7
       (try (have c7b1 : decide (a1_0.toList = (((rd_T54 l0 x8_1).f0).toList) && (a1_1 == ((rd_T54 l0 x8_1).f1))) = true := by simpa using c7))
       (try (have c7b2 : (a1_0.toList == (((rd_T54 l0 x8_1).f0).toList) && (a1_1 == ((rd_T54 l0 x8_1).f1))) = true := by simpa using c7))
       clear c7
       obtain rfl := Option.some.inj H
       obtain ⟨hcz8_0, hcz8_1, hfz8_0, hfz8_1⟩ := cz2 BK254.out
       have p255 : 0 ≤ (x8_1 : Int) := OD
       have q255 : x8_1 < (l0.length : Int) := OD
       obtain ⟨ad255, e255, hx255_0, hx255_1⟩ := at_T54 HR0.out x8_1 p255 q255
       cases e255
       replace hx255_0 := (HB.out.cell (World.block_lt_of_cell? w _ hx255_0)).trans hx255_0
       replace hx255_1 := (HB.out.cell (World.block_lt_of_cell? w _ hx255_1)).trans hx255_1
       replace p255 := eq_true p255
       replace q255 := eq_true q255
       go_wp2
       repeat (go_quiet (fail); try go_wp2)
       go_ret
       exact ⟨EWW, BL⟩
      ·rw [if_neg c7] at H
       have c7b0 : (a1_0.toList == (((rd_T54 l0 x8_1).f0).toList) && (a1_1 == ((rd_T54 l0 x8_1).f1))) = false := by simpa using c7
       (try (have c7b1 : decide (a1_0.toList = (((rd_T54 l0 x8_1).f0).toList) && (a1_1 == ((rd_T54 l0 x8_1).f1))) = false := by simpa using c7))
       (try (have c7b2 : (a1_0.toList == (((rd_T54 l0 x8_1).f0).toList) && (a1_1 == ((rd_T54 l0 x8_1).f1))) = false := by simpa using c7))
       (try (have c7b3 : ¬ (a1_0.toList = (((rd_T54 l0 x8_1).f0).toList) && (a1_1 == ((rd_T54 l0 x8_1).f1))) := by simpa using c7))
       clear c7
       have H' := Aside0.mk H
       clear H
       obtain ⟨hcz9_0, hcz9_1, hfz9_0, hfz9_1⟩ := cz2 BK254.out
       have p255 : 0 ≤ (x8_1 : Int) := OD
       have q255 : x8_1 < (l0.length : Int) := OD
       obtain ⟨ad255, e255, hx255_0, hx255_1⟩ := at_T54 HR0.out x8_1 p255 q255
       cases e255
       replace hx255_0 := (HB.out.cell (World.block_lt_of_cell? w _ hx255_0)).trans hx255_0
       replace hx255_1 := (HB.out.cell (World.block_lt_of_cell? w _ hx255_1)).trans hx255_1
       replace p255 := eq_true p255
       replace q255 := eq_true q255
       go_wp2
       repeat (go_quiet (fail); try go_wp2)
       go_roundg k1
       case measure => have := HK1.out; omega
       case rel => exact ⟨(wrap64 (x8_1 + 1)), EQ, H', ⟨by have := HK1.out; omega⟩, ⟨BK⟩, ⟨BL⟩⟩
     ·rw [if_neg c6] at H
      exact absurd H (by simp)
    ·rw [if_neg c5] at H
     exact absurd H (by simp)
   ·rw [if_neg c4] at H
    have c4b0 : decide (x8_1 < (l0.length : Int)) = false := decide_eq_false c4
    clear c4
    obtain rfl := Option.some.inj H
    go_wp2
    repeat (go_quiet (fail); try go_wp2)
    go_ret
    exact ⟨EWW, BL⟩
def impl_Meaning_67.f (k : Nat) (l0 : List (S54)) (a1_0 : ByteArray) (a1_1 : Int) : Option (Bool) := (impl_Meaning_85.f k l0 a1_0 a1_1).bind fun t257 => (some (decide (t257 ≥ 0)))
set_option maxHeartbeats 8000000 in
set_option maxRecDepth 100000 in
theorem impl_Meaning_67.calls (k : Nat) (A0 : Option Addr) (c0 : Nat) (l0 : List (S54)) (a1_0 : ByteArray) (a1_1 : Int) (r : Bool) (w : World) (hr0 : Kd.C k54 w A0 l0.length l0) (hc0 : l0.length ≤ c0) (h : impl_Meaning_67.f k l0 a1_0 a1_1 = some r) :
  Calls Try.prog 67 #[.slice A0 l0.length c0, .agg #[.string a1_0, .int .i64 a1_1]] w fun e w' => e = .returned (.bool r) ∧ Below w.heap.size w w' := by
 have hu54 := Try.underlying54
 have HR0 := Aside0.mk hr0
 have HC0 := Aside0.mk hc0
 clear hr0 hc0
 have HB := Aside0.mk (Below.refl w.heap.size w)
 have H : ((impl_Meaning_85.f k l0 a1_0 a1_1).bind fun t257 => (some (decide (t257 ≥ 0)))) = some r := h
 clear h
 replace H := Option.bind_eq_some_iff.mp H
 obtain ⟨t257, A30, H⟩ := H
 replace H : (some (decide (t257 ≥ 0))) = some r := H
 have A3 := Aside0.mk A30
 clear A30
 obtain rfl := Option.some.inj H
 go_enter Try.func67, Try.ntmps67
 go_wp2_with (first | ((with_reducible refine gate_dst (N := 3) rfl ?_); refine box_ev (N := 3) (cs := #[.string a1_0, .int .i64 a1_1]) (t := 54) ?_; intro gb256 hg w4 hbox hb; have n0_ := BS (w := w) hb; have n1_ := Aside0.mk (hbox); have n2_ := SZ (w := w) hg; have n3_ := SZ (w := w) hg; clear HB; have HB := n0_; have BK256 := n1_; have GW256 := n2_; have GE256 := n3_; clear n0_ n1_ n2_ n3_; clear hb hbox hg; obtain ⟨hcz5_0, hcz5_1, hfz5_0, hfz5_1⟩ := cz2 BK256.out) | ((with_reducible refine gate_callee (f := 85) rfl ?_); refine goesS (some 7) Try.func85 #[.slice A0 l0.length c0, .agg #[.string a1_0, .int .i64 a1_1]] ?_; (with_reducible refine (impl_Meaning_85.calls k _ _ l0 a1_0 a1_1 t257 _ ?side1 ?side2 A3.out).mono ?_); (case side1 => exact CB HR0); (case side2 => exact HC0.out); rintro e w6 ⟨rfl, hb⟩; refine ⟨_, rfl, ?_⟩; have n0_ := KB BK256 hb; have n1_ := BS (w := w) hb; clear BK256 HB; have BK256 := n0_; have HB := n1_; clear n0_ n1_; (try clear hb)))
 go_ret
 exact ⟨EWW, BL⟩
def impl_HasSense.f (k : Nat) (l0 : List (S54)) (a1 : ByteArray) (a2 : Int) : Option (Bool) := (impl_Meaning_67.f k l0 a1 a2).bind fun t258 => (some t258)
set_option maxHeartbeats 8000000 in
set_option maxRecDepth 100000 in
theorem impl_HasSense.calls (k : Nat) (A0 : Option Addr) (c0 : Nat) (l0 : List (S54)) (a1 : ByteArray) (a2 : Int) (r : Bool) (w : World) (hr0 : Kd.C k54 w A0 l0.length l0) (hc0 : l0.length ≤ c0) (h : impl_HasSense.f k l0 a1 a2 = some r) :
  Calls Try.prog 50 #[.slice A0 l0.length c0, .string a1, .int .i64 a2] w fun e w' => e = .returned (.bool r) ∧ Below w.heap.size w w' := by
 have hu54 := Try.underlying54
 have HR0 := Aside0.mk hr0
 have HC0 := Aside0.mk hc0
 clear hr0 hc0
 have HB := Aside0.mk (Below.refl w.heap.size w)
 have H : ((impl_Meaning_67.f k l0 a1 a2).bind fun t258 => (some t258)) = some r := h
 clear h
 replace H := Option.bind_eq_some_iff.mp H
 obtain ⟨t258, A40, H⟩ := H
 replace H : (some t258) = some r := H
 have A4 := Aside0.mk A40
 clear A40
 obtain rfl := Option.some.inj H
 go_enter Try.func50, Try.ntmps50
 go_wp2_with (first | ((with_reducible refine gate_callee (f := 67) rfl ?_); refine goesS (some 11) Try.func67 #[.slice A0 l0.length c0, .agg #[.string a1, .int .i64 a2]] ?_; (with_reducible refine (impl_Meaning_67.calls k _ _ l0 a1 a2 t258 _ ?side1 ?side2 A4.out).mono ?_); (case side1 => repeat (first | exact HR0.out | (with_reducible refine Kd.C_alloc ?_ _) | (with_reducible refine Kd.C_drewN ?_ _) | (with_reducible refine Kd.C_drew ?_))); (case side2 => exact HC0.out); rintro e w5 ⟨rfl, hb⟩; refine ⟨_, rfl, ?_⟩; have n0_ := BS (w := w) hb; clear HB; have HB := n0_; clear n0_; (try clear hb)))
 go_ret
 exact ⟨EWW, BL⟩
def impl_Backwards.f (a0 : ByteArray) : Option (ByteArray) := if a0.size ≤ 100 then (some (strOfNums (bytesOf a0).reverse)) else (none)
theorem impl_Backwards.calls (a0 : ByteArray) (r : ByteArray) (w : World) (h : impl_Backwards.f a0 = some r) :
  Calls Try.prog 87 #[.string a0] w fun e w' => e = .returned (.string r) ∧ Below w.heap.size w w' := by
 by_cases h1 : a0.size ≤ 100
 ·have hr : r = strOfNums (bytesOf a0).reverse := by
   unfold impl_Backwards.f at h
   rw [if_pos h1] at h
   exact (Option.some.inj h).symm
  subst hr
  exact Go.Proofs.Ythincoghppaegaa.HandSort.backwards_u8 a0 w h1
 ·simp [impl_Backwards.f, h1] at h
def impl_SortLetters.f (k : Nat) (a0 : ByteArray) : Option (ByteArray) := (impl_IsWord.f k a0).bind fun t => (if t = true then (if a0.size ≤ 12 then (some (strOfNums (Go.Proofs.Ythincoghppaegaa.HandSort.sorted a0))) else (none)) else (none))
theorem impl_SortLetters.calls (k : Nat) (a0 : ByteArray) (r : ByteArray) (w : World) (h : impl_SortLetters.f k a0 = some r) :
  Calls Try.prog 95 #[.string a0] w fun e w' => e = .returned (.string r) ∧ Below w.heap.size w w' := by
 obtain ⟨t, h1, h2⟩ := Option.bind_eq_some_iff.mp h
 cases t with
 | false => simp at h2
 | true =>
  rw [if_pos rfl] at h2
  by_cases h3 : a0.size ≤ 12
  ·rw [if_pos h3] at h2
   obtain rfl := Option.some.inj h2
   exact Go.Proofs.Ythincoghppaegaa.HandSort.sortLetters_u8 a0 w h3 ((impl_IsWord.calls k a0 true w h1).mono fun e w' hq => ⟨hq.1, hq.2.out⟩)
  ·rw [if_neg h3] at h2
   cases h2
end Go.Proofs.Ythincoghppaegaa.PFnExactAnswersTo
