/- Walks of functions: what each computes. -/
import Derived.Test.YtddacmgigolcbaaDoorZFitsHintP0
import Derived.Test.YtddacmgigolcbaaDoorZFitsHintP5
import Derived.Test.YtddacmgigolcbaaDoorZFitsHintW
import Derived.Test.YtddacmgigolcbaaDoorZFitsHintShelf
namespace Go.Proofs.YtddacmgigolcbaaDoor.PFnExactFitsHint
open Go.RowKit Go.Proofs.YtddacmgigolcbaaDoorW.PrintWords Go.Proofs.YtddacmgigolcbaaDoorW.PrintLast Go.Proofs.YtddacmgigolcbaaDoorW.PrintMore Go.Proofs.YtddacmgigolcbaaDoor.Sq
attribute [local go_sem] max2_int min2_int max_two min_two max_three min_three max_four min_four
set_option linter.unusedVariables false
set_option linter.unusedSimpArgs false
mutual
def impl_IsPlay.l0 : Nat → List (S45) → List (S45) → Int → Int → Option (Bool)
 | 0, _, _, _, _ => none
 | k + 1, x0, x9, x10, x11 => if x11 < x10 then (if 0 ≤ x11 then (if x11 < (x9.length : Int) then ((impl_InRange.f ((rd_T45 x9 x11).f0) 1 9).bind fun t240 => (if t240 = true then (if ((rd_T45 x9 x11).f0) = 1 then ((impl_IsWord.f k ((rd_T45 x9 x11).f1)).bind fun t241 => (if t241 = true then (if ((rd_T45 x9 x11).f2) = 0 then (if ((rd_T45 x9 x11).f3) = 0 then (impl_IsPlay.l0 k x0 x9 x10 (wrap64 (x11 + 1))) else (some false)) else (some false)) else (some false))) else (if ((rd_T45 x9 x11).f1).toList = ([] : List UInt8) then ((impl_at.f ((rd_T45 x9 x11).f2) x11).bind fun t242 => (if t242 = true then ((impl_needsWord.f ((rd_T45 x9 x11).f0)).bind fun t243 => (if t243 = true then (if 0 ≤ ((rd_T45 x9 x11).f2) then (if ((rd_T45 x9 x11).f2) < (x0.length : Int) then (impl_IsPlay.j1 k x0 x11 x9 x10 x11 (((rd_T45 x0 ((rd_T45 x9 x11).f2)).f0) != 1) ((rd_T45 x9 x11).f0) ((rd_T45 x9 x11).f1) ((rd_T45 x9 x11).f2) ((rd_T45 x9 x11).f3)) else (none)) else (none)) else (impl_IsPlay.j1 k x0 x11 x9 x10 x11 false ((rd_T45 x9 x11).f0) ((rd_T45 x9 x11).f1) ((rd_T45 x9 x11).f2) ((rd_T45 x9 x11).f3)))) else (impl_IsPlay.j1 k x0 x11 x9 x10 x11 true ((rd_T45 x9 x11).f0) ((rd_T45 x9 x11).f1) ((rd_T45 x9 x11).f2) ((rd_T45 x9 x11).f3)))) else (impl_IsPlay.j1 k x0 x11 x9 x10 x11 true ((rd_T45 x9 x11).f0) ((rd_T45 x9 x11).f1) ((rd_T45 x9 x11).f2) ((rd_T45 x9 x11).f3)))) else (some false))) else (none)) else (none)) else (some true)
def impl_IsPlay.j1 : Nat → List (S45) → Int → List (S45) → Int → Int → Bool → Int → ByteArray → Int → Int → Option (Bool)
 | 0, _, _, _, _, _, _, _, _, _, _ => none
 | k + 1, x0, x3, x9, x10, x11, x60, x240000, x240001, x240002, x240003 => if x60 = true then (some false) else ((impl_isPair.f x240000).bind fun t245 => (if t245 = true then ((impl_at.f x240003 x3).bind fun t246 => (if t246 = true then ((impl_isPair.f x240000).bind fun t247 => (if t247 = true then (impl_IsPlay.l0 k x0 x9 x10 (wrap64 (x11 + 1))) else (if x240003 = 0 then (impl_IsPlay.l0 k x0 x9 x10 (wrap64 (x11 + 1))) else (some false)))) else (some false))) else ((impl_isPair.f x240000).bind fun t248 => (if t248 = true then (impl_IsPlay.l0 k x0 x9 x10 (wrap64 (x11 + 1))) else (if x240003 = 0 then (impl_IsPlay.l0 k x0 x9 x10 (wrap64 (x11 + 1))) else (some false))))))
end
def impl_IsPlay.f (k : Nat) (l0 : List (S45)) : Option (Bool) := (impl_InRange.f (l0.length : Int) 1 9).bind fun t237 => (if t237 = true then (impl_IsPlay.l0 k l0 l0 (l0.length : Int) 0) else (some false))
set_option maxHeartbeats 8000000 in
set_option maxRecDepth 100000 in
theorem impl_IsPlay.calls (k : Nat) (A0 : Option Addr) (c0 : Nat) (l0 : List (S45)) (r : Bool) (w : World) (hr0 : Kd.C k45 w A0 l0.length l0) (hc0 : l0.length ≤ c0) (h : impl_IsPlay.f k l0 = some r) :
  Calls Tryd.prog 38 #[.slice A0 l0.length c0] w fun e w' => e = .returned (.bool r) ∧ Below w.heap.size w w' := by
 have hu45 := Tryd.underlying45
 have HR0 := Aside0.mk hr0
 have HC0 := Aside0.mk hc0
 clear hr0 hc0
 have HB := Aside0.mk (Below.refl w.heap.size w)
 have H : ((impl_InRange.f (l0.length : Int) 1 9).bind fun t237 => (if t237 = true then (impl_IsPlay.l0 k l0 l0 (l0.length : Int) 0) else (some false))) = some r := h
 clear h
 replace H := Option.bind_eq_some_iff.mp H
 obtain ⟨t237, A20, H⟩ := H
 replace H : (if t237 = true then (impl_IsPlay.l0 k l0 l0 (l0.length : Int) 0) else (some false)) = some r := H
 have A2 := Aside0.mk A20
 clear A20
 by_cases c3 : t237 = true
 ·subst c3
  have H1 : (impl_IsPlay.l0 k l0 l0 (l0.length : Int) 0) = some r := by rw [if_pos rfl] at H; exact H
  clear H
  have H := H1
  clear H1
  have H' := Aside0.mk H
  clear H
  go_enter Tryd.func38, Tryd.ntmps38
  go_wp2_with (first | ((with_reducible refine gate_callee (f := 40) rfl ?_); refine goesS (some 7) Tryd.func40 #[.int .i64 (l0.length : Int), .int .i64 1, .int .i64 9] ?_; (with_reducible refine (impl_InRange.calls (l0.length : Int) 1 9 true _ A2.out).mono ?_); rintro e w' ⟨rfl, ⟨nd, rfl⟩⟩; refine ⟨_, rfl, ?_⟩))
  go_loopg [11] k (fun kq v11 w' => ∃ (x11_1 : Int), v11 = .int .i64 x11_1 ∧ Aside0 (impl_IsPlay.l0 kq l0 l0 (l0.length : Int) x11_1 = some r) ∧ Aside0 (kq ≤ k) ∧ Aside0 (Below w.heap.size w w'))
  case atStart => exact ⟨(0), EQ, H', ⟨Nat.le_refl _⟩, ⟨BL⟩⟩
  case round =>
   clear H'
   try clear c3
   obtain ⟨x11_1, rfl, HA, HK1, HB⟩ := hrel
   cases gk with
   | zero => exact absurd HA.out (by simp [impl_IsPlay.l0])
   | succ k1 =>
    have H := HA.out
    clear HA
    simp only [impl_IsPlay.l0] at H
    by_cases c4 : x11_1 < (l0.length : Int)
    ·rw [if_pos c4] at H
     have c4b0 : decide (x11_1 < (l0.length : Int)) = true := decide_eq_true c4
     clear c4
     by_cases c5 : 0 ≤ x11_1
     ·rw [if_pos c5] at H
      have c5b0 : decide (0 ≤ x11_1) = true := decide_eq_true c5
      clear c5
      by_cases c6 : x11_1 < (l0.length : Int)
      ·rw [if_pos c6] at H
       have c6b0 : decide (x11_1 < (l0.length : Int)) = true := decide_eq_true c6
       clear c6
       replace H := Option.bind_eq_some_iff.mp H
       obtain ⟨t240, A70, H⟩ := H
       replace H : (if t240 = true then (if ((rd_T45 l0 x11_1).f0) = 1 then ((impl_IsWord.f k1 ((rd_T45 l0 x11_1).f1)).bind fun t241 => (if t241 = true then (if ((rd_T45 l0 x11_1).f2) = 0 then (if ((rd_T45 l0 x11_1).f3) = 0 then (impl_IsPlay.l0 k1 l0 l0 (l0.length : Int) (wrap64 (x11_1 + 1))) else (some false)) else (some false)) else (some false))) else (if ((rd_T45 l0 x11_1).f1).toList = ([] : List UInt8) then ((impl_at.f ((rd_T45 l0 x11_1).f2) x11_1).bind fun t242 => (if t242 = true then ((impl_needsWord.f ((rd_T45 l0 x11_1).f0)).bind fun t243 => (if t243 = true then (if 0 ≤ ((rd_T45 l0 x11_1).f2) then (if ((rd_T45 l0 x11_1).f2) < (l0.length : Int) then (impl_IsPlay.j1 k1 l0 x11_1 l0 (l0.length : Int) x11_1 (((rd_T45 l0 ((rd_T45 l0 x11_1).f2)).f0) != 1) ((rd_T45 l0 x11_1).f0) ((rd_T45 l0 x11_1).f1) ((rd_T45 l0 x11_1).f2) ((rd_T45 l0 x11_1).f3)) else (none)) else (none)) else (impl_IsPlay.j1 k1 l0 x11_1 l0 (l0.length : Int) x11_1 false ((rd_T45 l0 x11_1).f0) ((rd_T45 l0 x11_1).f1) ((rd_T45 l0 x11_1).f2) ((rd_T45 l0 x11_1).f3)))) else (impl_IsPlay.j1 k1 l0 x11_1 l0 (l0.length : Int) x11_1 true ((rd_T45 l0 x11_1).f0) ((rd_T45 l0 x11_1).f1) ((rd_T45 l0 x11_1).f2) ((rd_T45 l0 x11_1).f3)))) else (impl_IsPlay.j1 k1 l0 x11_1 l0 (l0.length : Int) x11_1 true ((rd_T45 l0 x11_1).f0) ((rd_T45 l0 x11_1).f1) ((rd_T45 l0 x11_1).f2) ((rd_T45 l0 x11_1).f3)))) else (some false)) = some r := H
       have A7 := Aside0.mk A70
       clear A70
       by_cases c8 : t240 = true
       ·subst c8
        have H1 : (if ((rd_T45 l0 x11_1).f0) = 1 then ((impl_IsWord.f k1 ((rd_T45 l0 x11_1).f1)).bind fun t241 => (if t241 = true then (if ((rd_T45 l0 x11_1).f2) = 0 then (if ((rd_T45 l0 x11_1).f3) = 0 then (impl_IsPlay.l0 k1 l0 l0 (l0.length : Int) (wrap64 (x11_1 + 1))) else (some false)) else (some false)) else (some false))) else (if ((rd_T45 l0 x11_1).f1).toList = ([] : List UInt8) then ((impl_at.f ((rd_T45 l0 x11_1).f2) x11_1).bind fun t242 => (if t242 = true then ((impl_needsWord.f ((rd_T45 l0 x11_1).f0)).bind fun t243 => (if t243 = true then (if 0 ≤ ((rd_T45 l0 x11_1).f2) then (if ((rd_T45 l0 x11_1).f2) < (l0.length : Int) then (impl_IsPlay.j1 k1 l0 x11_1 l0 (l0.length : Int) x11_1 (((rd_T45 l0 ((rd_T45 l0 x11_1).f2)).f0) != 1) ((rd_T45 l0 x11_1).f0) ((rd_T45 l0 x11_1).f1) ((rd_T45 l0 x11_1).f2) ((rd_T45 l0 x11_1).f3)) else (none)) else (none)) else (impl_IsPlay.j1 k1 l0 x11_1 l0 (l0.length : Int) x11_1 false ((rd_T45 l0 x11_1).f0) ((rd_T45 l0 x11_1).f1) ((rd_T45 l0 x11_1).f2) ((rd_T45 l0 x11_1).f3)))) else (impl_IsPlay.j1 k1 l0 x11_1 l0 (l0.length : Int) x11_1 true ((rd_T45 l0 x11_1).f0) ((rd_T45 l0 x11_1).f1) ((rd_T45 l0 x11_1).f2) ((rd_T45 l0 x11_1).f3)))) else (impl_IsPlay.j1 k1 l0 x11_1 l0 (l0.length : Int) x11_1 true ((rd_T45 l0 x11_1).f0) ((rd_T45 l0 x11_1).f1) ((rd_T45 l0 x11_1).f2) ((rd_T45 l0 x11_1).f3)))) = some r := by rw [if_pos rfl] at H; exact H
        clear H
        have H := H1
        clear H1
        by_cases c9 : ((rd_T45 l0 x11_1).f0) = 1
        ·rw [if_pos c9] at H
         have c9b0 : (((rd_T45 l0 x11_1).f0) == 1) = true := beq_iff_eq.mpr c9
         have c9b1 : (((rd_T45 l0 x11_1).f0) != 1) = false := bne_eq_false_iff_eq.mpr c9
         clear c9
         replace H := Option.bind_eq_some_iff.mp H
         obtain ⟨t241, A100, H⟩ := H
         replace H : (if t241 = true then (if ((rd_T45 l0 x11_1).f2) = 0 then (if ((rd_T45 l0 x11_1).f3) = 0 then (impl_IsPlay.l0 k1 l0 l0 (l0.length : Int) (wrap64 (x11_1 + 1))) else (some false)) else (some false)) else (some false)) = some r := H
         have A10 := Aside0.mk A100
         clear A100
         by_cases c11 : t241 = true
         ·subst c11
          have H1 : (if ((rd_T45 l0 x11_1).f2) = 0 then (if ((rd_T45 l0 x11_1).f3) = 0 then (impl_IsPlay.l0 k1 l0 l0 (l0.length : Int) (wrap64 (x11_1 + 1))) else (some false)) else (some false)) = some r := by rw [if_pos rfl] at H; exact H
          clear H
          have H := H1
          clear H1
          by_cases c12 : ((rd_T45 l0 x11_1).f2) = 0
          ·rw [if_pos c12] at H
           have c12b0 : (((rd_T45 l0 x11_1).f2) == 0) = true := beq_iff_eq.mpr c12
           have c12b1 : (((rd_T45 l0 x11_1).f2) != 0) = false := bne_eq_false_iff_eq.mpr c12
           clear c12
           by_cases c13 : ((rd_T45 l0 x11_1).f3) = 0
           ·rw [if_pos c13] at H
            have c13b0 : (((rd_T45 l0 x11_1).f3) == 0) = true := beq_iff_eq.mpr c13
            have c13b1 : (((rd_T45 l0 x11_1).f3) != 0) = false := bne_eq_false_iff_eq.mpr c13
            clear c13
            have H' := Aside0.mk H
            clear H
            have p238 : 0 ≤ (x11_1 : Int) := OD
            have q238 : x11_1 < (l0.length : Int) := OD
            obtain ⟨ad238, e238, hx238_0, hx238_1, hx238_2, hx238_3⟩ := at_T45 HR0.out x11_1 p238 q238
            cases e238
            replace hx238_0 := (HB.out.cell (World.block_lt_of_cell? w _ hx238_0)).trans hx238_0
            replace hx238_1 := (HB.out.cell (World.block_lt_of_cell? w _ hx238_1)).trans hx238_1
            replace hx238_2 := (HB.out.cell (World.block_lt_of_cell? w _ hx238_2)).trans hx238_2
            replace hx238_3 := (HB.out.cell (World.block_lt_of_cell? w _ hx238_3)).trans hx238_3
            replace p238 := eq_true p238
            replace q238 := eq_true q238
            go_wp2_with (first | ((with_reducible refine gate_dst (N := 4) rfl ?_); refine box_ev (N := 4) (cs := #[.int .i64 0, .string (⟨#[]⟩ : ByteArray), .int .i64 0, .int .i64 0]) (t := 45) ?_; intro gb239 hg w14 hbox hb; have n0_ := Aside0.mk (below_step BL hb); have n1_ := Aside0.mk (hbox); have n2_ := SZ (w := w) hg; have n3_ := SZ (w := w) hg; clear HB; have HB := n0_; have BK239 := n1_; have GW239 := n2_; have GE239 := n3_; clear n0_ n1_ n2_ n3_; clear hb hbox hg; obtain ⟨hcz15_0, hcz15_1, hcz15_2, hcz15_3, hfz15_0, hfz15_1, hfz15_2, hfz15_3⟩ := cz4 BK239.out) | ((with_reducible refine gate_callee (f := 40) rfl ?_); refine goesS (some 18) Tryd.func40 #[.int .i64 ((rd_T45 l0 x11_1).f0), .int .i64 1, .int .i64 9] ?_; (with_reducible refine (impl_InRange.calls ((rd_T45 l0 x11_1).f0) 1 9 true _ A7.out).mono ?_); rintro e w' ⟨rfl, ⟨nd, rfl⟩⟩; refine ⟨_, rfl, ?_⟩) | ((with_reducible refine gate_callee (f := 28) rfl ?_); refine goesS (some 25) Tryd.func28 #[.string ((rd_T45 l0 x11_1).f1)] ?_; (with_reducible refine (impl_IsWord.calls k1 ((rd_T45 l0 x11_1).f1) true _ A10.out).mono ?_); rintro e w' ⟨rfl, ⟨nd, rfl⟩⟩; refine ⟨_, rfl, ?_⟩))
            go_roundg k1
            case measure => have := HK1.out; omega
            case rel => exact ⟨(wrap64 (x11_1 + 1)), EQ, H', ⟨by have := HK1.out; omega⟩, ⟨BL⟩⟩
           ·rw [if_neg c13] at H
            have c13b0 : (((rd_T45 l0 x11_1).f3) == 0) = false := beq_eq_false_iff_ne.mpr c13
            have c13b1 : (((rd_T45 l0 x11_1).f3) != 0) = true := bne_iff_ne.mpr c13
            obtain rfl := Option.some.inj H
            have p238 : 0 ≤ (x11_1 : Int) := OD
            have q238 : x11_1 < (l0.length : Int) := OD
            obtain ⟨ad238, e238, hx238_0, hx238_1, hx238_2, hx238_3⟩ := at_T45 HR0.out x11_1 p238 q238
            cases e238
            replace hx238_0 := (HB.out.cell (World.block_lt_of_cell? w _ hx238_0)).trans hx238_0
            replace hx238_1 := (HB.out.cell (World.block_lt_of_cell? w _ hx238_1)).trans hx238_1
            replace hx238_2 := (HB.out.cell (World.block_lt_of_cell? w _ hx238_2)).trans hx238_2
            replace hx238_3 := (HB.out.cell (World.block_lt_of_cell? w _ hx238_3)).trans hx238_3
            replace p238 := eq_true p238
            replace q238 := eq_true q238
            go_wp2_with (first | ((with_reducible refine gate_dst (N := 4) rfl ?_); refine box_ev (N := 4) (cs := #[.int .i64 0, .string (⟨#[]⟩ : ByteArray), .int .i64 0, .int .i64 0]) (t := 45) ?_; intro gb239 hg w16 hbox hb; have n0_ := Aside0.mk (below_step BL hb); have n1_ := Aside0.mk (hbox); have n2_ := SZ (w := w) hg; have n3_ := SZ (w := w) hg; clear HB; have HB := n0_; have BK239 := n1_; have GW239 := n2_; have GE239 := n3_; clear n0_ n1_ n2_ n3_; clear hb hbox hg; obtain ⟨hcz17_0, hcz17_1, hcz17_2, hcz17_3, hfz17_0, hfz17_1, hfz17_2, hfz17_3⟩ := cz4 BK239.out) | ((with_reducible refine gate_callee (f := 40) rfl ?_); refine goesS (some 18) Tryd.func40 #[.int .i64 ((rd_T45 l0 x11_1).f0), .int .i64 1, .int .i64 9] ?_; (with_reducible refine (impl_InRange.calls ((rd_T45 l0 x11_1).f0) 1 9 true _ A7.out).mono ?_); rintro e w' ⟨rfl, ⟨nd, rfl⟩⟩; refine ⟨_, rfl, ?_⟩) | ((with_reducible refine gate_callee (f := 28) rfl ?_); refine goesS (some 25) Tryd.func28 #[.string ((rd_T45 l0 x11_1).f1)] ?_; (with_reducible refine (impl_IsWord.calls k1 ((rd_T45 l0 x11_1).f1) true _ A10.out).mono ?_); rintro e w' ⟨rfl, ⟨nd, rfl⟩⟩; refine ⟨_, rfl, ?_⟩))
            go_ret
            exact ⟨by first | rfl | (simp [errW_none, errW_some] <;> rfl) | (simp [*, errW_none, errW_some] <;> rfl), BL⟩
          ·rw [if_neg c12] at H
           have c12b0 : (((rd_T45 l0 x11_1).f2) == 0) = false := beq_eq_false_iff_ne.mpr c12
           have c12b1 : (((rd_T45 l0 x11_1).f2) != 0) = true := bne_iff_ne.mpr c12
           obtain rfl := Option.some.inj H
           have p238 : 0 ≤ (x11_1 : Int) := OD
           have q238 : x11_1 < (l0.length : Int) := OD
           obtain ⟨ad238, e238, hx238_0, hx238_1, hx238_2, hx238_3⟩ := at_T45 HR0.out x11_1 p238 q238
           cases e238
           replace hx238_0 := (HB.out.cell (World.block_lt_of_cell? w _ hx238_0)).trans hx238_0
           replace hx238_1 := (HB.out.cell (World.block_lt_of_cell? w _ hx238_1)).trans hx238_1
           replace hx238_2 := (HB.out.cell (World.block_lt_of_cell? w _ hx238_2)).trans hx238_2
           replace hx238_3 := (HB.out.cell (World.block_lt_of_cell? w _ hx238_3)).trans hx238_3
           replace p238 := eq_true p238
           replace q238 := eq_true q238
           go_wp2_with (first | ((with_reducible refine gate_dst (N := 4) rfl ?_); refine box_ev (N := 4) (cs := #[.int .i64 0, .string (⟨#[]⟩ : ByteArray), .int .i64 0, .int .i64 0]) (t := 45) ?_; intro gb239 hg w18 hbox hb; have n0_ := Aside0.mk (below_step BL hb); have n1_ := Aside0.mk (hbox); have n2_ := SZ (w := w) hg; have n3_ := SZ (w := w) hg; clear HB; have HB := n0_; have BK239 := n1_; have GW239 := n2_; have GE239 := n3_; clear n0_ n1_ n2_ n3_; clear hb hbox hg; obtain ⟨hcz19_0, hcz19_1, hcz19_2, hcz19_3, hfz19_0, hfz19_1, hfz19_2, hfz19_3⟩ := cz4 BK239.out) | ((with_reducible refine gate_callee (f := 40) rfl ?_); refine goesS (some 18) Tryd.func40 #[.int .i64 ((rd_T45 l0 x11_1).f0), .int .i64 1, .int .i64 9] ?_; (with_reducible refine (impl_InRange.calls ((rd_T45 l0 x11_1).f0) 1 9 true _ A7.out).mono ?_); rintro e w' ⟨rfl, ⟨nd, rfl⟩⟩; refine ⟨_, rfl, ?_⟩) | ((with_reducible refine gate_callee (f := 28) rfl ?_); refine goesS (some 25) Tryd.func28 #[.string ((rd_T45 l0 x11_1).f1)] ?_; (with_reducible refine (impl_IsWord.calls k1 ((rd_T45 l0 x11_1).f1) true _ A10.out).mono ?_); rintro e w' ⟨rfl, ⟨nd, rfl⟩⟩; refine ⟨_, rfl, ?_⟩))
           go_ret
           exact ⟨by first | rfl | (simp [errW_none, errW_some] <;> rfl) | (simp [*, errW_none, errW_some] <;> rfl), BL⟩
         ·replace c11 := Bool.eq_false_iff.mpr c11
          subst c11
          have H1 : (some false) = some r := by rw [if_neg (show ¬ (false = true) by decide)] at H; exact H
          clear H
          have H := H1
          clear H1
          obtain rfl := Option.some.inj H
          have p238 : 0 ≤ (x11_1 : Int) := OD
          have q238 : x11_1 < (l0.length : Int) := OD
          obtain ⟨ad238, e238, hx238_0, hx238_1, hx238_2, hx238_3⟩ := at_T45 HR0.out x11_1 p238 q238
          cases e238
          replace hx238_0 := (HB.out.cell (World.block_lt_of_cell? w _ hx238_0)).trans hx238_0
          replace hx238_1 := (HB.out.cell (World.block_lt_of_cell? w _ hx238_1)).trans hx238_1
          replace hx238_2 := (HB.out.cell (World.block_lt_of_cell? w _ hx238_2)).trans hx238_2
          replace hx238_3 := (HB.out.cell (World.block_lt_of_cell? w _ hx238_3)).trans hx238_3
          replace p238 := eq_true p238
          replace q238 := eq_true q238
          go_wp2_with (first | ((with_reducible refine gate_dst (N := 4) rfl ?_); refine box_ev (N := 4) (cs := #[.int .i64 0, .string (⟨#[]⟩ : ByteArray), .int .i64 0, .int .i64 0]) (t := 45) ?_; intro gb239 hg w20 hbox hb; have n0_ := Aside0.mk (below_step BL hb); have n1_ := Aside0.mk (hbox); have n2_ := SZ (w := w) hg; have n3_ := SZ (w := w) hg; clear HB; have HB := n0_; have BK239 := n1_; have GW239 := n2_; have GE239 := n3_; clear n0_ n1_ n2_ n3_; clear hb hbox hg; obtain ⟨hcz21_0, hcz21_1, hcz21_2, hcz21_3, hfz21_0, hfz21_1, hfz21_2, hfz21_3⟩ := cz4 BK239.out) | ((with_reducible refine gate_callee (f := 40) rfl ?_); refine goesS (some 18) Tryd.func40 #[.int .i64 ((rd_T45 l0 x11_1).f0), .int .i64 1, .int .i64 9] ?_; (with_reducible refine (impl_InRange.calls ((rd_T45 l0 x11_1).f0) 1 9 true _ A7.out).mono ?_); rintro e w' ⟨rfl, ⟨nd, rfl⟩⟩; refine ⟨_, rfl, ?_⟩) | ((with_reducible refine gate_callee (f := 28) rfl ?_); refine goesS (some 25) Tryd.func28 #[.string ((rd_T45 l0 x11_1).f1)] ?_; (with_reducible refine (impl_IsWord.calls k1 ((rd_T45 l0 x11_1).f1) false _ A10.out).mono ?_); rintro e w' ⟨rfl, ⟨nd, rfl⟩⟩; refine ⟨_, rfl, ?_⟩))
          go_ret
          exact ⟨by first | rfl | (simp [errW_none, errW_some] <;> rfl) | (simp [*, errW_none, errW_some] <;> rfl), BL⟩
        ·rw [if_neg c9] at H
         have c9b0 : (((rd_T45 l0 x11_1).f0) == 1) = false := beq_eq_false_iff_ne.mpr c9
         have c9b1 : (((rd_T45 l0 x11_1).f0) != 1) = true := bne_iff_ne.mpr c9
         have HC22 := Aside0.mk H
         clear H
         have p238 : 0 ≤ (x11_1 : Int) := OD
         have q238 : x11_1 < (l0.length : Int) := OD
         obtain ⟨ad238, e238, hx238_0, hx238_1, hx238_2, hx238_3⟩ := at_T45 HR0.out x11_1 p238 q238
         cases e238
         replace hx238_0 := (HB.out.cell (World.block_lt_of_cell? w _ hx238_0)).trans hx238_0
         replace hx238_1 := (HB.out.cell (World.block_lt_of_cell? w _ hx238_1)).trans hx238_1
         replace hx238_2 := (HB.out.cell (World.block_lt_of_cell? w _ hx238_2)).trans hx238_2
         replace hx238_3 := (HB.out.cell (World.block_lt_of_cell? w _ hx238_3)).trans hx238_3
         replace p238 := eq_true p238
         replace q238 := eq_true q238
         go_upto_region 11 with (first | ((with_reducible refine gate_dst (N := 4) rfl ?_); refine box_ev (N := 4) (cs := #[.int .i64 0, .string (⟨#[]⟩ : ByteArray), .int .i64 0, .int .i64 0]) (t := 45) ?_; intro gb239 hg w23 hbox hb; have n0_ := Aside0.mk (below_step BL hb); have n1_ := Aside0.mk (hbox); have n2_ := SZ (w := w) hg; have n3_ := SZ (w := w) hg; clear HB; have HB := n0_; have BK239 := n1_; have GW239 := n2_; have GE239 := n3_; clear n0_ n1_ n2_ n3_; clear hb hbox hg; obtain ⟨hcz24_0, hcz24_1, hcz24_2, hcz24_3, hfz24_0, hfz24_1, hfz24_2, hfz24_3⟩ := cz4 BK239.out) | ((with_reducible refine gate_callee (f := 40) rfl ?_); refine goesS (some 18) Tryd.func40 #[.int .i64 ((rd_T45 l0 x11_1).f0), .int .i64 1, .int .i64 9] ?_; (with_reducible refine (impl_InRange.calls ((rd_T45 l0 x11_1).f0) 1 9 true _ A7.out).mono ?_); rintro e w' ⟨rfl, ⟨nd, rfl⟩⟩; refine ⟨_, rfl, ?_⟩))
         (try simp only [Act.put, List.setIfInBounds_toArray, List.set_cons_zero, List.set_cons_succ])
         go_cut [60] (fun v60 wc => ∃ (kq : Nat) (x60_21 : Bool), v60 = .bool x60_21 ∧ Aside0 (impl_IsPlay.j1 kq l0 x11_1 l0 (l0.length : Int) x11_1 x60_21 ((rd_T45 l0 x11_1).f0) ((rd_T45 l0 x11_1).f1) ((rd_T45 l0 x11_1).f2) ((rd_T45 l0 x11_1).f3) = some r) ∧ Aside0 (kq ≤ k1) ∧ Aside0 (wc.heap[gb239]? = some (.cells #[.int .i64 ((rd_T45 l0 x11_1).f0), .string ((rd_T45 l0 x11_1).f1), .int .i64 ((rd_T45 l0 x11_1).f2), .int .i64 ((rd_T45 l0 x11_1).f3)] 45 (0, 0))) ∧ Aside0 (Below w.heap.size w wc))
         case first =>
          have H := HC22.out
          clear HC22
          by_cases c25 : ((rd_T45 l0 x11_1).f1).toList = ([] : List UInt8)
          ·rw [if_pos c25] at H
           have c25b0 : (((rd_T45 l0 x11_1).f1).toList == ([] : List UInt8)) = true := beq_iff_eq.mpr c25
           have c25b1 : (((rd_T45 l0 x11_1).f1).toList != ([] : List UInt8)) = false := bne_eq_false_iff_eq.mpr c25
           clear c25
           (first | rw [c25b0] | (simp only [i64_w, i32_w]; rw [c25b0]) | skip)
           replace H := Option.bind_eq_some_iff.mp H
           obtain ⟨t242, A260, H⟩ := H
           replace H : (if t242 = true then ((impl_needsWord.f ((rd_T45 l0 x11_1).f0)).bind fun t243 => (if t243 = true then (if 0 ≤ ((rd_T45 l0 x11_1).f2) then (if ((rd_T45 l0 x11_1).f2) < (l0.length : Int) then (impl_IsPlay.j1 k1 l0 x11_1 l0 (l0.length : Int) x11_1 (((rd_T45 l0 ((rd_T45 l0 x11_1).f2)).f0) != 1) ((rd_T45 l0 x11_1).f0) ((rd_T45 l0 x11_1).f1) ((rd_T45 l0 x11_1).f2) ((rd_T45 l0 x11_1).f3)) else (none)) else (none)) else (impl_IsPlay.j1 k1 l0 x11_1 l0 (l0.length : Int) x11_1 false ((rd_T45 l0 x11_1).f0) ((rd_T45 l0 x11_1).f1) ((rd_T45 l0 x11_1).f2) ((rd_T45 l0 x11_1).f3)))) else (impl_IsPlay.j1 k1 l0 x11_1 l0 (l0.length : Int) x11_1 true ((rd_T45 l0 x11_1).f0) ((rd_T45 l0 x11_1).f1) ((rd_T45 l0 x11_1).f2) ((rd_T45 l0 x11_1).f3))) = some r := H
           have A26 := Aside0.mk A260
           clear A260
           by_cases c27 : t242 = true
           ·subst c27
            have H1 : ((impl_needsWord.f ((rd_T45 l0 x11_1).f0)).bind fun t243 => (if t243 = true then (if 0 ≤ ((rd_T45 l0 x11_1).f2) then (if ((rd_T45 l0 x11_1).f2) < (l0.length : Int) then (impl_IsPlay.j1 k1 l0 x11_1 l0 (l0.length : Int) x11_1 (((rd_T45 l0 ((rd_T45 l0 x11_1).f2)).f0) != 1) ((rd_T45 l0 x11_1).f0) ((rd_T45 l0 x11_1).f1) ((rd_T45 l0 x11_1).f2) ((rd_T45 l0 x11_1).f3)) else (none)) else (none)) else (impl_IsPlay.j1 k1 l0 x11_1 l0 (l0.length : Int) x11_1 false ((rd_T45 l0 x11_1).f0) ((rd_T45 l0 x11_1).f1) ((rd_T45 l0 x11_1).f2) ((rd_T45 l0 x11_1).f3)))) = some r := by rw [if_pos rfl] at H; exact H
            clear H
            have H := H1
            clear H1
            replace H := Option.bind_eq_some_iff.mp H
            obtain ⟨t243, A280, H⟩ := H
            replace H : (if t243 = true then (if 0 ≤ ((rd_T45 l0 x11_1).f2) then (if ((rd_T45 l0 x11_1).f2) < (l0.length : Int) then (impl_IsPlay.j1 k1 l0 x11_1 l0 (l0.length : Int) x11_1 (((rd_T45 l0 ((rd_T45 l0 x11_1).f2)).f0) != 1) ((rd_T45 l0 x11_1).f0) ((rd_T45 l0 x11_1).f1) ((rd_T45 l0 x11_1).f2) ((rd_T45 l0 x11_1).f3)) else (none)) else (none)) else (impl_IsPlay.j1 k1 l0 x11_1 l0 (l0.length : Int) x11_1 false ((rd_T45 l0 x11_1).f0) ((rd_T45 l0 x11_1).f1) ((rd_T45 l0 x11_1).f2) ((rd_T45 l0 x11_1).f3))) = some r := H
            have A28 := Aside0.mk A280
            clear A280
            by_cases c29 : t243 = true
            ·subst c29
             have H1 : (if 0 ≤ ((rd_T45 l0 x11_1).f2) then (if ((rd_T45 l0 x11_1).f2) < (l0.length : Int) then (impl_IsPlay.j1 k1 l0 x11_1 l0 (l0.length : Int) x11_1 (((rd_T45 l0 ((rd_T45 l0 x11_1).f2)).f0) != 1) ((rd_T45 l0 x11_1).f0) ((rd_T45 l0 x11_1).f1) ((rd_T45 l0 x11_1).f2) ((rd_T45 l0 x11_1).f3)) else (none)) else (none)) = some r := by rw [if_pos rfl] at H; exact H
             clear H
             have H := H1
             clear H1
             by_cases c30 : 0 ≤ ((rd_T45 l0 x11_1).f2)
             ·rw [if_pos c30] at H
              have c30b0 : decide (0 ≤ ((rd_T45 l0 x11_1).f2)) = true := decide_eq_true c30
              clear c30
              by_cases c31 : ((rd_T45 l0 x11_1).f2) < (l0.length : Int)
              ·rw [if_pos c31] at H
               have c31b0 : decide (((rd_T45 l0 x11_1).f2) < (l0.length : Int)) = true := decide_eq_true c31
               clear c31
               have H' := Aside0.mk H
               clear H
               obtain ⟨hcz32_0, hcz32_1, hcz32_2, hcz32_3, hfz32_0, hfz32_1, hfz32_2, hfz32_3⟩ := cz4 BK239.out
               go_wp2_with (first | (go_at_call 46; (with_reducible refine (impl_at.calls ((rd_T45 l0 x11_1).f2) x11_1 true _ A26.out).mono ?_); rintro e w' ⟨rfl, ⟨nd, rfl⟩⟩) | (go_at_call 50; (with_reducible refine (impl_needsWord.calls ((rd_T45 l0 x11_1).f0) true _ A28.out).mono ?_); rintro e w' ⟨rfl, ⟨nd, rfl⟩⟩; have p244 : 0 ≤ (((rd_T45 l0 x11_1).f2) : Int) := OD; have q244 : ((rd_T45 l0 x11_1).f2) < (l0.length : Int) := OD; obtain ⟨ad244, e244, hx244_0, hx244_1, hx244_2, hx244_3⟩ := at_T45 HR0.out ((rd_T45 l0 x11_1).f2) p244 q244; obtain rfl : ad238 = ad244 := (by injection e244); have hn244_0 : ad238.block ≠ gb239 := Nat.ne_of_lt (Nat.lt_of_lt_of_le (by have := World.block_lt_of_cell? _ _ hx244_0; first | rwa [add_block] at this | exact this) GW239.out); have hn244_1 : ad238.block ≠ gb239 := Nat.ne_of_lt (Nat.lt_of_lt_of_le (by have := World.block_lt_of_cell? _ _ hx244_0; first | rwa [add_block] at this | exact this) GW239.out); have hn244_2 : ad238.block ≠ gb239 := Nat.ne_of_lt (Nat.lt_of_lt_of_le (by have := World.block_lt_of_cell? _ _ hx244_0; first | rwa [add_block] at this | exact this) GW239.out); have hn244_3 : ad238.block ≠ gb239 := Nat.ne_of_lt (Nat.lt_of_lt_of_le (by have := World.block_lt_of_cell? _ _ hx244_0; first | rwa [add_block] at this | exact this) GW239.out); replace hx244_0 := (HB.out.cell (World.block_lt_of_cell? w _ hx244_0)).trans hx244_0; replace hx244_1 := (HB.out.cell (World.block_lt_of_cell? w _ hx244_1)).trans hx244_1; replace hx244_2 := (HB.out.cell (World.block_lt_of_cell? w _ hx244_2)).trans hx244_2; replace hx244_3 := (HB.out.cell (World.block_lt_of_cell? w _ hx244_3)).trans hx244_3; replace hx244_0 := (cell_far (p := ⟨gb239, 0, none⟩) (by first | (rw [add_block]; exact hn244_0) | (show (Addr.add _ _).block ≠ _; rw [add_block]; exact hn244_0) | exact hn244_0) (.int .i64 ((rd_T45 l0 x11_1).f0))).trans hx244_0; replace hx244_1 := (cell_far (p := ⟨gb239, 0, none⟩) (by first | (rw [add_block]; exact hn244_0) | (show (Addr.add _ _).block ≠ _; rw [add_block]; exact hn244_0) | exact hn244_0) (.int .i64 ((rd_T45 l0 x11_1).f0))).trans hx244_1; replace hx244_2 := (cell_far (p := ⟨gb239, 0, none⟩) (by first | (rw [add_block]; exact hn244_0) | (show (Addr.add _ _).block ≠ _; rw [add_block]; exact hn244_0) | exact hn244_0) (.int .i64 ((rd_T45 l0 x11_1).f0))).trans hx244_2; replace hx244_3 := (cell_far (p := ⟨gb239, 0, none⟩) (by first | (rw [add_block]; exact hn244_0) | (show (Addr.add _ _).block ≠ _; rw [add_block]; exact hn244_0) | exact hn244_0) (.int .i64 ((rd_T45 l0 x11_1).f0))).trans hx244_3; replace hx244_0 := (cell_far (p := ⟨gb239, 1, none⟩) (by first | (rw [add_block]; exact hn244_1) | (show (Addr.add _ _).block ≠ _; rw [add_block]; exact hn244_1) | exact hn244_1) (.string ((rd_T45 l0 x11_1).f1))).trans hx244_0; replace hx244_1 := (cell_far (p := ⟨gb239, 1, none⟩) (by first | (rw [add_block]; exact hn244_1) | (show (Addr.add _ _).block ≠ _; rw [add_block]; exact hn244_1) | exact hn244_1) (.string ((rd_T45 l0 x11_1).f1))).trans hx244_1; replace hx244_2 := (cell_far (p := ⟨gb239, 1, none⟩) (by first | (rw [add_block]; exact hn244_1) | (show (Addr.add _ _).block ≠ _; rw [add_block]; exact hn244_1) | exact hn244_1) (.string ((rd_T45 l0 x11_1).f1))).trans hx244_2; replace hx244_3 := (cell_far (p := ⟨gb239, 1, none⟩) (by first | (rw [add_block]; exact hn244_1) | (show (Addr.add _ _).block ≠ _; rw [add_block]; exact hn244_1) | exact hn244_1) (.string ((rd_T45 l0 x11_1).f1))).trans hx244_3; replace hx244_0 := (cell_far (p := ⟨gb239, 2, none⟩) (by first | (rw [add_block]; exact hn244_2) | (show (Addr.add _ _).block ≠ _; rw [add_block]; exact hn244_2) | exact hn244_2) (.int .i64 ((rd_T45 l0 x11_1).f2))).trans hx244_0; replace hx244_1 := (cell_far (p := ⟨gb239, 2, none⟩) (by first | (rw [add_block]; exact hn244_2) | (show (Addr.add _ _).block ≠ _; rw [add_block]; exact hn244_2) | exact hn244_2) (.int .i64 ((rd_T45 l0 x11_1).f2))).trans hx244_1; replace hx244_2 := (cell_far (p := ⟨gb239, 2, none⟩) (by first | (rw [add_block]; exact hn244_2) | (show (Addr.add _ _).block ≠ _; rw [add_block]; exact hn244_2) | exact hn244_2) (.int .i64 ((rd_T45 l0 x11_1).f2))).trans hx244_2; replace hx244_3 := (cell_far (p := ⟨gb239, 2, none⟩) (by first | (rw [add_block]; exact hn244_2) | (show (Addr.add _ _).block ≠ _; rw [add_block]; exact hn244_2) | exact hn244_2) (.int .i64 ((rd_T45 l0 x11_1).f2))).trans hx244_3; replace hx244_0 := (cell_far (p := ⟨gb239, 3, none⟩) (by first | (rw [add_block]; exact hn244_3) | (show (Addr.add _ _).block ≠ _; rw [add_block]; exact hn244_3) | exact hn244_3) (.int .i64 ((rd_T45 l0 x11_1).f3))).trans hx244_0; replace hx244_1 := (cell_far (p := ⟨gb239, 3, none⟩) (by first | (rw [add_block]; exact hn244_3) | (show (Addr.add _ _).block ≠ _; rw [add_block]; exact hn244_3) | exact hn244_3) (.int .i64 ((rd_T45 l0 x11_1).f3))).trans hx244_1; replace hx244_2 := (cell_far (p := ⟨gb239, 3, none⟩) (by first | (rw [add_block]; exact hn244_3) | (show (Addr.add _ _).block ≠ _; rw [add_block]; exact hn244_3) | exact hn244_3) (.int .i64 ((rd_T45 l0 x11_1).f3))).trans hx244_2; replace hx244_3 := (cell_far (p := ⟨gb239, 3, none⟩) (by first | (rw [add_block]; exact hn244_3) | (show (Addr.add _ _).block ≠ _; rw [add_block]; exact hn244_3) | exact hn244_3) (.int .i64 ((rd_T45 l0 x11_1).f3))).trans hx244_3; clear hn244_0 hn244_1 hn244_2 hn244_3; replace p244 := eq_true p244; replace q244 := eq_true q244))
               go_meet
               case rel => exact ⟨_, ((((rd_T45 l0 ((rd_T45 l0 x11_1).f2)).f0) != 1)), EQ, H', ⟨by have := HK1.out; first | omega | exact Nat.le_refl _⟩, ⟨by (with_reducible repeat (first | refine blk_drewN ?_ _ | refine blk_drew ?_ | refine blk_alloc ?_ _)); refine blk_put (cs := #[.int .i64 ((rd_T45 l0 x11_1).f0), .string ((rd_T45 l0 x11_1).f1), .int .i64 ((rd_T45 l0 x11_1).f2), .int .i64 0]) ?_ 3 _ rfl; (with_reducible repeat (first | refine blk_drewN ?_ _ | refine blk_drew ?_ | refine blk_alloc ?_ _)); refine blk_put (cs := #[.int .i64 ((rd_T45 l0 x11_1).f0), .string ((rd_T45 l0 x11_1).f1), .int .i64 0, .int .i64 0]) ?_ 2 _ rfl; (with_reducible repeat (first | refine blk_drewN ?_ _ | refine blk_drew ?_ | refine blk_alloc ?_ _)); refine blk_put (cs := #[.int .i64 ((rd_T45 l0 x11_1).f0), .string (⟨#[]⟩ : ByteArray), .int .i64 0, .int .i64 0]) ?_ 1 _ rfl; (with_reducible repeat (first | refine blk_drewN ?_ _ | refine blk_drew ?_ | refine blk_alloc ?_ _)); refine blk_put (cs := #[.int .i64 0, .string (⟨#[]⟩ : ByteArray), .int .i64 0, .int .i64 0]) ?_ 0 _ rfl; (with_reducible repeat (first | refine blk_drewN ?_ _ | refine blk_drew ?_ | refine blk_alloc ?_ _)); exact BK239.out⟩, ⟨BL⟩⟩
              ·rw [if_neg c31] at H
               exact absurd H (by simp)
             ·rw [if_neg c30] at H
              exact absurd H (by simp)
            ·replace c29 := Bool.eq_false_iff.mpr c29
             subst c29
             have H1 : (impl_IsPlay.j1 k1 l0 x11_1 l0 (l0.length : Int) x11_1 false ((rd_T45 l0 x11_1).f0) ((rd_T45 l0 x11_1).f1) ((rd_T45 l0 x11_1).f2) ((rd_T45 l0 x11_1).f3)) = some r := by rw [if_neg (show ¬ (false = true) by decide)] at H; exact H
             clear H
             have H := H1
             clear H1
             have H' := Aside0.mk H
             clear H
             obtain ⟨hcz33_0, hcz33_1, hcz33_2, hcz33_3, hfz33_0, hfz33_1, hfz33_2, hfz33_3⟩ := cz4 BK239.out
             go_wp2_with (first | (go_at_call 46; (with_reducible refine (impl_at.calls ((rd_T45 l0 x11_1).f2) x11_1 true _ A26.out).mono ?_); rintro e w' ⟨rfl, ⟨nd, rfl⟩⟩) | (go_at_call 50; (with_reducible refine (impl_needsWord.calls ((rd_T45 l0 x11_1).f0) false _ A28.out).mono ?_); rintro e w' ⟨rfl, ⟨nd, rfl⟩⟩))
             go_meet
             case rel => exact ⟨_, (false), EQ, H', ⟨by have := HK1.out; first | omega | exact Nat.le_refl _⟩, ⟨by (with_reducible repeat (first | refine blk_drewN ?_ _ | refine blk_drew ?_ | refine blk_alloc ?_ _)); refine blk_put (cs := #[.int .i64 ((rd_T45 l0 x11_1).f0), .string ((rd_T45 l0 x11_1).f1), .int .i64 ((rd_T45 l0 x11_1).f2), .int .i64 0]) ?_ 3 _ rfl; (with_reducible repeat (first | refine blk_drewN ?_ _ | refine blk_drew ?_ | refine blk_alloc ?_ _)); refine blk_put (cs := #[.int .i64 ((rd_T45 l0 x11_1).f0), .string ((rd_T45 l0 x11_1).f1), .int .i64 0, .int .i64 0]) ?_ 2 _ rfl; (with_reducible repeat (first | refine blk_drewN ?_ _ | refine blk_drew ?_ | refine blk_alloc ?_ _)); refine blk_put (cs := #[.int .i64 ((rd_T45 l0 x11_1).f0), .string (⟨#[]⟩ : ByteArray), .int .i64 0, .int .i64 0]) ?_ 1 _ rfl; (with_reducible repeat (first | refine blk_drewN ?_ _ | refine blk_drew ?_ | refine blk_alloc ?_ _)); refine blk_put (cs := #[.int .i64 0, .string (⟨#[]⟩ : ByteArray), .int .i64 0, .int .i64 0]) ?_ 0 _ rfl; (with_reducible repeat (first | refine blk_drewN ?_ _ | refine blk_drew ?_ | refine blk_alloc ?_ _)); exact BK239.out⟩, ⟨BL⟩⟩
           ·replace c27 := Bool.eq_false_iff.mpr c27
            subst c27
            have H1 : (impl_IsPlay.j1 k1 l0 x11_1 l0 (l0.length : Int) x11_1 true ((rd_T45 l0 x11_1).f0) ((rd_T45 l0 x11_1).f1) ((rd_T45 l0 x11_1).f2) ((rd_T45 l0 x11_1).f3)) = some r := by rw [if_neg (show ¬ (false = true) by decide)] at H; exact H
            clear H
            have H := H1
            clear H1
            have H' := Aside0.mk H
            clear H
            obtain ⟨hcz34_0, hcz34_1, hcz34_2, hcz34_3, hfz34_0, hfz34_1, hfz34_2, hfz34_3⟩ := cz4 BK239.out
            go_wp2_with (first | (go_at_call 46; (with_reducible refine (impl_at.calls ((rd_T45 l0 x11_1).f2) x11_1 false _ A26.out).mono ?_); rintro e w' ⟨rfl, ⟨nd, rfl⟩⟩))
            go_meet
            case rel => exact ⟨_, (true), EQ, H', ⟨by have := HK1.out; first | omega | exact Nat.le_refl _⟩, ⟨by (with_reducible repeat (first | refine blk_drewN ?_ _ | refine blk_drew ?_ | refine blk_alloc ?_ _)); refine blk_put (cs := #[.int .i64 ((rd_T45 l0 x11_1).f0), .string ((rd_T45 l0 x11_1).f1), .int .i64 ((rd_T45 l0 x11_1).f2), .int .i64 0]) ?_ 3 _ rfl; (with_reducible repeat (first | refine blk_drewN ?_ _ | refine blk_drew ?_ | refine blk_alloc ?_ _)); refine blk_put (cs := #[.int .i64 ((rd_T45 l0 x11_1).f0), .string ((rd_T45 l0 x11_1).f1), .int .i64 0, .int .i64 0]) ?_ 2 _ rfl; (with_reducible repeat (first | refine blk_drewN ?_ _ | refine blk_drew ?_ | refine blk_alloc ?_ _)); refine blk_put (cs := #[.int .i64 ((rd_T45 l0 x11_1).f0), .string (⟨#[]⟩ : ByteArray), .int .i64 0, .int .i64 0]) ?_ 1 _ rfl; (with_reducible repeat (first | refine blk_drewN ?_ _ | refine blk_drew ?_ | refine blk_alloc ?_ _)); refine blk_put (cs := #[.int .i64 0, .string (⟨#[]⟩ : ByteArray), .int .i64 0, .int .i64 0]) ?_ 0 _ rfl; (with_reducible repeat (first | refine blk_drewN ?_ _ | refine blk_drew ?_ | refine blk_alloc ?_ _)); exact BK239.out⟩, ⟨BL⟩⟩
          ·rw [if_neg c25] at H
           have c25b0 : (((rd_T45 l0 x11_1).f1).toList == ([] : List UInt8)) = false := beq_eq_false_iff_ne.mpr c25
           have c25b1 : (((rd_T45 l0 x11_1).f1).toList != ([] : List UInt8)) = true := bne_iff_ne.mpr c25
           (first | rw [c25b0] | (simp only [i64_w, i32_w]; rw [c25b0]) | skip)
           have H' := Aside0.mk H
           clear H
           obtain ⟨hcz35_0, hcz35_1, hcz35_2, hcz35_3, hfz35_0, hfz35_1, hfz35_2, hfz35_3⟩ := cz4 BK239.out
           go_wp2
           go_meet
           case rel => exact ⟨_, (true), EQ, H', ⟨by have := HK1.out; first | omega | exact Nat.le_refl _⟩, ⟨by (with_reducible repeat (first | refine blk_drewN ?_ _ | refine blk_drew ?_ | refine blk_alloc ?_ _)); refine blk_put (cs := #[.int .i64 ((rd_T45 l0 x11_1).f0), .string ((rd_T45 l0 x11_1).f1), .int .i64 ((rd_T45 l0 x11_1).f2), .int .i64 0]) ?_ 3 _ rfl; (with_reducible repeat (first | refine blk_drewN ?_ _ | refine blk_drew ?_ | refine blk_alloc ?_ _)); refine blk_put (cs := #[.int .i64 ((rd_T45 l0 x11_1).f0), .string ((rd_T45 l0 x11_1).f1), .int .i64 0, .int .i64 0]) ?_ 2 _ rfl; (with_reducible repeat (first | refine blk_drewN ?_ _ | refine blk_drew ?_ | refine blk_alloc ?_ _)); refine blk_put (cs := #[.int .i64 ((rd_T45 l0 x11_1).f0), .string (⟨#[]⟩ : ByteArray), .int .i64 0, .int .i64 0]) ?_ 1 _ rfl; (with_reducible repeat (first | refine blk_drewN ?_ _ | refine blk_drew ?_ | refine blk_alloc ?_ _)); refine blk_put (cs := #[.int .i64 0, .string (⟨#[]⟩ : ByteArray), .int .i64 0, .int .i64 0]) ?_ 0 _ rfl; (with_reducible repeat (first | refine blk_drewN ?_ _ | refine blk_drew ?_ | refine blk_alloc ?_ _)); exact BK239.out⟩, ⟨BL⟩⟩
         case rest =>
          clear HC22
          try clear c3
          try clear c4
          try clear c4b0
          try clear c5
          try clear c5b0
          try clear c6
          try clear c6b0
          try clear c8
          try clear c9
          try clear c9b0
          try clear c9b1
          try clear hcz24_0
          try clear hcz24_1
          try clear hcz24_2
          try clear hcz24_3
          try clear hfz24_0
          try clear hfz24_1
          try clear hfz24_2
          try clear hfz24_3
          try clear hx238_0
          try clear hx238_1
          try clear hx238_2
          try clear hx238_3
          try clear p238
          try clear q238
          obtain ⟨kq, x60_21, rfl, HA, HJ21, BK239, HB⟩ := hcut
          cases kq with
          | zero => exact absurd HA.out (by simp [impl_IsPlay.j1])
          | succ kj21 =>
           have H := HA.out
           clear HA
           simp only [impl_IsPlay.j1] at H
           by_cases c36 : x60_21 = true
           ·subst c36
            have H1 : (some false) = some r := by rw [if_pos rfl] at H; exact H
            clear H
            have H := H1
            clear H1
            obtain rfl := Option.some.inj H
            go_wp2
            go_ret
            exact ⟨by first | rfl | (simp [errW_none, errW_some] <;> rfl) | (simp [*, errW_none, errW_some] <;> rfl), BL⟩
           ·replace c36 := Bool.eq_false_iff.mpr c36
            subst c36
            have H1 : ((impl_isPair.f ((rd_T45 l0 x11_1).f0)).bind fun t245 => (if t245 = true then ((impl_at.f ((rd_T45 l0 x11_1).f3) x11_1).bind fun t246 => (if t246 = true then ((impl_isPair.f ((rd_T45 l0 x11_1).f0)).bind fun t247 => (if t247 = true then (impl_IsPlay.l0 kj21 l0 l0 (l0.length : Int) (wrap64 (x11_1 + 1))) else (if ((rd_T45 l0 x11_1).f3) = 0 then (impl_IsPlay.l0 kj21 l0 l0 (l0.length : Int) (wrap64 (x11_1 + 1))) else (some false)))) else (some false))) else ((impl_isPair.f ((rd_T45 l0 x11_1).f0)).bind fun t248 => (if t248 = true then (impl_IsPlay.l0 kj21 l0 l0 (l0.length : Int) (wrap64 (x11_1 + 1))) else (if ((rd_T45 l0 x11_1).f3) = 0 then (impl_IsPlay.l0 kj21 l0 l0 (l0.length : Int) (wrap64 (x11_1 + 1))) else (some false)))))) = some r := by rw [if_neg (show ¬ (false = true) by decide)] at H; exact H
            clear H
            have H := H1
            clear H1
            replace H := Option.bind_eq_some_iff.mp H
            obtain ⟨t245, A370, H⟩ := H
            replace H : (if t245 = true then ((impl_at.f ((rd_T45 l0 x11_1).f3) x11_1).bind fun t246 => (if t246 = true then ((impl_isPair.f ((rd_T45 l0 x11_1).f0)).bind fun t247 => (if t247 = true then (impl_IsPlay.l0 kj21 l0 l0 (l0.length : Int) (wrap64 (x11_1 + 1))) else (if ((rd_T45 l0 x11_1).f3) = 0 then (impl_IsPlay.l0 kj21 l0 l0 (l0.length : Int) (wrap64 (x11_1 + 1))) else (some false)))) else (some false))) else ((impl_isPair.f ((rd_T45 l0 x11_1).f0)).bind fun t248 => (if t248 = true then (impl_IsPlay.l0 kj21 l0 l0 (l0.length : Int) (wrap64 (x11_1 + 1))) else (if ((rd_T45 l0 x11_1).f3) = 0 then (impl_IsPlay.l0 kj21 l0 l0 (l0.length : Int) (wrap64 (x11_1 + 1))) else (some false))))) = some r := H
            have A37 := Aside0.mk A370
            clear A370
            by_cases c38 : t245 = true
            ·subst c38
             have H1 : ((impl_at.f ((rd_T45 l0 x11_1).f3) x11_1).bind fun t246 => (if t246 = true then ((impl_isPair.f ((rd_T45 l0 x11_1).f0)).bind fun t247 => (if t247 = true then (impl_IsPlay.l0 kj21 l0 l0 (l0.length : Int) (wrap64 (x11_1 + 1))) else (if ((rd_T45 l0 x11_1).f3) = 0 then (impl_IsPlay.l0 kj21 l0 l0 (l0.length : Int) (wrap64 (x11_1 + 1))) else (some false)))) else (some false))) = some r := by rw [if_pos rfl] at H; exact H
             clear H
             have H := H1
             clear H1
             replace H := Option.bind_eq_some_iff.mp H
             obtain ⟨t246, A390, H⟩ := H
             replace H : (if t246 = true then ((impl_isPair.f ((rd_T45 l0 x11_1).f0)).bind fun t247 => (if t247 = true then (impl_IsPlay.l0 kj21 l0 l0 (l0.length : Int) (wrap64 (x11_1 + 1))) else (if ((rd_T45 l0 x11_1).f3) = 0 then (impl_IsPlay.l0 kj21 l0 l0 (l0.length : Int) (wrap64 (x11_1 + 1))) else (some false)))) else (some false)) = some r := H
             have A39 := Aside0.mk A390
             clear A390
             by_cases c40 : t246 = true
             ·subst c40
              have H1 : ((impl_isPair.f ((rd_T45 l0 x11_1).f0)).bind fun t247 => (if t247 = true then (impl_IsPlay.l0 kj21 l0 l0 (l0.length : Int) (wrap64 (x11_1 + 1))) else (if ((rd_T45 l0 x11_1).f3) = 0 then (impl_IsPlay.l0 kj21 l0 l0 (l0.length : Int) (wrap64 (x11_1 + 1))) else (some false)))) = some r := by rw [if_pos rfl] at H; exact H
              clear H
              have H := H1
              clear H1
              replace H := Option.bind_eq_some_iff.mp H
              obtain ⟨t247, A410, H⟩ := H
              replace H : (if t247 = true then (impl_IsPlay.l0 kj21 l0 l0 (l0.length : Int) (wrap64 (x11_1 + 1))) else (if ((rd_T45 l0 x11_1).f3) = 0 then (impl_IsPlay.l0 kj21 l0 l0 (l0.length : Int) (wrap64 (x11_1 + 1))) else (some false))) = some r := H
              have A41 := Aside0.mk A410
              clear A410
              by_cases c42 : t247 = true
              ·subst c42
               have H1 : (impl_IsPlay.l0 kj21 l0 l0 (l0.length : Int) (wrap64 (x11_1 + 1))) = some r := by rw [if_pos rfl] at H; exact H
               clear H
               have H := H1
               clear H1
               have H' := Aside0.mk H
               clear H
               obtain ⟨hcz43_0, hcz43_1, hcz43_2, hcz43_3, hfz43_0, hfz43_1, hfz43_2, hfz43_3⟩ := cz4 BK239.out
               go_wp2_with (first | ((with_reducible refine gate_callee (f := 47) rfl ?_); refine goesS (some 63) Tryd.func47 #[.int .i64 ((rd_T45 l0 x11_1).f0)] ?_; (with_reducible refine (impl_isPair.calls ((rd_T45 l0 x11_1).f0) true _ A37.out).mono ?_); rintro e w' ⟨rfl, ⟨nd, rfl⟩⟩; refine ⟨_, rfl, ?_⟩) | (go_at_call 46; (with_reducible refine (impl_at.calls ((rd_T45 l0 x11_1).f3) x11_1 true _ A39.out).mono ?_); rintro e w' ⟨rfl, ⟨nd, rfl⟩⟩) | (go_at_call 47; (with_reducible refine (impl_isPair.calls ((rd_T45 l0 x11_1).f0) true _ A41.out).mono ?_); rintro e w' ⟨rfl, ⟨nd, rfl⟩⟩))
               go_roundg kj21
               case measure => have := HK1.out; have := HJ21.out; omega
               case rel => exact ⟨(wrap64 (x11_1 + 1)), EQ, H', ⟨by have := HK1.out; have := HJ21.out; omega⟩, ⟨BL⟩⟩
              ·replace c42 := Bool.eq_false_iff.mpr c42
               subst c42
               have H1 : (if ((rd_T45 l0 x11_1).f3) = 0 then (impl_IsPlay.l0 kj21 l0 l0 (l0.length : Int) (wrap64 (x11_1 + 1))) else (some false)) = some r := by rw [if_neg (show ¬ (false = true) by decide)] at H; exact H
               clear H
               have H := H1
               clear H1
               by_cases c44 : ((rd_T45 l0 x11_1).f3) = 0
               ·rw [if_pos c44] at H
                have c44b0 : (((rd_T45 l0 x11_1).f3) == 0) = true := beq_iff_eq.mpr c44
                have c44b1 : (((rd_T45 l0 x11_1).f3) != 0) = false := bne_eq_false_iff_eq.mpr c44
                clear c44
                have H' := Aside0.mk H
                clear H
                obtain ⟨hcz45_0, hcz45_1, hcz45_2, hcz45_3, hfz45_0, hfz45_1, hfz45_2, hfz45_3⟩ := cz4 BK239.out
                go_wp2_with (first | ((with_reducible refine gate_callee (f := 47) rfl ?_); refine goesS (some 63) Tryd.func47 #[.int .i64 ((rd_T45 l0 x11_1).f0)] ?_; (with_reducible refine (impl_isPair.calls ((rd_T45 l0 x11_1).f0) true _ A37.out).mono ?_); rintro e w' ⟨rfl, ⟨nd, rfl⟩⟩; refine ⟨_, rfl, ?_⟩) | (go_at_call 46; (with_reducible refine (impl_at.calls ((rd_T45 l0 x11_1).f3) x11_1 true _ A39.out).mono ?_); rintro e w' ⟨rfl, ⟨nd, rfl⟩⟩) | (go_at_call 47; (with_reducible refine (impl_isPair.calls ((rd_T45 l0 x11_1).f0) false _ A41.out).mono ?_); rintro e w' ⟨rfl, ⟨nd, rfl⟩⟩))
                go_roundg kj21
                case measure => have := HK1.out; have := HJ21.out; omega
                case rel => exact ⟨(wrap64 (x11_1 + 1)), EQ, H', ⟨by have := HK1.out; have := HJ21.out; omega⟩, ⟨BL⟩⟩
               ·rw [if_neg c44] at H
                have c44b0 : (((rd_T45 l0 x11_1).f3) == 0) = false := beq_eq_false_iff_ne.mpr c44
                have c44b1 : (((rd_T45 l0 x11_1).f3) != 0) = true := bne_iff_ne.mpr c44
                obtain rfl := Option.some.inj H
                obtain ⟨hcz46_0, hcz46_1, hcz46_2, hcz46_3, hfz46_0, hfz46_1, hfz46_2, hfz46_3⟩ := cz4 BK239.out
                go_wp2_with (first | ((with_reducible refine gate_callee (f := 47) rfl ?_); refine goesS (some 63) Tryd.func47 #[.int .i64 ((rd_T45 l0 x11_1).f0)] ?_; (with_reducible refine (impl_isPair.calls ((rd_T45 l0 x11_1).f0) true _ A37.out).mono ?_); rintro e w' ⟨rfl, ⟨nd, rfl⟩⟩; refine ⟨_, rfl, ?_⟩) | (go_at_call 46; (with_reducible refine (impl_at.calls ((rd_T45 l0 x11_1).f3) x11_1 true _ A39.out).mono ?_); rintro e w' ⟨rfl, ⟨nd, rfl⟩⟩) | (go_at_call 47; (with_reducible refine (impl_isPair.calls ((rd_T45 l0 x11_1).f0) false _ A41.out).mono ?_); rintro e w' ⟨rfl, ⟨nd, rfl⟩⟩))
                go_ret
                exact ⟨by first | rfl | (simp [errW_none, errW_some] <;> rfl) | (simp [*, errW_none, errW_some] <;> rfl), BL⟩
             ·replace c40 := Bool.eq_false_iff.mpr c40
              subst c40
              have H1 : (some false) = some r := by rw [if_neg (show ¬ (false = true) by decide)] at H; exact H
              clear H
              have H := H1
              clear H1
              obtain rfl := Option.some.inj H
              obtain ⟨hcz47_0, hcz47_1, hcz47_2, hcz47_3, hfz47_0, hfz47_1, hfz47_2, hfz47_3⟩ := cz4 BK239.out
              go_wp2_with (first | ((with_reducible refine gate_callee (f := 47) rfl ?_); refine goesS (some 63) Tryd.func47 #[.int .i64 ((rd_T45 l0 x11_1).f0)] ?_; (with_reducible refine (impl_isPair.calls ((rd_T45 l0 x11_1).f0) true _ A37.out).mono ?_); rintro e w' ⟨rfl, ⟨nd, rfl⟩⟩; refine ⟨_, rfl, ?_⟩) | (go_at_call 46; (with_reducible refine (impl_at.calls ((rd_T45 l0 x11_1).f3) x11_1 false _ A39.out).mono ?_); rintro e w' ⟨rfl, ⟨nd, rfl⟩⟩))
              go_ret
              exact ⟨by first | rfl | (simp [errW_none, errW_some] <;> rfl) | (simp [*, errW_none, errW_some] <;> rfl), BL⟩
            ·replace c38 := Bool.eq_false_iff.mpr c38
             subst c38
             have H1 : ((impl_isPair.f ((rd_T45 l0 x11_1).f0)).bind fun t248 => (if t248 = true then (impl_IsPlay.l0 kj21 l0 l0 (l0.length : Int) (wrap64 (x11_1 + 1))) else (if ((rd_T45 l0 x11_1).f3) = 0 then (impl_IsPlay.l0 kj21 l0 l0 (l0.length : Int) (wrap64 (x11_1 + 1))) else (some false)))) = some r := by rw [if_neg (show ¬ (false = true) by decide)] at H; exact H
             clear H
             have H := H1
             clear H1
             replace H := Option.bind_eq_some_iff.mp H
             obtain ⟨t248, A480, H⟩ := H
             replace H : (if t248 = true then (impl_IsPlay.l0 kj21 l0 l0 (l0.length : Int) (wrap64 (x11_1 + 1))) else (if ((rd_T45 l0 x11_1).f3) = 0 then (impl_IsPlay.l0 kj21 l0 l0 (l0.length : Int) (wrap64 (x11_1 + 1))) else (some false))) = some r := H
             have A48 := Aside0.mk A480
             clear A480
             by_cases c49 : t248 = true
             ·subst c49
              have H1 : (impl_IsPlay.l0 kj21 l0 l0 (l0.length : Int) (wrap64 (x11_1 + 1))) = some r := by rw [if_pos rfl] at H; exact H
              clear H
              have H := H1
              clear H1
              have H' := Aside0.mk H
              clear H
              obtain ⟨hcz50_0, hcz50_1, hcz50_2, hcz50_3, hfz50_0, hfz50_1, hfz50_2, hfz50_3⟩ := cz4 BK239.out
              go_wp2_with (first | ((with_reducible refine gate_callee (f := 47) rfl ?_); refine goesS (some 63) Tryd.func47 #[.int .i64 ((rd_T45 l0 x11_1).f0)] ?_; (with_reducible refine (impl_isPair.calls ((rd_T45 l0 x11_1).f0) false _ A37.out).mono ?_); rintro e w' ⟨rfl, ⟨nd, rfl⟩⟩; refine ⟨_, rfl, ?_⟩) | (go_at_call 47; (with_reducible refine (impl_isPair.calls ((rd_T45 l0 x11_1).f0) true _ A48.out).mono ?_); rintro e w' ⟨rfl, ⟨nd, rfl⟩⟩))
              go_roundg kj21
              case measure => have := HK1.out; have := HJ21.out; omega
              case rel => exact ⟨(wrap64 (x11_1 + 1)), EQ, H', ⟨by have := HK1.out; have := HJ21.out; omega⟩, ⟨BL⟩⟩
             ·replace c49 := Bool.eq_false_iff.mpr c49
              subst c49
              have H1 : (if ((rd_T45 l0 x11_1).f3) = 0 then (impl_IsPlay.l0 kj21 l0 l0 (l0.length : Int) (wrap64 (x11_1 + 1))) else (some false)) = some r := by rw [if_neg (show ¬ (false = true) by decide)] at H; exact H
              clear H
              have H := H1
              clear H1
              by_cases c51 : ((rd_T45 l0 x11_1).f3) = 0
              ·rw [if_pos c51] at H
               have c51b0 : (((rd_T45 l0 x11_1).f3) == 0) = true := beq_iff_eq.mpr c51
               have c51b1 : (((rd_T45 l0 x11_1).f3) != 0) = false := bne_eq_false_iff_eq.mpr c51
               clear c51
               have H' := Aside0.mk H
               clear H
               obtain ⟨hcz52_0, hcz52_1, hcz52_2, hcz52_3, hfz52_0, hfz52_1, hfz52_2, hfz52_3⟩ := cz4 BK239.out
               go_wp2_with (first | ((with_reducible refine gate_callee (f := 47) rfl ?_); refine goesS (some 63) Tryd.func47 #[.int .i64 ((rd_T45 l0 x11_1).f0)] ?_; (with_reducible refine (impl_isPair.calls ((rd_T45 l0 x11_1).f0) false _ A37.out).mono ?_); rintro e w' ⟨rfl, ⟨nd, rfl⟩⟩; refine ⟨_, rfl, ?_⟩) | (go_at_call 47; (with_reducible refine (impl_isPair.calls ((rd_T45 l0 x11_1).f0) false _ A48.out).mono ?_); rintro e w' ⟨rfl, ⟨nd, rfl⟩⟩))
               go_roundg kj21
               case measure => have := HK1.out; have := HJ21.out; omega
               case rel => exact ⟨(wrap64 (x11_1 + 1)), EQ, H', ⟨by have := HK1.out; have := HJ21.out; omega⟩, ⟨BL⟩⟩
              ·rw [if_neg c51] at H
               have c51b0 : (((rd_T45 l0 x11_1).f3) == 0) = false := beq_eq_false_iff_ne.mpr c51
               have c51b1 : (((rd_T45 l0 x11_1).f3) != 0) = true := bne_iff_ne.mpr c51
               obtain rfl := Option.some.inj H
               obtain ⟨hcz53_0, hcz53_1, hcz53_2, hcz53_3, hfz53_0, hfz53_1, hfz53_2, hfz53_3⟩ := cz4 BK239.out
               go_wp2_with (first | ((with_reducible refine gate_callee (f := 47) rfl ?_); refine goesS (some 63) Tryd.func47 #[.int .i64 ((rd_T45 l0 x11_1).f0)] ?_; (with_reducible refine (impl_isPair.calls ((rd_T45 l0 x11_1).f0) false _ A37.out).mono ?_); rintro e w' ⟨rfl, ⟨nd, rfl⟩⟩; refine ⟨_, rfl, ?_⟩) | (go_at_call 47; (with_reducible refine (impl_isPair.calls ((rd_T45 l0 x11_1).f0) false _ A48.out).mono ?_); rintro e w' ⟨rfl, ⟨nd, rfl⟩⟩))
               go_ret
               exact ⟨by first | rfl | (simp [errW_none, errW_some] <;> rfl) | (simp [*, errW_none, errW_some] <;> rfl), BL⟩
       ·replace c8 := Bool.eq_false_iff.mpr c8
        subst c8
        have H1 : (some false) = some r := by rw [if_neg (show ¬ (false = true) by decide)] at H; exact H
        clear H
        have H := H1
        clear H1
        obtain rfl := Option.some.inj H
        have p238 : 0 ≤ (x11_1 : Int) := OD
        have q238 : x11_1 < (l0.length : Int) := OD
        obtain ⟨ad238, e238, hx238_0, hx238_1, hx238_2, hx238_3⟩ := at_T45 HR0.out x11_1 p238 q238
        cases e238
        replace hx238_0 := (HB.out.cell (World.block_lt_of_cell? w _ hx238_0)).trans hx238_0
        replace hx238_1 := (HB.out.cell (World.block_lt_of_cell? w _ hx238_1)).trans hx238_1
        replace hx238_2 := (HB.out.cell (World.block_lt_of_cell? w _ hx238_2)).trans hx238_2
        replace hx238_3 := (HB.out.cell (World.block_lt_of_cell? w _ hx238_3)).trans hx238_3
        replace p238 := eq_true p238
        replace q238 := eq_true q238
        go_wp2_with (first | ((with_reducible refine gate_dst (N := 4) rfl ?_); refine box_ev (N := 4) (cs := #[.int .i64 0, .string (⟨#[]⟩ : ByteArray), .int .i64 0, .int .i64 0]) (t := 45) ?_; intro gb239 hg w54 hbox hb; have n0_ := Aside0.mk (below_step BL hb); have n1_ := Aside0.mk (hbox); have n2_ := SZ (w := w) hg; have n3_ := SZ (w := w) hg; clear HB; have HB := n0_; have BK239 := n1_; have GW239 := n2_; have GE239 := n3_; clear n0_ n1_ n2_ n3_; clear hb hbox hg; obtain ⟨hcz55_0, hcz55_1, hcz55_2, hcz55_3, hfz55_0, hfz55_1, hfz55_2, hfz55_3⟩ := cz4 BK239.out) | ((with_reducible refine gate_callee (f := 40) rfl ?_); refine goesS (some 18) Tryd.func40 #[.int .i64 ((rd_T45 l0 x11_1).f0), .int .i64 1, .int .i64 9] ?_; (with_reducible refine (impl_InRange.calls ((rd_T45 l0 x11_1).f0) 1 9 false _ A7.out).mono ?_); rintro e w' ⟨rfl, ⟨nd, rfl⟩⟩; refine ⟨_, rfl, ?_⟩))
        go_ret
        exact ⟨by first | rfl | (simp [errW_none, errW_some] <;> rfl) | (simp [*, errW_none, errW_some] <;> rfl), BL⟩
      ·rw [if_neg c6] at H
       exact absurd H (by simp)
     ·rw [if_neg c5] at H
      exact absurd H (by simp)
    ·rw [if_neg c4] at H
     have c4b0 : decide (x11_1 < (l0.length : Int)) = false := decide_eq_false c4
     clear c4
     obtain rfl := Option.some.inj H
     go_wp2
     go_ret
     exact ⟨by first | rfl | (simp [errW_none, errW_some] <;> rfl) | (simp [*, errW_none, errW_some] <;> rfl), BL⟩
 ·replace c3 := Bool.eq_false_iff.mpr c3
  subst c3
  have H1 : (some false) = some r := by rw [if_neg (show ¬ (false = true) by decide)] at H; exact H
  clear H
  have H := H1
  clear H1
  obtain rfl := Option.some.inj H
  go_enter Tryd.func38, Tryd.ntmps38
  go_wp2_with (first | ((with_reducible refine gate_callee (f := 40) rfl ?_); refine goesS (some 7) Tryd.func40 #[.int .i64 (l0.length : Int), .int .i64 1, .int .i64 9] ?_; (with_reducible refine (impl_InRange.calls (l0.length : Int) 1 9 false _ A2.out).mono ?_); rintro e w' ⟨rfl, ⟨nd, rfl⟩⟩; refine ⟨_, rfl, ?_⟩))
  go_ret
  exact ⟨by first | rfl | (simp [errW_none, errW_some] <;> rfl) | (simp [*, errW_none, errW_some] <;> rfl), BL⟩
def impl_IsClue.f (k : Nat) (a0_0 : Int) (l0_1 : List (S45)) : Option (Bool) := (impl_InRange.f a0_0 1 99).bind fun t250 => (if t250 = true then ((impl_IsPlay.f k l0_1).bind fun t251 => (some t251)) else (some false))
set_option maxHeartbeats 8000000 in
set_option maxRecDepth 100000 in
theorem impl_IsClue.calls (k : Nat) (a0_0 : Int) (A0_1 : Option Addr) (c0_1 : Nat) (l0_1 : List (S45)) (r : Bool) (w : World) (hr0_1 : Kd.C k45 w A0_1 l0_1.length l0_1) (hc0_1 : l0_1.length ≤ c0_1) (h : impl_IsClue.f k a0_0 l0_1 = some r) :
  Calls Tryd.prog 21 #[.agg #[.int .i64 a0_0, .slice A0_1 l0_1.length c0_1]] w fun e w' => e = .returned (.bool r) ∧ Below w.heap.size w w' := by
 have hu29 := Tryd.underlying29
 have HR0_1 := Aside0.mk hr0_1
 have HC0_1 := Aside0.mk hc0_1
 clear hr0_1 hc0_1
 have HB := Aside0.mk (Below.refl w.heap.size w)
 have H : ((impl_InRange.f a0_0 1 99).bind fun t250 => (if t250 = true then ((impl_IsPlay.f k l0_1).bind fun t251 => (some t251)) else (some false))) = some r := h
 clear h
 replace H := Option.bind_eq_some_iff.mp H
 obtain ⟨t250, A20, H⟩ := H
 replace H : (if t250 = true then ((impl_IsPlay.f k l0_1).bind fun t251 => (some t251)) else (some false)) = some r := H
 have A2 := Aside0.mk A20
 clear A20
 by_cases c3 : t250 = true
 ·subst c3
  have H1 : ((impl_IsPlay.f k l0_1).bind fun t251 => (some t251)) = some r := by rw [if_pos rfl] at H; exact H
  clear H
  have H := H1
  clear H1
  replace H := Option.bind_eq_some_iff.mp H
  obtain ⟨t251, A40, H⟩ := H
  replace H : (some t251) = some r := H
  have A4 := Aside0.mk A40
  clear A40
  obtain rfl := Option.some.inj H
  go_enter Tryd.func21, Tryd.ntmps21
  go_wp2_with (first | ((with_reducible refine gate_dst (N := 1) rfl ?_); refine box_ev (N := 1) (cs := #[.int .i64 a0_0, .slice A0_1 l0_1.length c0_1]) (t := 29) ?_; intro gb249 hg w5 hbox hb; have n0_ := Aside0.mk (below_step BL hb); have n1_ := Aside0.mk (hbox); have n2_ := SZ (w := w) hg; have n3_ := SZ (w := w) hg; clear HB; have HB := n0_; have BK249 := n1_; have GW249 := n2_; have GE249 := n3_; clear n0_ n1_ n2_ n3_; clear hb hbox hg; obtain ⟨hcz6_0, hcz6_1, hfz6_0, hfz6_1⟩ := cz2 BK249.out) | ((with_reducible refine gate_callee (f := 40) rfl ?_); refine goesS (some 5) Tryd.func40 #[.int .i64 a0_0, .int .i64 1, .int .i64 99] ?_; (with_reducible refine (impl_InRange.calls a0_0 1 99 true _ A2.out).mono ?_); rintro e w' ⟨rfl, ⟨nd, rfl⟩⟩; refine ⟨_, rfl, ?_⟩) | (go_at_call 38; (with_reducible refine (impl_IsPlay.calls k _ _ l0_1 t251 _ ?side1 ?side2 A4.out).mono ?_); (case side1 => repeat (first | exact (Kd.C_below HR0_1.out BL) | (with_reducible refine Kd.C_alloc ?_ _) | (with_reducible refine Kd.C_drewN ?_ _) | (with_reducible refine Kd.C_drew ?_))); (case side2 => exact HC0_1.out); rintro e w7 ⟨rfl, hb⟩; have n0_ := KB BK249 hb; have n1_ := Aside0.mk (below_step BL hb); clear BK249 HB; have BK249 := n0_; have HB := n1_; clear n0_ n1_; (try clear hb)))
  go_ret
  exact ⟨by first | rfl | (simp [errW_none, errW_some] <;> rfl) | (simp [*, errW_none, errW_some] <;> rfl), BL⟩
 ·replace c3 := Bool.eq_false_iff.mpr c3
  subst c3
  have H1 : (some false) = some r := by rw [if_neg (show ¬ (false = true) by decide)] at H; exact H
  clear H
  have H := H1
  clear H1
  obtain rfl := Option.some.inj H
  go_enter Tryd.func21, Tryd.ntmps21
  go_wp2_with (first | ((with_reducible refine gate_dst (N := 1) rfl ?_); refine box_ev (N := 1) (cs := #[.int .i64 a0_0, .slice A0_1 l0_1.length c0_1]) (t := 29) ?_; intro gb249 hg w8 hbox hb; have n0_ := Aside0.mk (below_step BL hb); have n1_ := Aside0.mk (hbox); have n2_ := SZ (w := w) hg; have n3_ := SZ (w := w) hg; clear HB; have HB := n0_; have BK249 := n1_; have GW249 := n2_; have GE249 := n3_; clear n0_ n1_ n2_ n3_; clear hb hbox hg; obtain ⟨hcz9_0, hcz9_1, hfz9_0, hfz9_1⟩ := cz2 BK249.out) | ((with_reducible refine gate_callee (f := 40) rfl ?_); refine goesS (some 5) Tryd.func40 #[.int .i64 a0_0, .int .i64 1, .int .i64 99] ?_; (with_reducible refine (impl_InRange.calls a0_0 1 99 false _ A2.out).mono ?_); rintro e w' ⟨rfl, ⟨nd, rfl⟩⟩; refine ⟨_, rfl, ?_⟩))
  go_ret
  exact ⟨by first | rfl | (simp [errW_none, errW_some] <;> rfl) | (simp [*, errW_none, errW_some] <;> rfl), BL⟩
def strconv_Itoa.f (a0 : Int) : Option (ByteArray) := if 0 ≤ a0 then (if a0 < 100 then (some (⟨(Go.Lib.decDigits a0.toNat).toArray⟩ : ByteArray)) else (none)) else (none)
theorem strconv_Itoa.calls (a0 : Int) (r : ByteArray) (w : World) (h : strconv_Itoa.f a0 = some r) :
  Calls Tryd.prog 41 #[.int .i64 a0] w fun e w' => e = .returned (.string r) ∧ Below w.heap.size w w' := by
 by_cases h1 : 0 ≤ a0
 ·by_cases h2 : a0 < 100
  ·obtain ⟨m, rfl⟩ : ∃ m : Nat, a0 = (m : Int) := ⟨a0.toNat, by omega⟩
   have hr : r = ⟨(Go.Lib.decDigits m).toArray⟩ := by
    unfold strconv_Itoa.f at h
    rw [if_pos h1, if_pos h2] at h
    exact (Option.some.inj h).symm
   subst hr
   refine (Tryd.strconv_Itoa_small m (by omega) w).mono ?_
   rintro e w' ⟨rfl, rfl⟩
   exact ⟨rfl, Below.refl _ _⟩
  ·simp [strconv_Itoa.f, h2] at h
 ·simp [strconv_Itoa.f, h1] at h
def impl_FormatInt.f (a0 : Int) : Option (ByteArray) := (strconv_Itoa.f a0).bind fun t252 => (some t252)
set_option maxHeartbeats 8000000 in
set_option maxRecDepth 100000 in
theorem impl_FormatInt.calls (a0 : Int) (r : ByteArray) (w : World) (h : impl_FormatInt.f a0 = some r) :
  Calls Tryd.prog 22 #[.int .i64 a0] w fun e w' => e = .returned (.string r) ∧ Below w.heap.size w w' := by
 have HB := Aside0.mk (Below.refl w.heap.size w)
 have H : ((strconv_Itoa.f a0).bind fun t252 => (some t252)) = some r := h
 clear h
 replace H := Option.bind_eq_some_iff.mp H
 obtain ⟨t252, A20, H⟩ := H
 replace H : (some t252) = some r := H
 have A2 := Aside0.mk A20
 clear A20
 obtain rfl := Option.some.inj H
 go_enter Tryd.func22, Tryd.ntmps22
 go_wp2_with (first | ((with_reducible refine gate_callee (f := 41) rfl ?_); refine goesS (some 4) Tryd.func41 #[.int .i64 a0] ?_; (with_reducible refine (strconv_Itoa.calls a0 t252 _ A2.out).mono ?_); rintro e w3 ⟨rfl, hb⟩; refine ⟨_, rfl, ?_⟩; have n0_ := Aside0.mk (below_step BL hb); clear HB; have HB := n0_; clear n0_; (try clear hb)))
 go_ret
 exact ⟨by first | rfl | (simp [errW_none, errW_some] <;> rfl) | (simp [*, errW_none, errW_some] <;> rfl), BL⟩
def impl_KindName.f (a0 : Int) : Option (ByteArray) := (some (([(⟨#[]⟩ : ByteArray), (⟨#[119, 111, 114, 100]⟩ : ByteArray), (⟨#[98, 97, 99, 107]⟩ : ByteArray), (⟨#[109, 105, 120]⟩ : ByteArray), (⟨#[106, 111, 105, 110]⟩ : ByteArray), (⟨#[105, 110]⟩ : ByteArray), (⟨#[104, 101, 97, 100]⟩ : ByteArray), (⟨#[110, 111, 104, 101, 97, 100]⟩ : ByteArray), (⟨#[110, 111, 116, 97, 105, 108]⟩ : ByteArray), (⟨#[104, 105, 100, 100, 101, 110]⟩ : ByteArray)] : List ByteArray) : List ByteArray)).bind fun y253 => ((impl_at.f a0 (y253.length : Int)).bind fun t256 => (if t256 = true then (if 0 ≤ a0 then (if a0 < (y253.length : Int) then (some (rdOf ByteArray.empty y253 a0)) else (none)) else (none)) else (some (⟨#[]⟩ : ByteArray))))
set_option maxHeartbeats 8000000 in
set_option maxRecDepth 100000 in
theorem impl_KindName.calls (a0 : Int) (r : ByteArray) (w : World) (h : impl_KindName.f a0 = some r) :
  Calls Tryd.prog 29 #[.int .i64 a0] w fun e w' => e = .returned (.string r) ∧ Below w.heap.size w w' := by
 have HB := Aside0.mk (Below.refl w.heap.size w)
 have H : ((some (([(⟨#[]⟩ : ByteArray), (⟨#[119, 111, 114, 100]⟩ : ByteArray), (⟨#[98, 97, 99, 107]⟩ : ByteArray), (⟨#[109, 105, 120]⟩ : ByteArray), (⟨#[106, 111, 105, 110]⟩ : ByteArray), (⟨#[105, 110]⟩ : ByteArray), (⟨#[104, 101, 97, 100]⟩ : ByteArray), (⟨#[110, 111, 104, 101, 97, 100]⟩ : ByteArray), (⟨#[110, 111, 116, 97, 105, 108]⟩ : ByteArray), (⟨#[104, 105, 100, 100, 101, 110]⟩ : ByteArray)] : List ByteArray) : List ByteArray)).bind fun y253 => ((impl_at.f a0 (y253.length : Int)).bind fun t256 => (if t256 = true then (if 0 ≤ a0 then (if a0 < (y253.length : Int) then (some (rdOf ByteArray.empty y253 a0)) else (none)) else (none)) else (some (⟨#[]⟩ : ByteArray))))) = some r := h
 clear h
 obtain ⟨y253, hy253⟩ : ∃ y_ : List ByteArray, y_ = (([(⟨#[]⟩ : ByteArray), (⟨#[119, 111, 114, 100]⟩ : ByteArray), (⟨#[98, 97, 99, 107]⟩ : ByteArray), (⟨#[109, 105, 120]⟩ : ByteArray), (⟨#[106, 111, 105, 110]⟩ : ByteArray), (⟨#[105, 110]⟩ : ByteArray), (⟨#[104, 101, 97, 100]⟩ : ByteArray), (⟨#[110, 111, 104, 101, 97, 100]⟩ : ByteArray), (⟨#[110, 111, 116, 97, 105, 108]⟩ : ByteArray), (⟨#[104, 105, 100, 100, 101, 110]⟩ : ByteArray)] : List ByteArray)) := ⟨_, rfl⟩
 replace H : ((impl_at.f a0 (y253.length : Int)).bind fun t256 => (if t256 = true then (if 0 ≤ a0 then (if a0 < (y253.length : Int) then (some (rdOf ByteArray.empty y253 a0)) else (none)) else (none)) else (some (⟨#[]⟩ : ByteArray)))) = some r := by first | (rw [hy253]; with_reducible exact H) | (have H2_ := (Option.bind_some _ _).symm.trans H; rw [hy253]; with_reducible exact H2_) | (have H2_ := (Option.bind_some _ _).symm.trans H; with_reducible exact H2_) | with_reducible exact H | (rw [hy253]; exact H) | exact H
 have Ny253 := Aside0.mk hy253
 clear hy253
 replace H := Option.bind_eq_some_iff.mp H
 obtain ⟨t256, A20, H⟩ := H
 replace H : (if t256 = true then (if 0 ≤ a0 then (if a0 < (y253.length : Int) then (some (rdOf ByteArray.empty y253 a0)) else (none)) else (none)) else (some (⟨#[]⟩ : ByteArray))) = some r := H
 have A2 := Aside0.mk A20
 clear A20
 by_cases c3 : t256 = true
 ·subst c3
  have H1 : (if 0 ≤ a0 then (if a0 < (y253.length : Int) then (some (rdOf ByteArray.empty y253 a0)) else (none)) else (none)) = some r := by rw [if_pos rfl] at H; exact H
  clear H
  have H := H1
  clear H1
  by_cases c4 : 0 ≤ a0
  ·rw [if_pos c4] at H
   have c4b0 : decide (0 ≤ a0) = true := decide_eq_true c4
   clear c4
   by_cases c5 : a0 < (y253.length : Int)
   ·rw [if_pos c5] at H
    have c5b0 : decide (a0 < (y253.length : Int)) = true := decide_eq_true c5
    clear c5
    obtain rfl := Option.some.inj H
    go_enter Tryd.func29, Tryd.ntmps29
    go_wp2_with (first | ((with_reducible refine gate_dst (N := 4) rfl ?_); refine Kd.R_lit Kd.string _ 9 ?hg (N := 4) ?hd (xs := ([(⟨#[]⟩ : ByteArray), (⟨#[119, 111, 114, 100]⟩ : ByteArray), (⟨#[98, 97, 99, 107]⟩ : ByteArray), (⟨#[109, 105, 120]⟩ : ByteArray), (⟨#[106, 111, 105, 110]⟩ : ByteArray), (⟨#[105, 110]⟩ : ByteArray), (⟨#[104, 101, 97, 100]⟩ : ByteArray), (⟨#[110, 111, 104, 101, 97, 100]⟩ : ByteArray), (⟨#[110, 111, 116, 97, 105, 108]⟩ : ByteArray), (⟨#[104, 105, 100, 100, 101, 110]⟩ : ByteArray)] : List ByteArray)) (inner := [.string (⟨#[]⟩ : ByteArray), .string (⟨#[119, 111, 114, 100]⟩ : ByteArray), .string (⟨#[98, 97, 99, 107]⟩ : ByteArray), .string (⟨#[109, 105, 120]⟩ : ByteArray), .string (⟨#[106, 111, 105, 110]⟩ : ByteArray), .string (⟨#[105, 110]⟩ : ByteArray), .string (⟨#[104, 101, 97, 100]⟩ : ByteArray), .string (⟨#[110, 111, 104, 101, 97, 100]⟩ : ByteArray), .string (⟨#[110, 111, 116, 97, 105, 108]⟩ : ByteArray), .string (⟨#[104, 105, 100, 100, 101, 110]⟩ : ByteArray)]) (ok := fun _ => True) (okp := fun _ => True) ?hr ?hp (fun _ hk => hk) trivial (Below.refl _ _) (Nat.le_refl _) (by simp) ?_; (case hd => rfl); (case hg => rfl); (case hr => first | (go_simp; done) | (go_simp; rfl)); (case hp => exact (Reps.one (show Kd.M Kd.string _ _ _ (⟨#[]⟩ : ByteArray) [.string (⟨#[]⟩ : ByteArray)] from rfl) (Reps.one (show Kd.M Kd.string _ _ _ (⟨#[119, 111, 114, 100]⟩ : ByteArray) [.string (⟨#[119, 111, 114, 100]⟩ : ByteArray)] from rfl) (Reps.one (show Kd.M Kd.string _ _ _ (⟨#[98, 97, 99, 107]⟩ : ByteArray) [.string (⟨#[98, 97, 99, 107]⟩ : ByteArray)] from rfl) (Reps.one (show Kd.M Kd.string _ _ _ (⟨#[109, 105, 120]⟩ : ByteArray) [.string (⟨#[109, 105, 120]⟩ : ByteArray)] from rfl) (Reps.one (show Kd.M Kd.string _ _ _ (⟨#[106, 111, 105, 110]⟩ : ByteArray) [.string (⟨#[106, 111, 105, 110]⟩ : ByteArray)] from rfl) (Reps.one (show Kd.M Kd.string _ _ _ (⟨#[105, 110]⟩ : ByteArray) [.string (⟨#[105, 110]⟩ : ByteArray)] from rfl) (Reps.one (show Kd.M Kd.string _ _ _ (⟨#[104, 101, 97, 100]⟩ : ByteArray) [.string (⟨#[104, 101, 97, 100]⟩ : ByteArray)] from rfl) (Reps.one (show Kd.M Kd.string _ _ _ (⟨#[110, 111, 104, 101, 97, 100]⟩ : ByteArray) [.string (⟨#[110, 111, 104, 101, 97, 100]⟩ : ByteArray)] from rfl) (Reps.one (show Kd.M Kd.string _ _ _ (⟨#[110, 111, 116, 97, 105, 108]⟩ : ByteArray) [.string (⟨#[110, 111, 116, 97, 105, 108]⟩ : ByteArray)] from rfl) (Reps.one (show Kd.M Kd.string _ _ _ (⟨#[104, 105, 100, 100, 101, 110]⟩ : ByteArray) [.string (⟨#[104, 105, 100, 100, 101, 110]⟩ : ByteArray)] from rfl) (Reps.none _ _)))))))))))); intro v254 w6 ho7 hb hg_ hnew_; clear hg_ hnew_; (first | rw [← Ny253.out] at ho7 | (simp only [Int.reduceToNat] at ho7; rw [← Ny253.out] at ho7)); have n0_ := Aside0.mk (Kd.R_lower ho7 (below_size BL)); have n1_ := Aside0.mk (below_step BL hb); clear HB; have HO255 := n0_; have HB := n1_; clear n0_ n1_; clear hb ho7; obtain ⟨Ao8, co8, eo8⟩ := Kd.R_slice HO255.out; subst eo8) | ((with_reducible refine gate_callee (f := 46) rfl ?_); refine goesS (some 8) Tryd.func46 #[.int .i64 a0, .int .i64 (y253.length : Int)] ?_; (with_reducible refine (impl_at.calls a0 (y253.length : Int) true _ A2.out).mono ?_); rintro e w' ⟨rfl, ⟨nd, rfl⟩⟩; refine ⟨_, rfl, ?_⟩; have p257 : 0 ≤ (a0 : Int) := OD; have q257 : a0 < (y253.length : Int) := OD; obtain ⟨ad257, e257, hx257_0⟩ := Kd.at_string (Kd.R_reads' HO255.out).2.2 a0 p257 q257; cases e257; replace p257 := eq_true p257; replace q257 := eq_true q257))
    go_ret
    exact ⟨by first | rfl | (simp [errW_none, errW_some] <;> rfl) | (simp [*, errW_none, errW_some] <;> rfl), BL⟩
   ·rw [if_neg c5] at H
    exact absurd H (by simp)
  ·rw [if_neg c4] at H
   exact absurd H (by simp)
 ·replace c3 := Bool.eq_false_iff.mpr c3
  subst c3
  have H1 : (some (⟨#[]⟩ : ByteArray)) = some r := by rw [if_neg (show ¬ (false = true) by decide)] at H; exact H
  clear H
  have H := H1
  clear H1
  obtain rfl := Option.some.inj H
  go_enter Tryd.func29, Tryd.ntmps29
  go_wp2_with (first | ((with_reducible refine gate_dst (N := 4) rfl ?_); refine Kd.R_lit Kd.string _ 9 ?hg (N := 4) ?hd (xs := ([(⟨#[]⟩ : ByteArray), (⟨#[119, 111, 114, 100]⟩ : ByteArray), (⟨#[98, 97, 99, 107]⟩ : ByteArray), (⟨#[109, 105, 120]⟩ : ByteArray), (⟨#[106, 111, 105, 110]⟩ : ByteArray), (⟨#[105, 110]⟩ : ByteArray), (⟨#[104, 101, 97, 100]⟩ : ByteArray), (⟨#[110, 111, 104, 101, 97, 100]⟩ : ByteArray), (⟨#[110, 111, 116, 97, 105, 108]⟩ : ByteArray), (⟨#[104, 105, 100, 100, 101, 110]⟩ : ByteArray)] : List ByteArray)) (inner := [.string (⟨#[]⟩ : ByteArray), .string (⟨#[119, 111, 114, 100]⟩ : ByteArray), .string (⟨#[98, 97, 99, 107]⟩ : ByteArray), .string (⟨#[109, 105, 120]⟩ : ByteArray), .string (⟨#[106, 111, 105, 110]⟩ : ByteArray), .string (⟨#[105, 110]⟩ : ByteArray), .string (⟨#[104, 101, 97, 100]⟩ : ByteArray), .string (⟨#[110, 111, 104, 101, 97, 100]⟩ : ByteArray), .string (⟨#[110, 111, 116, 97, 105, 108]⟩ : ByteArray), .string (⟨#[104, 105, 100, 100, 101, 110]⟩ : ByteArray)]) (ok := fun _ => True) (okp := fun _ => True) ?hr ?hp (fun _ hk => hk) trivial (Below.refl _ _) (Nat.le_refl _) (by simp) ?_; (case hd => rfl); (case hg => rfl); (case hr => first | (go_simp; done) | (go_simp; rfl)); (case hp => exact (Reps.one (show Kd.M Kd.string _ _ _ (⟨#[]⟩ : ByteArray) [.string (⟨#[]⟩ : ByteArray)] from rfl) (Reps.one (show Kd.M Kd.string _ _ _ (⟨#[119, 111, 114, 100]⟩ : ByteArray) [.string (⟨#[119, 111, 114, 100]⟩ : ByteArray)] from rfl) (Reps.one (show Kd.M Kd.string _ _ _ (⟨#[98, 97, 99, 107]⟩ : ByteArray) [.string (⟨#[98, 97, 99, 107]⟩ : ByteArray)] from rfl) (Reps.one (show Kd.M Kd.string _ _ _ (⟨#[109, 105, 120]⟩ : ByteArray) [.string (⟨#[109, 105, 120]⟩ : ByteArray)] from rfl) (Reps.one (show Kd.M Kd.string _ _ _ (⟨#[106, 111, 105, 110]⟩ : ByteArray) [.string (⟨#[106, 111, 105, 110]⟩ : ByteArray)] from rfl) (Reps.one (show Kd.M Kd.string _ _ _ (⟨#[105, 110]⟩ : ByteArray) [.string (⟨#[105, 110]⟩ : ByteArray)] from rfl) (Reps.one (show Kd.M Kd.string _ _ _ (⟨#[104, 101, 97, 100]⟩ : ByteArray) [.string (⟨#[104, 101, 97, 100]⟩ : ByteArray)] from rfl) (Reps.one (show Kd.M Kd.string _ _ _ (⟨#[110, 111, 104, 101, 97, 100]⟩ : ByteArray) [.string (⟨#[110, 111, 104, 101, 97, 100]⟩ : ByteArray)] from rfl) (Reps.one (show Kd.M Kd.string _ _ _ (⟨#[110, 111, 116, 97, 105, 108]⟩ : ByteArray) [.string (⟨#[110, 111, 116, 97, 105, 108]⟩ : ByteArray)] from rfl) (Reps.one (show Kd.M Kd.string _ _ _ (⟨#[104, 105, 100, 100, 101, 110]⟩ : ByteArray) [.string (⟨#[104, 105, 100, 100, 101, 110]⟩ : ByteArray)] from rfl) (Reps.none _ _)))))))))))); intro v254 w9 ho10 hb hg_ hnew_; clear hg_ hnew_; (first | rw [← Ny253.out] at ho10 | (simp only [Int.reduceToNat] at ho10; rw [← Ny253.out] at ho10)); have n0_ := Aside0.mk (Kd.R_lower ho10 (below_size BL)); have n1_ := Aside0.mk (below_step BL hb); clear HB; have HO255 := n0_; have HB := n1_; clear n0_ n1_; clear hb ho10; obtain ⟨Ao11, co11, eo11⟩ := Kd.R_slice HO255.out; subst eo11) | ((with_reducible refine gate_callee (f := 46) rfl ?_); refine goesS (some 8) Tryd.func46 #[.int .i64 a0, .int .i64 (y253.length : Int)] ?_; (with_reducible refine (impl_at.calls a0 (y253.length : Int) false _ A2.out).mono ?_); rintro e w' ⟨rfl, ⟨nd, rfl⟩⟩; refine ⟨_, rfl, ?_⟩))
  go_ret
  exact ⟨by first | rfl | (simp [errW_none, errW_some] <;> rfl) | (simp [*, errW_none, errW_some] <;> rfl), BL⟩
end Go.Proofs.YtddacmgigolcbaaDoor.PFnExactFitsHint
