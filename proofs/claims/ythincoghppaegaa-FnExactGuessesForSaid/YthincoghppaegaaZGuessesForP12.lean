/- Walks of functions: what each computes. -/
import Derived.Test.YthincoghppaegaaZGuessesForP0
import Derived.Test.YthincoghppaegaaZGuessesForP11
import Derived.Test.YthincoghppaegaaZGuessesForW
import Derived.Test.YthincoghppaegaaZGuessesForShelf
import Derived.Test.YthincoghppaegaaZGuessesForHandSort
namespace Go.Proofs.Ythincoghppaegaa.PFnExactGuessesFor
open Go.RowKit Go.Proofs.YthincoghppaegaaW.PrintWords Go.Proofs.YthincoghppaegaaW.PrintLast Go.Proofs.YthincoghppaegaaW.PrintMore Go.Proofs.Ythincoghppaegaa.Sq
attribute [local go_sem] max2_int min2_int max_two min_two max_three min_three max_four min_four
set_option linter.unusedVariables false
set_option linter.unusedSimpArgs false
mutual
def impl_IsPlay.l0 : Nat → List (S73) → List (S73) → Int → Int → Option (Bool)
 | 0, _, _, _, _ => none
 | k + 1, x0, x9, x10, x11 => if x11 < x10 then (if 0 ≤ x11 then (if x11 < (x9.length : Int) then ((impl_InRange.f ((rd_T73 x9 x11).f0) 1 9).bind fun t262 => (if t262 = true then (if ((rd_T73 x9 x11).f0) = 1 then ((impl_IsWord.f k ((rd_T73 x9 x11).f1)).bind fun t263 => (if t263 = true then (if ((rd_T73 x9 x11).f2) = 0 then (if ((rd_T73 x9 x11).f3) = 0 then (impl_IsPlay.l0 k x0 x9 x10 (wrap64 (x11 + 1))) else (some false)) else (some false)) else (some false))) else (if ((rd_T73 x9 x11).f1).toList = ([] : List UInt8) then ((impl_at.f ((rd_T73 x9 x11).f2) x11).bind fun t264 => (if t264 = true then ((impl_needsWord.f ((rd_T73 x9 x11).f0)).bind fun t265 => (if t265 = true then (if 0 ≤ ((rd_T73 x9 x11).f2) then (if ((rd_T73 x9 x11).f2) < (x0.length : Int) then (impl_IsPlay.j1 k x0 x11 x9 x10 x11 (((rd_T73 x0 ((rd_T73 x9 x11).f2)).f0) != 1) ((rd_T73 x9 x11).f0) ((rd_T73 x9 x11).f1) ((rd_T73 x9 x11).f2) ((rd_T73 x9 x11).f3)) else (none)) else (none)) else (impl_IsPlay.j1 k x0 x11 x9 x10 x11 false ((rd_T73 x9 x11).f0) ((rd_T73 x9 x11).f1) ((rd_T73 x9 x11).f2) ((rd_T73 x9 x11).f3)))) else (impl_IsPlay.j1 k x0 x11 x9 x10 x11 true ((rd_T73 x9 x11).f0) ((rd_T73 x9 x11).f1) ((rd_T73 x9 x11).f2) ((rd_T73 x9 x11).f3)))) else (impl_IsPlay.j1 k x0 x11 x9 x10 x11 true ((rd_T73 x9 x11).f0) ((rd_T73 x9 x11).f1) ((rd_T73 x9 x11).f2) ((rd_T73 x9 x11).f3)))) else (some false))) else (none)) else (none)) else (some true)
def impl_IsPlay.j1 : Nat → List (S73) → Int → List (S73) → Int → Int → Bool → Int → ByteArray → Int → Int → Option (Bool)
 | 0, _, _, _, _, _, _, _, _, _, _ => none
 | k + 1, x0, x3, x9, x10, x11, x60, x262000, x262001, x262002, x262003 => if x60 = true then (some false) else ((impl_isPair.f x262000).bind fun t267 => (if t267 = true then ((impl_at.f x262003 x3).bind fun t268 => (if t268 = true then ((impl_isPair.f x262000).bind fun t269 => (if t269 = true then (impl_IsPlay.l0 k x0 x9 x10 (wrap64 (x11 + 1))) else (if x262003 = 0 then (impl_IsPlay.l0 k x0 x9 x10 (wrap64 (x11 + 1))) else (some false)))) else (some false))) else ((impl_isPair.f x262000).bind fun t270 => (if t270 = true then (impl_IsPlay.l0 k x0 x9 x10 (wrap64 (x11 + 1))) else (if x262003 = 0 then (impl_IsPlay.l0 k x0 x9 x10 (wrap64 (x11 + 1))) else (some false))))))
end
def impl_IsPlay.f (k : Nat) (l0 : List (S73)) : Option (Bool) := (impl_InRange.f (l0.length : Int) 1 9).bind fun t259 => (if t259 = true then (impl_IsPlay.l0 k l0 l0 (l0.length : Int) 0) else (some false))
set_option maxHeartbeats 8000000 in
set_option maxRecDepth 100000 in
theorem impl_IsPlay.calls (k : Nat) (A0 : Option Addr) (c0 : Nat) (l0 : List (S73)) (r : Bool) (w : World) (hr0 : Kd.C k73 w A0 l0.length l0) (hc0 : l0.length ≤ c0) (h : impl_IsPlay.f k l0 = some r) :
  Calls Try.prog 66 #[.slice A0 l0.length c0] w fun e w' => e = .returned (.bool r) ∧ Below w.heap.size w w' := by
 have hu73 := Try.underlying73
 have HR0 := Aside0.mk hr0
 have HC0 := Aside0.mk hc0
 clear hr0 hc0
 have HB := Aside0.mk (Below.refl w.heap.size w)
 have H : ((impl_InRange.f (l0.length : Int) 1 9).bind fun t259 => (if t259 = true then (impl_IsPlay.l0 k l0 l0 (l0.length : Int) 0) else (some false))) = some r := h
 clear h
 replace H := Option.bind_eq_some_iff.mp H
 obtain ⟨t259, A20, H⟩ := H
 replace H : (if t259 = true then (impl_IsPlay.l0 k l0 l0 (l0.length : Int) 0) else (some false)) = some r := H
 have A2 := Aside0.mk A20
 clear A20
 by_cases c3 : t259 = true
 ·subst c3
  have H1 : (impl_IsPlay.l0 k l0 l0 (l0.length : Int) 0) = some r := by rw [if_pos rfl] at H; exact H
  clear H
  have H := H1
  clear H1
  have H' := Aside0.mk H
  clear H
  go_enter Try.func66, Try.ntmps66
  go_wp2_with (first | ((with_reducible refine gate_callee (f := 57) rfl ?_); refine goesS (some 7) Try.func57 #[.int .i64 (l0.length : Int), .int .i64 1, .int .i64 9] ?_; (with_reducible refine (impl_InRange.calls (l0.length : Int) 1 9 true _ A2.out).mono ?_); rintro e w' ⟨rfl, ⟨nd, rfl⟩⟩; refine ⟨_, rfl, ?_⟩))
  go_loopg [11] k (fun kq v11 w' => ∃ (x11_1 : Int), v11 = .int .i64 x11_1 ∧ Aside0 (impl_IsPlay.l0 kq l0 l0 (l0.length : Int) x11_1 = some r) ∧ Aside0 (kq ≤ k) ∧ Aside0 (Below w.heap.size w w'))
  case atStart => exact ⟨(0), EQ, H', ⟨Nat.le_refl _⟩, ⟨BL⟩⟩
  case round =>
   clear H'
   try clear c3
   obtain ⟨x11_1, rfl, HA, HK1, HB⟩ := hrel
   cases gk with
   | zero => exact absurd HA.out (by simp [impl_IsPlay.l0])
   | succ k1 =>
    have H := HA.out
    clear HA
    simp only [impl_IsPlay.l0] at H
    by_cases c4 : x11_1 < (l0.length : Int)
    ·rw [if_pos c4] at H
     have c4b0 : decide (x11_1 < (l0.length : Int)) = true := decide_eq_true c4
     clear c4
     by_cases c5 : 0 ≤ x11_1
     ·rw [if_pos c5] at H
      have c5b0 : decide (0 ≤ x11_1) = true := decide_eq_true c5
      clear c5
      by_cases c6 : x11_1 < (l0.length : Int)
      ·rw [if_pos c6] at H
       have c6b0 : decide (x11_1 < (l0.length : Int)) = true := decide_eq_true c6
       clear c6
       replace H := Option.bind_eq_some_iff.mp H
       obtain ⟨t262, A70, H⟩ := H
       replace H : (if t262 = true then (if ((rd_T73 l0 x11_1).f0) = 1 then ((impl_IsWord.f k1 ((rd_T73 l0 x11_1).f1)).bind fun t263 => (if t263 = true then (if ((rd_T73 l0 x11_1).f2) = 0 then (if ((rd_T73 l0 x11_1).f3) = 0 then (impl_IsPlay.l0 k1 l0 l0 (l0.length : Int) (wrap64 (x11_1 + 1))) else (some false)) else (some false)) else (some false))) else (if ((rd_T73 l0 x11_1).f1).toList = ([] : List UInt8) then ((impl_at.f ((rd_T73 l0 x11_1).f2) x11_1).bind fun t264 => (if t264 = true then ((impl_needsWord.f ((rd_T73 l0 x11_1).f0)).bind fun t265 => (if t265 = true then (if 0 ≤ ((rd_T73 l0 x11_1).f2) then (if ((rd_T73 l0 x11_1).f2) < (l0.length : Int) then (impl_IsPlay.j1 k1 l0 x11_1 l0 (l0.length : Int) x11_1 (((rd_T73 l0 ((rd_T73 l0 x11_1).f2)).f0) != 1) ((rd_T73 l0 x11_1).f0) ((rd_T73 l0 x11_1).f1) ((rd_T73 l0 x11_1).f2) ((rd_T73 l0 x11_1).f3)) else (none)) else (none)) else (impl_IsPlay.j1 k1 l0 x11_1 l0 (l0.length : Int) x11_1 false ((rd_T73 l0 x11_1).f0) ((rd_T73 l0 x11_1).f1) ((rd_T73 l0 x11_1).f2) ((rd_T73 l0 x11_1).f3)))) else (impl_IsPlay.j1 k1 l0 x11_1 l0 (l0.length : Int) x11_1 true ((rd_T73 l0 x11_1).f0) ((rd_T73 l0 x11_1).f1) ((rd_T73 l0 x11_1).f2) ((rd_T73 l0 x11_1).f3)))) else (impl_IsPlay.j1 k1 l0 x11_1 l0 (l0.length : Int) x11_1 true ((rd_T73 l0 x11_1).f0) ((rd_T73 l0 x11_1).f1) ((rd_T73 l0 x11_1).f2) ((rd_T73 l0 x11_1).f3)))) else (some false)) = some r := H
       have A7 := Aside0.mk A70
       clear A70
       by_cases c8 : t262 = true
       ·subst c8
        have H1 : (if ((rd_T73 l0 x11_1).f0) = 1 then ((impl_IsWord.f k1 ((rd_T73 l0 x11_1).f1)).bind fun t263 => (if t263 = true then (if ((rd_T73 l0 x11_1).f2) = 0 then (if ((rd_T73 l0 x11_1).f3) = 0 then (impl_IsPlay.l0 k1 l0 l0 (l0.length : Int) (wrap64 (x11_1 + 1))) else (some false)) else (some false)) else (some false))) else (if ((rd_T73 l0 x11_1).f1).toList = ([] : List UInt8) then ((impl_at.f ((rd_T73 l0 x11_1).f2) x11_1).bind fun t264 => (if t264 = true then ((impl_needsWord.f ((rd_T73 l0 x11_1).f0)).bind fun t265 => (if t265 = true then (if 0 ≤ ((rd_T73 l0 x11_1).f2) then (if ((rd_T73 l0 x11_1).f2) < (l0.length : Int) then (impl_IsPlay.j1 k1 l0 x11_1 l0 (l0.length : Int) x11_1 (((rd_T73 l0 ((rd_T73 l0 x11_1).f2)).f0) != 1) ((rd_T73 l0 x11_1).f0) ((rd_T73 l0 x11_1).f1) ((rd_T73 l0 x11_1).f2) ((rd_T73 l0 x11_1).f3)) else (none)) else (none)) else (impl_IsPlay.j1 k1 l0 x11_1 l0 (l0.length : Int) x11_1 false ((rd_T73 l0 x11_1).f0) ((rd_T73 l0 x11_1).f1) ((rd_T73 l0 x11_1).f2) ((rd_T73 l0 x11_1).f3)))) else (impl_IsPlay.j1 k1 l0 x11_1 l0 (l0.length : Int) x11_1 true ((rd_T73 l0 x11_1).f0) ((rd_T73 l0 x11_1).f1) ((rd_T73 l0 x11_1).f2) ((rd_T73 l0 x11_1).f3)))) else (impl_IsPlay.j1 k1 l0 x11_1 l0 (l0.length : Int) x11_1 true ((rd_T73 l0 x11_1).f0) ((rd_T73 l0 x11_1).f1) ((rd_T73 l0 x11_1).f2) ((rd_T73 l0 x11_1).f3)))) = some r := by rw [if_pos rfl] at H; exact H
        clear H
        have H := H1
        clear H1
        by_cases c9 : ((rd_T73 l0 x11_1).f0) = 1
        ·rw [if_pos c9] at H
         have c9b0 : (((rd_T73 l0 x11_1).f0) == 1) = true := beq_iff_eq.mpr c9
         have c9b1 : (((rd_T73 l0 x11_1).f0) != 1) = false := bne_eq_false_iff_eq.mpr c9
         clear c9
         replace H := Option.bind_eq_some_iff.mp H
         obtain ⟨t263, A100, H⟩ := H
         replace H : (if t263 = true then (if ((rd_T73 l0 x11_1).f2) = 0 then (if ((rd_T73 l0 x11_1).f3) = 0 then (impl_IsPlay.l0 k1 l0 l0 (l0.length : Int) (wrap64 (x11_1 + 1))) else (some false)) else (some false)) else (some false)) = some r := H
         have A10 := Aside0.mk A100
         clear A100
         by_cases c11 : t263 = true
         ·subst c11
          have H1 : (if ((rd_T73 l0 x11_1).f2) = 0 then (if ((rd_T73 l0 x11_1).f3) = 0 then (impl_IsPlay.l0 k1 l0 l0 (l0.length : Int) (wrap64 (x11_1 + 1))) else (some false)) else (some false)) = some r := by rw [if_pos rfl] at H; exact H
          clear H
          have H := H1
          clear H1
          by_cases c12 : ((rd_T73 l0 x11_1).f2) = 0
          ·rw [if_pos c12] at H
           have c12b0 : (((rd_T73 l0 x11_1).f2) == 0) = true := beq_iff_eq.mpr c12
           have c12b1 : (((rd_T73 l0 x11_1).f2) != 0) = false := bne_eq_false_iff_eq.mpr c12
           clear c12
           by_cases c13 : ((rd_T73 l0 x11_1).f3) = 0
           ·rw [if_pos c13] at H
            have c13b0 : (((rd_T73 l0 x11_1).f3) == 0) = true := beq_iff_eq.mpr c13
            have c13b1 : (((rd_T73 l0 x11_1).f3) != 0) = false := bne_eq_false_iff_eq.mpr c13
            clear c13
            have H' := Aside0.mk H
            clear H
            have p260 : 0 ≤ (x11_1 : Int) := OD
            have q260 : x11_1 < (l0.length : Int) := OD
            obtain ⟨ad260, e260, hx260_0, hx260_1, hx260_2, hx260_3⟩ := at_T73 HR0.out x11_1 p260 q260
            cases e260
            replace hx260_0 := (HB.out.cell (World.block_lt_of_cell? w _ hx260_0)).trans hx260_0
            replace hx260_1 := (HB.out.cell (World.block_lt_of_cell? w _ hx260_1)).trans hx260_1
            replace hx260_2 := (HB.out.cell (World.block_lt_of_cell? w _ hx260_2)).trans hx260_2
            replace hx260_3 := (HB.out.cell (World.block_lt_of_cell? w _ hx260_3)).trans hx260_3
            replace p260 := eq_true p260
            replace q260 := eq_true q260
            go_wp2_with (first | ((with_reducible refine gate_dst (N := 4) rfl ?_); refine box_ev (N := 4) (cs := #[.int .i64 0, .string (⟨#[]⟩ : ByteArray), .int .i64 0, .int .i64 0]) (t := 73) ?_; intro gb261 hg w14 hbox hb; have n0_ := BS (w := w) hb; have n1_ := Aside0.mk (hbox); have n2_ := SZ (w := w) hg; have n3_ := SZ (w := w) hg; clear HB; have HB := n0_; have BK261 := n1_; have GW261 := n2_; have GE261 := n3_; clear n0_ n1_ n2_ n3_; clear hb hbox hg; obtain ⟨hcz15_0, hcz15_1, hcz15_2, hcz15_3, hfz15_0, hfz15_1, hfz15_2, hfz15_3⟩ := cz4 BK261.out) | ((with_reducible refine gate_callee (f := 57) rfl ?_); refine goesS (some 18) Try.func57 #[.int .i64 ((rd_T73 l0 x11_1).f0), .int .i64 1, .int .i64 9] ?_; (with_reducible refine (impl_InRange.calls ((rd_T73 l0 x11_1).f0) 1 9 true _ A7.out).mono ?_); rintro e w' ⟨rfl, ⟨nd, rfl⟩⟩; refine ⟨_, rfl, ?_⟩) | ((with_reducible refine gate_callee (f := 68) rfl ?_); refine goesS (some 25) Try.func68 #[.string ((rd_T73 l0 x11_1).f1)] ?_; (with_reducible refine (impl_IsWord.calls k1 ((rd_T73 l0 x11_1).f1) true _ A10.out).mono ?_); rintro e w' ⟨rfl, ⟨nd, rfl⟩⟩; refine ⟨_, rfl, ?_⟩))
            go_roundg k1
            case measure => have := HK1.out; omega
            case rel => exact ⟨(wrap64 (x11_1 + 1)), EQ, H', ⟨by have := HK1.out; omega⟩, ⟨BL⟩⟩
           ·rw [if_neg c13] at H
            have c13b0 : (((rd_T73 l0 x11_1).f3) == 0) = false := beq_eq_false_iff_ne.mpr c13
            have c13b1 : (((rd_T73 l0 x11_1).f3) != 0) = true := bne_iff_ne.mpr c13
            obtain rfl := Option.some.inj H
            have p260 : 0 ≤ (x11_1 : Int) := OD
            have q260 : x11_1 < (l0.length : Int) := OD
            obtain ⟨ad260, e260, hx260_0, hx260_1, hx260_2, hx260_3⟩ := at_T73 HR0.out x11_1 p260 q260
            cases e260
            replace hx260_0 := (HB.out.cell (World.block_lt_of_cell? w _ hx260_0)).trans hx260_0
            replace hx260_1 := (HB.out.cell (World.block_lt_of_cell? w _ hx260_1)).trans hx260_1
            replace hx260_2 := (HB.out.cell (World.block_lt_of_cell? w _ hx260_2)).trans hx260_2
            replace hx260_3 := (HB.out.cell (World.block_lt_of_cell? w _ hx260_3)).trans hx260_3
            replace p260 := eq_true p260
            replace q260 := eq_true q260
            go_wp2_with (first | ((with_reducible refine gate_dst (N := 4) rfl ?_); refine box_ev (N := 4) (cs := #[.int .i64 0, .string (⟨#[]⟩ : ByteArray), .int .i64 0, .int .i64 0]) (t := 73) ?_; intro gb261 hg w16 hbox hb; have n0_ := BS (w := w) hb; have n1_ := Aside0.mk (hbox); have n2_ := SZ (w := w) hg; have n3_ := SZ (w := w) hg; clear HB; have HB := n0_; have BK261 := n1_; have GW261 := n2_; have GE261 := n3_; clear n0_ n1_ n2_ n3_; clear hb hbox hg; obtain ⟨hcz17_0, hcz17_1, hcz17_2, hcz17_3, hfz17_0, hfz17_1, hfz17_2, hfz17_3⟩ := cz4 BK261.out) | ((with_reducible refine gate_callee (f := 57) rfl ?_); refine goesS (some 18) Try.func57 #[.int .i64 ((rd_T73 l0 x11_1).f0), .int .i64 1, .int .i64 9] ?_; (with_reducible refine (impl_InRange.calls ((rd_T73 l0 x11_1).f0) 1 9 true _ A7.out).mono ?_); rintro e w' ⟨rfl, ⟨nd, rfl⟩⟩; refine ⟨_, rfl, ?_⟩) | ((with_reducible refine gate_callee (f := 68) rfl ?_); refine goesS (some 25) Try.func68 #[.string ((rd_T73 l0 x11_1).f1)] ?_; (with_reducible refine (impl_IsWord.calls k1 ((rd_T73 l0 x11_1).f1) true _ A10.out).mono ?_); rintro e w' ⟨rfl, ⟨nd, rfl⟩⟩; refine ⟨_, rfl, ?_⟩))
            go_ret
            exact ⟨EWW, BL⟩
          ·rw [if_neg c12] at H
           have c12b0 : (((rd_T73 l0 x11_1).f2) == 0) = false := beq_eq_false_iff_ne.mpr c12
           have c12b1 : (((rd_T73 l0 x11_1).f2) != 0) = true := bne_iff_ne.mpr c12
           obtain rfl := Option.some.inj H
           have p260 : 0 ≤ (x11_1 : Int) := OD
           have q260 : x11_1 < (l0.length : Int) := OD
           obtain ⟨ad260, e260, hx260_0, hx260_1, hx260_2, hx260_3⟩ := at_T73 HR0.out x11_1 p260 q260
           cases e260
           replace hx260_0 := (HB.out.cell (World.block_lt_of_cell? w _ hx260_0)).trans hx260_0
           replace hx260_1 := (HB.out.cell (World.block_lt_of_cell? w _ hx260_1)).trans hx260_1
           replace hx260_2 := (HB.out.cell (World.block_lt_of_cell? w _ hx260_2)).trans hx260_2
           replace hx260_3 := (HB.out.cell (World.block_lt_of_cell? w _ hx260_3)).trans hx260_3
           replace p260 := eq_true p260
           replace q260 := eq_true q260
           go_wp2_with (first | ((with_reducible refine gate_dst (N := 4) rfl ?_); refine box_ev (N := 4) (cs := #[.int .i64 0, .string (⟨#[]⟩ : ByteArray), .int .i64 0, .int .i64 0]) (t := 73) ?_; intro gb261 hg w18 hbox hb; have n0_ := BS (w := w) hb; have n1_ := Aside0.mk (hbox); have n2_ := SZ (w := w) hg; have n3_ := SZ (w := w) hg; clear HB; have HB := n0_; have BK261 := n1_; have GW261 := n2_; have GE261 := n3_; clear n0_ n1_ n2_ n3_; clear hb hbox hg; obtain ⟨hcz19_0, hcz19_1, hcz19_2, hcz19_3, hfz19_0, hfz19_1, hfz19_2, hfz19_3⟩ := cz4 BK261.out) | ((with_reducible refine gate_callee (f := 57) rfl ?_); refine goesS (some 18) Try.func57 #[.int .i64 ((rd_T73 l0 x11_1).f0), .int .i64 1, .int .i64 9] ?_; (with_reducible refine (impl_InRange.calls ((rd_T73 l0 x11_1).f0) 1 9 true _ A7.out).mono ?_); rintro e w' ⟨rfl, ⟨nd, rfl⟩⟩; refine ⟨_, rfl, ?_⟩) | ((with_reducible refine gate_callee (f := 68) rfl ?_); refine goesS (some 25) Try.func68 #[.string ((rd_T73 l0 x11_1).f1)] ?_; (with_reducible refine (impl_IsWord.calls k1 ((rd_T73 l0 x11_1).f1) true _ A10.out).mono ?_); rintro e w' ⟨rfl, ⟨nd, rfl⟩⟩; refine ⟨_, rfl, ?_⟩))
           go_ret
           exact ⟨EWW, BL⟩
         ·replace c11 := Bool.eq_false_iff.mpr c11
          subst c11
          have H1 : (some false) = some r := by rw [if_neg (show ¬ (false = true) by decide)] at H; exact H
          clear H
          have H := H1
          clear H1
          obtain rfl := Option.some.inj H
          have p260 : 0 ≤ (x11_1 : Int) := OD
          have q260 : x11_1 < (l0.length : Int) := OD
          obtain ⟨ad260, e260, hx260_0, hx260_1, hx260_2, hx260_3⟩ := at_T73 HR0.out x11_1 p260 q260
          cases e260
          replace hx260_0 := (HB.out.cell (World.block_lt_of_cell? w _ hx260_0)).trans hx260_0
          replace hx260_1 := (HB.out.cell (World.block_lt_of_cell? w _ hx260_1)).trans hx260_1
          replace hx260_2 := (HB.out.cell (World.block_lt_of_cell? w _ hx260_2)).trans hx260_2
          replace hx260_3 := (HB.out.cell (World.block_lt_of_cell? w _ hx260_3)).trans hx260_3
          replace p260 := eq_true p260
          replace q260 := eq_true q260
          go_wp2_with (first | ((with_reducible refine gate_dst (N := 4) rfl ?_); refine box_ev (N := 4) (cs := #[.int .i64 0, .string (⟨#[]⟩ : ByteArray), .int .i64 0, .int .i64 0]) (t := 73) ?_; intro gb261 hg w20 hbox hb; have n0_ := BS (w := w) hb; have n1_ := Aside0.mk (hbox); have n2_ := SZ (w := w) hg; have n3_ := SZ (w := w) hg; clear HB; have HB := n0_; have BK261 := n1_; have GW261 := n2_; have GE261 := n3_; clear n0_ n1_ n2_ n3_; clear hb hbox hg; obtain ⟨hcz21_0, hcz21_1, hcz21_2, hcz21_3, hfz21_0, hfz21_1, hfz21_2, hfz21_3⟩ := cz4 BK261.out) | ((with_reducible refine gate_callee (f := 57) rfl ?_); refine goesS (some 18) Try.func57 #[.int .i64 ((rd_T73 l0 x11_1).f0), .int .i64 1, .int .i64 9] ?_; (with_reducible refine (impl_InRange.calls ((rd_T73 l0 x11_1).f0) 1 9 true _ A7.out).mono ?_); rintro e w' ⟨rfl, ⟨nd, rfl⟩⟩; refine ⟨_, rfl, ?_⟩) | ((with_reducible refine gate_callee (f := 68) rfl ?_); refine goesS (some 25) Try.func68 #[.string ((rd_T73 l0 x11_1).f1)] ?_; (with_reducible refine (impl_IsWord.calls k1 ((rd_T73 l0 x11_1).f1) false _ A10.out).mono ?_); rintro e w' ⟨rfl, ⟨nd, rfl⟩⟩; refine ⟨_, rfl, ?_⟩))
          go_ret
          exact ⟨EWW, BL⟩
        ·rw [if_neg c9] at H
         have c9b0 : (((rd_T73 l0 x11_1).f0) == 1) = false := beq_eq_false_iff_ne.mpr c9
         have c9b1 : (((rd_T73 l0 x11_1).f0) != 1) = true := bne_iff_ne.mpr c9
         have HC22 := Aside0.mk H
         clear H
         have p260 : 0 ≤ (x11_1 : Int) := OD
         have q260 : x11_1 < (l0.length : Int) := OD
         obtain ⟨ad260, e260, hx260_0, hx260_1, hx260_2, hx260_3⟩ := at_T73 HR0.out x11_1 p260 q260
         cases e260
         replace hx260_0 := (HB.out.cell (World.block_lt_of_cell? w _ hx260_0)).trans hx260_0
         replace hx260_1 := (HB.out.cell (World.block_lt_of_cell? w _ hx260_1)).trans hx260_1
         replace hx260_2 := (HB.out.cell (World.block_lt_of_cell? w _ hx260_2)).trans hx260_2
         replace hx260_3 := (HB.out.cell (World.block_lt_of_cell? w _ hx260_3)).trans hx260_3
         replace p260 := eq_true p260
         replace q260 := eq_true q260
         go_upto_region 11 with (first | ((with_reducible refine gate_dst (N := 4) rfl ?_); refine box_ev (N := 4) (cs := #[.int .i64 0, .string (⟨#[]⟩ : ByteArray), .int .i64 0, .int .i64 0]) (t := 73) ?_; intro gb261 hg w23 hbox hb; have n0_ := BS (w := w) hb; have n1_ := Aside0.mk (hbox); have n2_ := SZ (w := w) hg; have n3_ := SZ (w := w) hg; clear HB; have HB := n0_; have BK261 := n1_; have GW261 := n2_; have GE261 := n3_; clear n0_ n1_ n2_ n3_; clear hb hbox hg; obtain ⟨hcz24_0, hcz24_1, hcz24_2, hcz24_3, hfz24_0, hfz24_1, hfz24_2, hfz24_3⟩ := cz4 BK261.out) | ((with_reducible refine gate_callee (f := 57) rfl ?_); refine goesS (some 18) Try.func57 #[.int .i64 ((rd_T73 l0 x11_1).f0), .int .i64 1, .int .i64 9] ?_; (with_reducible refine (impl_InRange.calls ((rd_T73 l0 x11_1).f0) 1 9 true _ A7.out).mono ?_); rintro e w' ⟨rfl, ⟨nd, rfl⟩⟩; refine ⟨_, rfl, ?_⟩))
         (try simp only [Act.put, List.setIfInBounds_toArray, List.set_cons_zero, List.set_cons_succ])
         go_cut [60] (fun v60 wc => ∃ (kq : Nat) (x60_21 : Bool), v60 = .bool x60_21 ∧ Aside0 (impl_IsPlay.j1 kq l0 x11_1 l0 (l0.length : Int) x11_1 x60_21 ((rd_T73 l0 x11_1).f0) ((rd_T73 l0 x11_1).f1) ((rd_T73 l0 x11_1).f2) ((rd_T73 l0 x11_1).f3) = some r) ∧ Aside0 (kq ≤ k1) ∧ Aside0 (wc.heap[gb261]? = some (.cells #[.int .i64 ((rd_T73 l0 x11_1).f0), .string ((rd_T73 l0 x11_1).f1), .int .i64 ((rd_T73 l0 x11_1).f2), .int .i64 ((rd_T73 l0 x11_1).f3)] 73 (0, 0))) ∧ Aside0 (Below w.heap.size w wc))
         case first =>
          have H := HC22.out
          clear HC22
          by_cases c25 : ((rd_T73 l0 x11_1).f1).toList = ([] : List UInt8)
          ·rw [if_pos c25] at H
           have c25b0 : (((rd_T73 l0 x11_1).f1).toList == ([] : List UInt8)) = true := beq_iff_eq.mpr c25
           have c25b1 : (((rd_T73 l0 x11_1).f1).toList != ([] : List UInt8)) = false := bne_eq_false_iff_eq.mpr c25
           clear c25
           (first | rw [c25b0] | (simp only [i64_w, i32_w]; rw [c25b0]) | skip)
           replace H := Option.bind_eq_some_iff.mp H
           obtain ⟨t264, A260, H⟩ := H
           replace H : (if t264 = true then ((impl_needsWord.f ((rd_T73 l0 x11_1).f0)).bind fun t265 => (if t265 = true then (if 0 ≤ ((rd_T73 l0 x11_1).f2) then (if ((rd_T73 l0 x11_1).f2) < (l0.length : Int) then (impl_IsPlay.j1 k1 l0 x11_1 l0 (l0.length : Int) x11_1 (((rd_T73 l0 ((rd_T73 l0 x11_1).f2)).f0) != 1) ((rd_T73 l0 x11_1).f0) ((rd_T73 l0 x11_1).f1) ((rd_T73 l0 x11_1).f2) ((rd_T73 l0 x11_1).f3)) else (none)) else (none)) else (impl_IsPlay.j1 k1 l0 x11_1 l0 (l0.length : Int) x11_1 false ((rd_T73 l0 x11_1).f0) ((rd_T73 l0 x11_1).f1) ((rd_T73 l0 x11_1).f2) ((rd_T73 l0 x11_1).f3)))) else (impl_IsPlay.j1 k1 l0 x11_1 l0 (l0.length : Int) x11_1 true ((rd_T73 l0 x11_1).f0) ((rd_T73 l0 x11_1).f1) ((rd_T73 l0 x11_1).f2) ((rd_T73 l0 x11_1).f3))) = some r := H
           have A26 := Aside0.mk A260
           clear A260
           by_cases c27 : t264 = true
           ·subst c27
            have H1 : ((impl_needsWord.f ((rd_T73 l0 x11_1).f0)).bind fun t265 => (if t265 = true then (if 0 ≤ ((rd_T73 l0 x11_1).f2) then (if ((rd_T73 l0 x11_1).f2) < (l0.length : Int) then (impl_IsPlay.j1 k1 l0 x11_1 l0 (l0.length : Int) x11_1 (((rd_T73 l0 ((rd_T73 l0 x11_1).f2)).f0) != 1) ((rd_T73 l0 x11_1).f0) ((rd_T73 l0 x11_1).f1) ((rd_T73 l0 x11_1).f2) ((rd_T73 l0 x11_1).f3)) else (none)) else (none)) else (impl_IsPlay.j1 k1 l0 x11_1 l0 (l0.length : Int) x11_1 false ((rd_T73 l0 x11_1).f0) ((rd_T73 l0 x11_1).f1) ((rd_T73 l0 x11_1).f2) ((rd_T73 l0 x11_1).f3)))) = some r := by rw [if_pos rfl] at H; exact H
            clear H
            have H := H1
            clear H1
            replace H := Option.bind_eq_some_iff.mp H
            obtain ⟨t265, A280, H⟩ := H
            replace H : (if t265 = true then (if 0 ≤ ((rd_T73 l0 x11_1).f2) then (if ((rd_T73 l0 x11_1).f2) < (l0.length : Int) then (impl_IsPlay.j1 k1 l0 x11_1 l0 (l0.length : Int) x11_1 (((rd_T73 l0 ((rd_T73 l0 x11_1).f2)).f0) != 1) ((rd_T73 l0 x11_1).f0) ((rd_T73 l0 x11_1).f1) ((rd_T73 l0 x11_1).f2) ((rd_T73 l0 x11_1).f3)) else (none)) else (none)) else (impl_IsPlay.j1 k1 l0 x11_1 l0 (l0.length : Int) x11_1 false ((rd_T73 l0 x11_1).f0) ((rd_T73 l0 x11_1).f1) ((rd_T73 l0 x11_1).f2) ((rd_T73 l0 x11_1).f3))) = some r := H
            have A28 := Aside0.mk A280
            clear A280
            by_cases c29 : t265 = true
            ·subst c29
             have H1 : (if 0 ≤ ((rd_T73 l0 x11_1).f2) then (if ((rd_T73 l0 x11_1).f2) < (l0.length : Int) then (impl_IsPlay.j1 k1 l0 x11_1 l0 (l0.length : Int) x11_1 (((rd_T73 l0 ((rd_T73 l0 x11_1).f2)).f0) != 1) ((rd_T73 l0 x11_1).f0) ((rd_T73 l0 x11_1).f1) ((rd_T73 l0 x11_1).f2) ((rd_T73 l0 x11_1).f3)) else (none)) else (none)) = some r := by rw [if_pos rfl] at H; exact H
             clear H
             have H := H1
             clear H1
             by_cases c30 : 0 ≤ ((rd_T73 l0 x11_1).f2)
             ·rw [if_pos c30] at H
              have c30b0 : decide (0 ≤ ((rd_T73 l0 x11_1).f2)) = true := decide_eq_true c30
              clear c30
              by_cases c31 : ((rd_T73 l0 x11_1).f2) < (l0.length : Int)
              ·rw [if_pos c31] at H
               have c31b0 : decide (((rd_T73 l0 x11_1).f2) < (l0.length : Int)) = true := decide_eq_true c31
               clear c31
               have H' := Aside0.mk H
               clear H
               obtain ⟨hcz32_0, hcz32_1, hcz32_2, hcz32_3, hfz32_0, hfz32_1, hfz32_2, hfz32_3⟩ := cz4 BK261.out
               go_wp2_with (first | (go_at_call 82; (with_reducible refine (impl_at.calls ((rd_T73 l0 x11_1).f2) x11_1 true _ A26.out).mono ?_); rintro e w' ⟨rfl, ⟨nd, rfl⟩⟩) | (go_at_call 83; (with_reducible refine (impl_needsWord.calls ((rd_T73 l0 x11_1).f0) true _ A28.out).mono ?_); rintro e w' ⟨rfl, ⟨nd, rfl⟩⟩; have p266 : 0 ≤ (((rd_T73 l0 x11_1).f2) : Int) := OD; have q266 : ((rd_T73 l0 x11_1).f2) < (l0.length : Int) := OD; obtain ⟨ad266, e266, hx266_0, hx266_1, hx266_2, hx266_3⟩ := at_T73 HR0.out ((rd_T73 l0 x11_1).f2) p266 q266; obtain rfl : ad260 = ad266 := (by injection e266); have hn266_0 : ad260.block ≠ gb261 := Nat.ne_of_lt (Nat.lt_of_lt_of_le (by have := World.block_lt_of_cell? _ _ hx266_0; first | rwa [add_block] at this | exact this) GW261.out); have hn266_1 : ad260.block ≠ gb261 := Nat.ne_of_lt (Nat.lt_of_lt_of_le (by have := World.block_lt_of_cell? _ _ hx266_0; first | rwa [add_block] at this | exact this) GW261.out); have hn266_2 : ad260.block ≠ gb261 := Nat.ne_of_lt (Nat.lt_of_lt_of_le (by have := World.block_lt_of_cell? _ _ hx266_0; first | rwa [add_block] at this | exact this) GW261.out); have hn266_3 : ad260.block ≠ gb261 := Nat.ne_of_lt (Nat.lt_of_lt_of_le (by have := World.block_lt_of_cell? _ _ hx266_0; first | rwa [add_block] at this | exact this) GW261.out); replace hx266_0 := (HB.out.cell (World.block_lt_of_cell? w _ hx266_0)).trans hx266_0; replace hx266_1 := (HB.out.cell (World.block_lt_of_cell? w _ hx266_1)).trans hx266_1; replace hx266_2 := (HB.out.cell (World.block_lt_of_cell? w _ hx266_2)).trans hx266_2; replace hx266_3 := (HB.out.cell (World.block_lt_of_cell? w _ hx266_3)).trans hx266_3; replace hx266_0 := (cell_far (p := ⟨gb261, 0, none⟩) (by first | (rw [add_block]; exact hn266_0) | (show (Addr.add _ _).block ≠ _; rw [add_block]; exact hn266_0) | exact hn266_0) (.int .i64 ((rd_T73 l0 x11_1).f0))).trans hx266_0; replace hx266_1 := (cell_far (p := ⟨gb261, 0, none⟩) (by first | (rw [add_block]; exact hn266_0) | (show (Addr.add _ _).block ≠ _; rw [add_block]; exact hn266_0) | exact hn266_0) (.int .i64 ((rd_T73 l0 x11_1).f0))).trans hx266_1; replace hx266_2 := (cell_far (p := ⟨gb261, 0, none⟩) (by first | (rw [add_block]; exact hn266_0) | (show (Addr.add _ _).block ≠ _; rw [add_block]; exact hn266_0) | exact hn266_0) (.int .i64 ((rd_T73 l0 x11_1).f0))).trans hx266_2; replace hx266_3 := (cell_far (p := ⟨gb261, 0, none⟩) (by first | (rw [add_block]; exact hn266_0) | (show (Addr.add _ _).block ≠ _; rw [add_block]; exact hn266_0) | exact hn266_0) (.int .i64 ((rd_T73 l0 x11_1).f0))).trans hx266_3; replace hx266_0 := (cell_far (p := ⟨gb261, 1, none⟩) (by first | (rw [add_block]; exact hn266_1) | (show (Addr.add _ _).block ≠ _; rw [add_block]; exact hn266_1) | exact hn266_1) (.string ((rd_T73 l0 x11_1).f1))).trans hx266_0; replace hx266_1 := (cell_far (p := ⟨gb261, 1, none⟩) (by first | (rw [add_block]; exact hn266_1) | (show (Addr.add _ _).block ≠ _; rw [add_block]; exact hn266_1) | exact hn266_1) (.string ((rd_T73 l0 x11_1).f1))).trans hx266_1; replace hx266_2 := (cell_far (p := ⟨gb261, 1, none⟩) (by first | (rw [add_block]; exact hn266_1) | (show (Addr.add _ _).block ≠ _; rw [add_block]; exact hn266_1) | exact hn266_1) (.string ((rd_T73 l0 x11_1).f1))).trans hx266_2; replace hx266_3 := (cell_far (p := ⟨gb261, 1, none⟩) (by first | (rw [add_block]; exact hn266_1) | (show (Addr.add _ _).block ≠ _; rw [add_block]; exact hn266_1) | exact hn266_1) (.string ((rd_T73 l0 x11_1).f1))).trans hx266_3; replace hx266_0 := (cell_far (p := ⟨gb261, 2, none⟩) (by first | (rw [add_block]; exact hn266_2) | (show (Addr.add _ _).block ≠ _; rw [add_block]; exact hn266_2) | exact hn266_2) (.int .i64 ((rd_T73 l0 x11_1).f2))).trans hx266_0; replace hx266_1 := (cell_far (p := ⟨gb261, 2, none⟩) (by first | (rw [add_block]; exact hn266_2) | (show (Addr.add _ _).block ≠ _; rw [add_block]; exact hn266_2) | exact hn266_2) (.int .i64 ((rd_T73 l0 x11_1).f2))).trans hx266_1; replace hx266_2 := (cell_far (p := ⟨gb261, 2, none⟩) (by first | (rw [add_block]; exact hn266_2) | (show (Addr.add _ _).block ≠ _; rw [add_block]; exact hn266_2) | exact hn266_2) (.int .i64 ((rd_T73 l0 x11_1).f2))).trans hx266_2; replace hx266_3 := (cell_far (p := ⟨gb261, 2, none⟩) (by first | (rw [add_block]; exact hn266_2) | (show (Addr.add _ _).block ≠ _; rw [add_block]; exact hn266_2) | exact hn266_2) (.int .i64 ((rd_T73 l0 x11_1).f2))).trans hx266_3; replace hx266_0 := (cell_far (p := ⟨gb261, 3, none⟩) (by first | (rw [add_block]; exact hn266_3) | (show (Addr.add _ _).block ≠ _; rw [add_block]; exact hn266_3) | exact hn266_3) (.int .i64 ((rd_T73 l0 x11_1).f3))).trans hx266_0; replace hx266_1 := (cell_far (p := ⟨gb261, 3, none⟩) (by first | (rw [add_block]; exact hn266_3) | (show (Addr.add _ _).block ≠ _; rw [add_block]; exact hn266_3) | exact hn266_3) (.int .i64 ((rd_T73 l0 x11_1).f3))).trans hx266_1; replace hx266_2 := (cell_far (p := ⟨gb261, 3, none⟩) (by first | (rw [add_block]; exact hn266_3) | (show (Addr.add _ _).block ≠ _; rw [add_block]; exact hn266_3) | exact hn266_3) (.int .i64 ((rd_T73 l0 x11_1).f3))).trans hx266_2; replace hx266_3 := (cell_far (p := ⟨gb261, 3, none⟩) (by first | (rw [add_block]; exact hn266_3) | (show (Addr.add _ _).block ≠ _; rw [add_block]; exact hn266_3) | exact hn266_3) (.int .i64 ((rd_T73 l0 x11_1).f3))).trans hx266_3; clear hn266_0 hn266_1 hn266_2 hn266_3; replace p266 := eq_true p266; replace q266 := eq_true q266))
               go_meet
               case rel => exact ⟨_, ((((rd_T73 l0 ((rd_T73 l0 x11_1).f2)).f0) != 1)), EQ, H', ⟨by have := HK1.out; first | omega | exact Nat.le_refl _⟩, ⟨by (with_reducible repeat (first | refine blk_drewN ?_ _ | refine blk_drew ?_ | refine blk_alloc ?_ _)); refine blk_put (cs := #[.int .i64 ((rd_T73 l0 x11_1).f0), .string ((rd_T73 l0 x11_1).f1), .int .i64 ((rd_T73 l0 x11_1).f2), .int .i64 0]) ?_ 3 _ rfl; (with_reducible repeat (first | refine blk_drewN ?_ _ | refine blk_drew ?_ | refine blk_alloc ?_ _)); refine blk_put (cs := #[.int .i64 ((rd_T73 l0 x11_1).f0), .string ((rd_T73 l0 x11_1).f1), .int .i64 0, .int .i64 0]) ?_ 2 _ rfl; (with_reducible repeat (first | refine blk_drewN ?_ _ | refine blk_drew ?_ | refine blk_alloc ?_ _)); refine blk_put (cs := #[.int .i64 ((rd_T73 l0 x11_1).f0), .string (⟨#[]⟩ : ByteArray), .int .i64 0, .int .i64 0]) ?_ 1 _ rfl; (with_reducible repeat (first | refine blk_drewN ?_ _ | refine blk_drew ?_ | refine blk_alloc ?_ _)); refine blk_put (cs := #[.int .i64 0, .string (⟨#[]⟩ : ByteArray), .int .i64 0, .int .i64 0]) ?_ 0 _ rfl; (with_reducible repeat (first | refine blk_drewN ?_ _ | refine blk_drew ?_ | refine blk_alloc ?_ _)); exact BK261.out⟩, ⟨BL⟩⟩
              ·rw [if_neg c31] at H
               exact absurd H (by simp)
             ·rw [if_neg c30] at H
              exact absurd H (by simp)
            ·replace c29 := Bool.eq_false_iff.mpr c29
             subst c29
             have H1 : (impl_IsPlay.j1 k1 l0 x11_1 l0 (l0.length : Int) x11_1 false ((rd_T73 l0 x11_1).f0) ((rd_T73 l0 x11_1).f1) ((rd_T73 l0 x11_1).f2) ((rd_T73 l0 x11_1).f3)) = some r := by rw [if_neg (show ¬ (false = true) by decide)] at H; exact H
             clear H
             have H := H1
             clear H1
             have H' := Aside0.mk H
             clear H
             obtain ⟨hcz33_0, hcz33_1, hcz33_2, hcz33_3, hfz33_0, hfz33_1, hfz33_2, hfz33_3⟩ := cz4 BK261.out
             go_wp2_with (first | (go_at_call 82; (with_reducible refine (impl_at.calls ((rd_T73 l0 x11_1).f2) x11_1 true _ A26.out).mono ?_); rintro e w' ⟨rfl, ⟨nd, rfl⟩⟩) | (go_at_call 83; (with_reducible refine (impl_needsWord.calls ((rd_T73 l0 x11_1).f0) false _ A28.out).mono ?_); rintro e w' ⟨rfl, ⟨nd, rfl⟩⟩))
             go_meet
             case rel => exact ⟨_, (false), EQ, H', ⟨by have := HK1.out; first | omega | exact Nat.le_refl _⟩, ⟨by (with_reducible repeat (first | refine blk_drewN ?_ _ | refine blk_drew ?_ | refine blk_alloc ?_ _)); refine blk_put (cs := #[.int .i64 ((rd_T73 l0 x11_1).f0), .string ((rd_T73 l0 x11_1).f1), .int .i64 ((rd_T73 l0 x11_1).f2), .int .i64 0]) ?_ 3 _ rfl; (with_reducible repeat (first | refine blk_drewN ?_ _ | refine blk_drew ?_ | refine blk_alloc ?_ _)); refine blk_put (cs := #[.int .i64 ((rd_T73 l0 x11_1).f0), .string ((rd_T73 l0 x11_1).f1), .int .i64 0, .int .i64 0]) ?_ 2 _ rfl; (with_reducible repeat (first | refine blk_drewN ?_ _ | refine blk_drew ?_ | refine blk_alloc ?_ _)); refine blk_put (cs := #[.int .i64 ((rd_T73 l0 x11_1).f0), .string (⟨#[]⟩ : ByteArray), .int .i64 0, .int .i64 0]) ?_ 1 _ rfl; (with_reducible repeat (first | refine blk_drewN ?_ _ | refine blk_drew ?_ | refine blk_alloc ?_ _)); refine blk_put (cs := #[.int .i64 0, .string (⟨#[]⟩ : ByteArray), .int .i64 0, .int .i64 0]) ?_ 0 _ rfl; (with_reducible repeat (first | refine blk_drewN ?_ _ | refine blk_drew ?_ | refine blk_alloc ?_ _)); exact BK261.out⟩, ⟨BL⟩⟩
           ·replace c27 := Bool.eq_false_iff.mpr c27
            subst c27
            have H1 : (impl_IsPlay.j1 k1 l0 x11_1 l0 (l0.length : Int) x11_1 true ((rd_T73 l0 x11_1).f0) ((rd_T73 l0 x11_1).f1) ((rd_T73 l0 x11_1).f2) ((rd_T73 l0 x11_1).f3)) = some r := by rw [if_neg (show ¬ (false = true) by decide)] at H; exact H
            clear H
            have H := H1
            clear H1
            have H' := Aside0.mk H
            clear H
            obtain ⟨hcz34_0, hcz34_1, hcz34_2, hcz34_3, hfz34_0, hfz34_1, hfz34_2, hfz34_3⟩ := cz4 BK261.out
            go_wp2_with (first | (go_at_call 82; (with_reducible refine (impl_at.calls ((rd_T73 l0 x11_1).f2) x11_1 false _ A26.out).mono ?_); rintro e w' ⟨rfl, ⟨nd, rfl⟩⟩))
            go_meet
            case rel => exact ⟨_, (true), EQ, H', ⟨by have := HK1.out; first | omega | exact Nat.le_refl _⟩, ⟨by (with_reducible repeat (first | refine blk_drewN ?_ _ | refine blk_drew ?_ | refine blk_alloc ?_ _)); refine blk_put (cs := #[.int .i64 ((rd_T73 l0 x11_1).f0), .string ((rd_T73 l0 x11_1).f1), .int .i64 ((rd_T73 l0 x11_1).f2), .int .i64 0]) ?_ 3 _ rfl; (with_reducible repeat (first | refine blk_drewN ?_ _ | refine blk_drew ?_ | refine blk_alloc ?_ _)); refine blk_put (cs := #[.int .i64 ((rd_T73 l0 x11_1).f0), .string ((rd_T73 l0 x11_1).f1), .int .i64 0, .int .i64 0]) ?_ 2 _ rfl; (with_reducible repeat (first | refine blk_drewN ?_ _ | refine blk_drew ?_ | refine blk_alloc ?_ _)); refine blk_put (cs := #[.int .i64 ((rd_T73 l0 x11_1).f0), .string (⟨#[]⟩ : ByteArray), .int .i64 0, .int .i64 0]) ?_ 1 _ rfl; (with_reducible repeat (first | refine blk_drewN ?_ _ | refine blk_drew ?_ | refine blk_alloc ?_ _)); refine blk_put (cs := #[.int .i64 0, .string (⟨#[]⟩ : ByteArray), .int .i64 0, .int .i64 0]) ?_ 0 _ rfl; (with_reducible repeat (first | refine blk_drewN ?_ _ | refine blk_drew ?_ | refine blk_alloc ?_ _)); exact BK261.out⟩, ⟨BL⟩⟩
          ·rw [if_neg c25] at H
           have c25b0 : (((rd_T73 l0 x11_1).f1).toList == ([] : List UInt8)) = false := beq_eq_false_iff_ne.mpr c25
           have c25b1 : (((rd_T73 l0 x11_1).f1).toList != ([] : List UInt8)) = true := bne_iff_ne.mpr c25
           (first | rw [c25b0] | (simp only [i64_w, i32_w]; rw [c25b0]) | skip)
           have H' := Aside0.mk H
           clear H
           obtain ⟨hcz35_0, hcz35_1, hcz35_2, hcz35_3, hfz35_0, hfz35_1, hfz35_2, hfz35_3⟩ := cz4 BK261.out
           go_wp2
           go_meet
           case rel => exact ⟨_, (true), EQ, H', ⟨by have := HK1.out; first | omega | exact Nat.le_refl _⟩, ⟨by (with_reducible repeat (first | refine blk_drewN ?_ _ | refine blk_drew ?_ | refine blk_alloc ?_ _)); refine blk_put (cs := #[.int .i64 ((rd_T73 l0 x11_1).f0), .string ((rd_T73 l0 x11_1).f1), .int .i64 ((rd_T73 l0 x11_1).f2), .int .i64 0]) ?_ 3 _ rfl; (with_reducible repeat (first | refine blk_drewN ?_ _ | refine blk_drew ?_ | refine blk_alloc ?_ _)); refine blk_put (cs := #[.int .i64 ((rd_T73 l0 x11_1).f0), .string ((rd_T73 l0 x11_1).f1), .int .i64 0, .int .i64 0]) ?_ 2 _ rfl; (with_reducible repeat (first | refine blk_drewN ?_ _ | refine blk_drew ?_ | refine blk_alloc ?_ _)); refine blk_put (cs := #[.int .i64 ((rd_T73 l0 x11_1).f0), .string (⟨#[]⟩ : ByteArray), .int .i64 0, .int .i64 0]) ?_ 1 _ rfl; (with_reducible repeat (first | refine blk_drewN ?_ _ | refine blk_drew ?_ | refine blk_alloc ?_ _)); refine blk_put (cs := #[.int .i64 0, .string (⟨#[]⟩ : ByteArray), .int .i64 0, .int .i64 0]) ?_ 0 _ rfl; (with_reducible repeat (first | refine blk_drewN ?_ _ | refine blk_drew ?_ | refine blk_alloc ?_ _)); exact BK261.out⟩, ⟨BL⟩⟩
         case rest =>
          clear HC22
          try clear c3
          try clear c4
          try clear c4b0
          try clear c5
          try clear c5b0
          try clear c6
          try clear c6b0
          try clear c8
          try clear c9
          try clear c9b0
          try clear c9b1
          try clear hcz24_0
          try clear hcz24_1
          try clear hcz24_2
          try clear hcz24_3
          try clear hfz24_0
          try clear hfz24_1
          try clear hfz24_2
          try clear hfz24_3
          try clear hx260_0
          try clear hx260_1
          try clear hx260_2
          try clear hx260_3
          try clear p260
          try clear q260
          obtain ⟨kq, x60_21, rfl, HA, HJ21, BK261, HB⟩ := hcut
          cases kq with
          | zero => exact absurd HA.out (by simp [impl_IsPlay.j1])
          | succ kj21 =>
           have H := HA.out
           clear HA
           simp only [impl_IsPlay.j1] at H
           by_cases c36 : x60_21 = true
           ·subst c36
            have H1 : (some false) = some r := by rw [if_pos rfl] at H; exact H
            clear H
            have H := H1
            clear H1
            obtain rfl := Option.some.inj H
            go_wp2
            go_ret
            exact ⟨EWW, BL⟩
           ·replace c36 := Bool.eq_false_iff.mpr c36
            subst c36
            have H1 : ((impl_isPair.f ((rd_T73 l0 x11_1).f0)).bind fun t267 => (if t267 = true then ((impl_at.f ((rd_T73 l0 x11_1).f3) x11_1).bind fun t268 => (if t268 = true then ((impl_isPair.f ((rd_T73 l0 x11_1).f0)).bind fun t269 => (if t269 = true then (impl_IsPlay.l0 kj21 l0 l0 (l0.length : Int) (wrap64 (x11_1 + 1))) else (if ((rd_T73 l0 x11_1).f3) = 0 then (impl_IsPlay.l0 kj21 l0 l0 (l0.length : Int) (wrap64 (x11_1 + 1))) else (some false)))) else (some false))) else ((impl_isPair.f ((rd_T73 l0 x11_1).f0)).bind fun t270 => (if t270 = true then (impl_IsPlay.l0 kj21 l0 l0 (l0.length : Int) (wrap64 (x11_1 + 1))) else (if ((rd_T73 l0 x11_1).f3) = 0 then (impl_IsPlay.l0 kj21 l0 l0 (l0.length : Int) (wrap64 (x11_1 + 1))) else (some false)))))) = some r := by rw [if_neg (show ¬ (false = true) by decide)] at H; exact H
            clear H
            have H := H1
            clear H1
            replace H := Option.bind_eq_some_iff.mp H
            obtain ⟨t267, A370, H⟩ := H
            replace H : (if t267 = true then ((impl_at.f ((rd_T73 l0 x11_1).f3) x11_1).bind fun t268 => (if t268 = true then ((impl_isPair.f ((rd_T73 l0 x11_1).f0)).bind fun t269 => (if t269 = true then (impl_IsPlay.l0 kj21 l0 l0 (l0.length : Int) (wrap64 (x11_1 + 1))) else (if ((rd_T73 l0 x11_1).f3) = 0 then (impl_IsPlay.l0 kj21 l0 l0 (l0.length : Int) (wrap64 (x11_1 + 1))) else (some false)))) else (some false))) else ((impl_isPair.f ((rd_T73 l0 x11_1).f0)).bind fun t270 => (if t270 = true then (impl_IsPlay.l0 kj21 l0 l0 (l0.length : Int) (wrap64 (x11_1 + 1))) else (if ((rd_T73 l0 x11_1).f3) = 0 then (impl_IsPlay.l0 kj21 l0 l0 (l0.length : Int) (wrap64 (x11_1 + 1))) else (some false))))) = some r := H
            have A37 := Aside0.mk A370
            clear A370
            by_cases c38 : t267 = true
            ·subst c38
             have H1 : ((impl_at.f ((rd_T73 l0 x11_1).f3) x11_1).bind fun t268 => (if t268 = true then ((impl_isPair.f ((rd_T73 l0 x11_1).f0)).bind fun t269 => (if t269 = true then (impl_IsPlay.l0 kj21 l0 l0 (l0.length : Int) (wrap64 (x11_1 + 1))) else (if ((rd_T73 l0 x11_1).f3) = 0 then (impl_IsPlay.l0 kj21 l0 l0 (l0.length : Int) (wrap64 (x11_1 + 1))) else (some false)))) else (some false))) = some r := by rw [if_pos rfl] at H; exact H
             clear H
             have H := H1
             clear H1
             replace H := Option.bind_eq_some_iff.mp H
             obtain ⟨t268, A390, H⟩ := H
             replace H : (if t268 = true then ((impl_isPair.f ((rd_T73 l0 x11_1).f0)).bind fun t269 => (if t269 = true then (impl_IsPlay.l0 kj21 l0 l0 (l0.length : Int) (wrap64 (x11_1 + 1))) else (if ((rd_T73 l0 x11_1).f3) = 0 then (impl_IsPlay.l0 kj21 l0 l0 (l0.length : Int) (wrap64 (x11_1 + 1))) else (some false)))) else (some false)) = some r := H
             have A39 := Aside0.mk A390
             clear A390
             by_cases c40 : t268 = true
             ·subst c40
              have H1 : ((impl_isPair.f ((rd_T73 l0 x11_1).f0)).bind fun t269 => (if t269 = true then (impl_IsPlay.l0 kj21 l0 l0 (l0.length : Int) (wrap64 (x11_1 + 1))) else (if ((rd_T73 l0 x11_1).f3) = 0 then (impl_IsPlay.l0 kj21 l0 l0 (l0.length : Int) (wrap64 (x11_1 + 1))) else (some false)))) = some r := by rw [if_pos rfl] at H; exact H
              clear H
              have H := H1
              clear H1
              replace H := Option.bind_eq_some_iff.mp H
              obtain ⟨t269, A410, H⟩ := H
              replace H : (if t269 = true then (impl_IsPlay.l0 kj21 l0 l0 (l0.length : Int) (wrap64 (x11_1 + 1))) else (if ((rd_T73 l0 x11_1).f3) = 0 then (impl_IsPlay.l0 kj21 l0 l0 (l0.length : Int) (wrap64 (x11_1 + 1))) else (some false))) = some r := H
              have A41 := Aside0.mk A410
              clear A410
              by_cases c42 : t269 = true
              ·subst c42
               have H1 : (impl_IsPlay.l0 kj21 l0 l0 (l0.length : Int) (wrap64 (x11_1 + 1))) = some r := by rw [if_pos rfl] at H; exact H
               clear H
               have H := H1
               clear H1
               have H' := Aside0.mk H
               clear H
               obtain ⟨hcz43_0, hcz43_1, hcz43_2, hcz43_3, hfz43_0, hfz43_1, hfz43_2, hfz43_3⟩ := cz4 BK261.out
               go_wp2_with (first | ((with_reducible refine gate_callee (f := 84) rfl ?_); refine goesS (some 63) Try.func84 #[.int .i64 ((rd_T73 l0 x11_1).f0)] ?_; (with_reducible refine (impl_isPair.calls ((rd_T73 l0 x11_1).f0) true _ A37.out).mono ?_); rintro e w' ⟨rfl, ⟨nd, rfl⟩⟩; refine ⟨_, rfl, ?_⟩) | (go_at_call 82; (with_reducible refine (impl_at.calls ((rd_T73 l0 x11_1).f3) x11_1 true _ A39.out).mono ?_); rintro e w' ⟨rfl, ⟨nd, rfl⟩⟩) | (go_at_call 84; (with_reducible refine (impl_isPair.calls ((rd_T73 l0 x11_1).f0) true _ A41.out).mono ?_); rintro e w' ⟨rfl, ⟨nd, rfl⟩⟩))
               go_roundg kj21
               case measure => have := HK1.out; have := HJ21.out; omega
               case rel => exact ⟨(wrap64 (x11_1 + 1)), EQ, H', ⟨by have := HK1.out; have := HJ21.out; omega⟩, ⟨BL⟩⟩
              ·replace c42 := Bool.eq_false_iff.mpr c42
               subst c42
               have H1 : (if ((rd_T73 l0 x11_1).f3) = 0 then (impl_IsPlay.l0 kj21 l0 l0 (l0.length : Int) (wrap64 (x11_1 + 1))) else (some false)) = some r := by rw [if_neg (show ¬ (false = true) by decide)] at H; exact H
               clear H
               have H := H1
               clear H1
               by_cases c44 : ((rd_T73 l0 x11_1).f3) = 0
               ·rw [if_pos c44] at H
                have c44b0 : (((rd_T73 l0 x11_1).f3) == 0) = true := beq_iff_eq.mpr c44
                have c44b1 : (((rd_T73 l0 x11_1).f3) != 0) = false := bne_eq_false_iff_eq.mpr c44
                clear c44
                have H' := Aside0.mk H
                clear H
                obtain ⟨hcz45_0, hcz45_1, hcz45_2, hcz45_3, hfz45_0, hfz45_1, hfz45_2, hfz45_3⟩ := cz4 BK261.out
                go_wp2_with (first | ((with_reducible refine gate_callee (f := 84) rfl ?_); refine goesS (some 63) Try.func84 #[.int .i64 ((rd_T73 l0 x11_1).f0)] ?_; (with_reducible refine (impl_isPair.calls ((rd_T73 l0 x11_1).f0) true _ A37.out).mono ?_); rintro e w' ⟨rfl, ⟨nd, rfl⟩⟩; refine ⟨_, rfl, ?_⟩) | (go_at_call 82; (with_reducible refine (impl_at.calls ((rd_T73 l0 x11_1).f3) x11_1 true _ A39.out).mono ?_); rintro e w' ⟨rfl, ⟨nd, rfl⟩⟩) | (go_at_call 84; (with_reducible refine (impl_isPair.calls ((rd_T73 l0 x11_1).f0) false _ A41.out).mono ?_); rintro e w' ⟨rfl, ⟨nd, rfl⟩⟩))
                go_roundg kj21
                case measure => have := HK1.out; have := HJ21.out; omega
                case rel => exact ⟨(wrap64 (x11_1 + 1)), EQ, H', ⟨by have := HK1.out; have := HJ21.out; omega⟩, ⟨BL⟩⟩
               ·rw [if_neg c44] at H
                have c44b0 : (((rd_T73 l0 x11_1).f3) == 0) = false := beq_eq_false_iff_ne.mpr c44
                have c44b1 : (((rd_T73 l0 x11_1).f3) != 0) = true := bne_iff_ne.mpr c44
                obtain rfl := Option.some.inj H
                obtain ⟨hcz46_0, hcz46_1, hcz46_2, hcz46_3, hfz46_0, hfz46_1, hfz46_2, hfz46_3⟩ := cz4 BK261.out
                go_wp2_with (first | ((with_reducible refine gate_callee (f := 84) rfl ?_); refine goesS (some 63) Try.func84 #[.int .i64 ((rd_T73 l0 x11_1).f0)] ?_; (with_reducible refine (impl_isPair.calls ((rd_T73 l0 x11_1).f0) true _ A37.out).mono ?_); rintro e w' ⟨rfl, ⟨nd, rfl⟩⟩; refine ⟨_, rfl, ?_⟩) | (go_at_call 82; (with_reducible refine (impl_at.calls ((rd_T73 l0 x11_1).f3) x11_1 true _ A39.out).mono ?_); rintro e w' ⟨rfl, ⟨nd, rfl⟩⟩) | (go_at_call 84; (with_reducible refine (impl_isPair.calls ((rd_T73 l0 x11_1).f0) false _ A41.out).mono ?_); rintro e w' ⟨rfl, ⟨nd, rfl⟩⟩))
                go_ret
                exact ⟨EWW, BL⟩
             ·replace c40 := Bool.eq_false_iff.mpr c40
              subst c40
              have H1 : (some false) = some r := by rw [if_neg (show ¬ (false = true) by decide)] at H; exact H
              clear H
              have H := H1
              clear H1
              obtain rfl := Option.some.inj H
              obtain ⟨hcz47_0, hcz47_1, hcz47_2, hcz47_3, hfz47_0, hfz47_1, hfz47_2, hfz47_3⟩ := cz4 BK261.out
              go_wp2_with (first | ((with_reducible refine gate_callee (f := 84) rfl ?_); refine goesS (some 63) Try.func84 #[.int .i64 ((rd_T73 l0 x11_1).f0)] ?_; (with_reducible refine (impl_isPair.calls ((rd_T73 l0 x11_1).f0) true _ A37.out).mono ?_); rintro e w' ⟨rfl, ⟨nd, rfl⟩⟩; refine ⟨_, rfl, ?_⟩) | (go_at_call 82; (with_reducible refine (impl_at.calls ((rd_T73 l0 x11_1).f3) x11_1 false _ A39.out).mono ?_); rintro e w' ⟨rfl, ⟨nd, rfl⟩⟩))
              go_ret
              exact ⟨EWW, BL⟩
            ·replace c38 := Bool.eq_false_iff.mpr c38
             subst c38
             have H1 : ((impl_isPair.f ((rd_T73 l0 x11_1).f0)).bind fun t270 => (if t270 = true then (impl_IsPlay.l0 kj21 l0 l0 (l0.length : Int) (wrap64 (x11_1 + 1))) else (if ((rd_T73 l0 x11_1).f3) = 0 then (impl_IsPlay.l0 kj21 l0 l0 (l0.length : Int) (wrap64 (x11_1 + 1))) else (some false)))) = some r := by rw [if_neg (show ¬ (false = true) by decide)] at H; exact H
             clear H
             have H := H1
             clear H1
             replace H := Option.bind_eq_some_iff.mp H
             obtain ⟨t270, A480, H⟩ := H
             replace H : (if t270 = true then (impl_IsPlay.l0 kj21 l0 l0 (l0.length : Int) (wrap64 (x11_1 + 1))) else (if ((rd_T73 l0 x11_1).f3) = 0 then (impl_IsPlay.l0 kj21 l0 l0 (l0.length : Int) (wrap64 (x11_1 + 1))) else (some false))) = some r := H
             have A48 := Aside0.mk A480
             clear A480
             by_cases c49 : t270 = true
             ·subst c49
              have H1 : (impl_IsPlay.l0 kj21 l0 l0 (l0.length : Int) (wrap64 (x11_1 + 1))) = some r := by rw [if_pos rfl] at H; exact H
              clear H
              have H := H1
              clear H1
              have H' := Aside0.mk H
              clear H
              obtain ⟨hcz50_0, hcz50_1, hcz50_2, hcz50_3, hfz50_0, hfz50_1, hfz50_2, hfz50_3⟩ := cz4 BK261.out
              go_wp2_with (first | ((with_reducible refine gate_callee (f := 84) rfl ?_); refine goesS (some 63) Try.func84 #[.int .i64 ((rd_T73 l0 x11_1).f0)] ?_; (with_reducible refine (impl_isPair.calls ((rd_T73 l0 x11_1).f0) false _ A37.out).mono ?_); rintro e w' ⟨rfl, ⟨nd, rfl⟩⟩; refine ⟨_, rfl, ?_⟩) | (go_at_call 84; (with_reducible refine (impl_isPair.calls ((rd_T73 l0 x11_1).f0) true _ A48.out).mono ?_); rintro e w' ⟨rfl, ⟨nd, rfl⟩⟩))
              go_roundg kj21
              case measure => have := HK1.out; have := HJ21.out; omega
              case rel => exact ⟨(wrap64 (x11_1 + 1)), EQ, H', ⟨by have := HK1.out; have := HJ21.out; omega⟩, ⟨BL⟩⟩
             ·replace c49 := Bool.eq_false_iff.mpr c49
              subst c49
              have H1 : (if ((rd_T73 l0 x11_1).f3) = 0 then (impl_IsPlay.l0 kj21 l0 l0 (l0.length : Int) (wrap64 (x11_1 + 1))) else (some false)) = some r := by rw [if_neg (show ¬ (false = true) by decide)] at H; exact H
              clear H
              have H := H1
              clear H1
              by_cases c51 : ((rd_T73 l0 x11_1).f3) = 0
              ·rw [if_pos c51] at H
               have c51b0 : (((rd_T73 l0 x11_1).f3) == 0) = true := beq_iff_eq.mpr c51
               have c51b1 : (((rd_T73 l0 x11_1).f3) != 0) = false := bne_eq_false_iff_eq.mpr c51
               clear c51
               have H' := Aside0.mk H
               clear H
               obtain ⟨hcz52_0, hcz52_1, hcz52_2, hcz52_3, hfz52_0, hfz52_1, hfz52_2, hfz52_3⟩ := cz4 BK261.out
               go_wp2_with (first | ((with_reducible refine gate_callee (f := 84) rfl ?_); refine goesS (some 63) Try.func84 #[.int .i64 ((rd_T73 l0 x11_1).f0)] ?_; (with_reducible refine (impl_isPair.calls ((rd_T73 l0 x11_1).f0) false _ A37.out).mono ?_); rintro e w' ⟨rfl, ⟨nd, rfl⟩⟩; refine ⟨_, rfl, ?_⟩) | (go_at_call 84; (with_reducible refine (impl_isPair.calls ((rd_T73 l0 x11_1).f0) false _ A48.out).mono ?_); rintro e w' ⟨rfl, ⟨nd, rfl⟩⟩))
               go_roundg kj21
               case measure => have := HK1.out; have := HJ21.out; omega
               case rel => exact ⟨(wrap64 (x11_1 + 1)), EQ, H', ⟨by have := HK1.out; have := HJ21.out; omega⟩, ⟨BL⟩⟩
              ·rw [if_neg c51] at H
               have c51b0 : (((rd_T73 l0 x11_1).f3) == 0) = false := beq_eq_false_iff_ne.mpr c51
               have c51b1 : (((rd_T73 l0 x11_1).f3) != 0) = true := bne_iff_ne.mpr c51
               obtain rfl := Option.some.inj H
               obtain ⟨hcz53_0, hcz53_1, hcz53_2, hcz53_3, hfz53_0, hfz53_1, hfz53_2, hfz53_3⟩ := cz4 BK261.out
               go_wp2_with (first | ((with_reducible refine gate_callee (f := 84) rfl ?_); refine goesS (some 63) Try.func84 #[.int .i64 ((rd_T73 l0 x11_1).f0)] ?_; (with_reducible refine (impl_isPair.calls ((rd_T73 l0 x11_1).f0) false _ A37.out).mono ?_); rintro e w' ⟨rfl, ⟨nd, rfl⟩⟩; refine ⟨_, rfl, ?_⟩) | (go_at_call 84; (with_reducible refine (impl_isPair.calls ((rd_T73 l0 x11_1).f0) false _ A48.out).mono ?_); rintro e w' ⟨rfl, ⟨nd, rfl⟩⟩))
               go_ret
               exact ⟨EWW, BL⟩
       ·replace c8 := Bool.eq_false_iff.mpr c8
        subst c8
        have H1 : (some false) = some r := by rw [if_neg (show ¬ (false = true) by decide)] at H; exact H
        clear H
        have H := H1
        clear H1
        obtain rfl := Option.some.inj H
        have p260 : 0 ≤ (x11_1 : Int) := OD
        have q260 : x11_1 < (l0.length : Int) := OD
        obtain ⟨ad260, e260, hx260_0, hx260_1, hx260_2, hx260_3⟩ := at_T73 HR0.out x11_1 p260 q260
        cases e260
        replace hx260_0 := (HB.out.cell (World.block_lt_of_cell? w _ hx260_0)).trans hx260_0
        replace hx260_1 := (HB.out.cell (World.block_lt_of_cell? w _ hx260_1)).trans hx260_1
        replace hx260_2 := (HB.out.cell (World.block_lt_of_cell? w _ hx260_2)).trans hx260_2
        replace hx260_3 := (HB.out.cell (World.block_lt_of_cell? w _ hx260_3)).trans hx260_3
        replace p260 := eq_true p260
        replace q260 := eq_true q260
        go_wp2_with (first | ((with_reducible refine gate_dst (N := 4) rfl ?_); refine box_ev (N := 4) (cs := #[.int .i64 0, .string (⟨#[]⟩ : ByteArray), .int .i64 0, .int .i64 0]) (t := 73) ?_; intro gb261 hg w54 hbox hb; have n0_ := BS (w := w) hb; have n1_ := Aside0.mk (hbox); have n2_ := SZ (w := w) hg; have n3_ := SZ (w := w) hg; clear HB; have HB := n0_; have BK261 := n1_; have GW261 := n2_; have GE261 := n3_; clear n0_ n1_ n2_ n3_; clear hb hbox hg; obtain ⟨hcz55_0, hcz55_1, hcz55_2, hcz55_3, hfz55_0, hfz55_1, hfz55_2, hfz55_3⟩ := cz4 BK261.out) | ((with_reducible refine gate_callee (f := 57) rfl ?_); refine goesS (some 18) Try.func57 #[.int .i64 ((rd_T73 l0 x11_1).f0), .int .i64 1, .int .i64 9] ?_; (with_reducible refine (impl_InRange.calls ((rd_T73 l0 x11_1).f0) 1 9 false _ A7.out).mono ?_); rintro e w' ⟨rfl, ⟨nd, rfl⟩⟩; refine ⟨_, rfl, ?_⟩))
        go_ret
        exact ⟨EWW, BL⟩
      ·rw [if_neg c6] at H
       exact absurd H (by simp)
     ·rw [if_neg c5] at H
      exact absurd H (by simp)
    ·rw [if_neg c4] at H
     have c4b0 : decide (x11_1 < (l0.length : Int)) = false := decide_eq_false c4
     clear c4
     obtain rfl := Option.some.inj H
     go_wp2
     go_ret
     exact ⟨EWW, BL⟩
 ·replace c3 := Bool.eq_false_iff.mpr c3
  subst c3
  have H1 : (some false) = some r := by rw [if_neg (show ¬ (false = true) by decide)] at H; exact H
  clear H
  have H := H1
  clear H1
  obtain rfl := Option.some.inj H
  go_enter Try.func66, Try.ntmps66
  go_wp2_with (first | ((with_reducible refine gate_callee (f := 57) rfl ?_); refine goesS (some 7) Try.func57 #[.int .i64 (l0.length : Int), .int .i64 1, .int .i64 9] ?_; (with_reducible refine (impl_InRange.calls (l0.length : Int) 1 9 false _ A2.out).mono ?_); rintro e w' ⟨rfl, ⟨nd, rfl⟩⟩; refine ⟨_, rfl, ?_⟩))
  go_ret
  exact ⟨EWW, BL⟩
def impl_Backwards.f (a0 : ByteArray) : Option (ByteArray) := if a0.size ≤ 100 then (some (strOfNums (bytesOf a0).reverse)) else (none)
theorem impl_Backwards.calls (a0 : ByteArray) (r : ByteArray) (w : World) (h : impl_Backwards.f a0 = some r) :
  Calls Try.prog 87 #[.string a0] w fun e w' => e = .returned (.string r) ∧ Below w.heap.size w w' := by
 by_cases h1 : a0.size ≤ 100
 ·have hr : r = strOfNums (bytesOf a0).reverse := by
   unfold impl_Backwards.f at h
   rw [if_pos h1] at h
   exact (Option.some.inj h).symm
  subst hr
  exact Go.Proofs.Ythincoghppaegaa.HandSort.backwards_u8 a0 w h1
 ·simp [impl_Backwards.f, h1] at h
def impl_SortLetters.f (k : Nat) (a0 : ByteArray) : Option (ByteArray) := (impl_IsWord.f k a0).bind fun t => (if t = true then (if a0.size ≤ 12 then (some (strOfNums (Go.Proofs.Ythincoghppaegaa.HandSort.sorted a0))) else (none)) else (none))
theorem impl_SortLetters.calls (k : Nat) (a0 : ByteArray) (r : ByteArray) (w : World) (h : impl_SortLetters.f k a0 = some r) :
  Calls Try.prog 95 #[.string a0] w fun e w' => e = .returned (.string r) ∧ Below w.heap.size w w' := by
 obtain ⟨t, h1, h2⟩ := Option.bind_eq_some_iff.mp h
 cases t with
 | false => simp at h2
 | true =>
  rw [if_pos rfl] at h2
  by_cases h3 : a0.size ≤ 12
  ·rw [if_pos h3] at h2
   obtain rfl := Option.some.inj h2
   exact Go.Proofs.Ythincoghppaegaa.HandSort.sortLetters_u8 a0 w h3 ((impl_IsWord.calls k a0 true w h1).mono fun e w' hq => ⟨hq.1, hq.2.out⟩)
  ·rw [if_neg h3] at h2
   cases h2
def impl_IsRearranged.f (k : Nat) (a0 : ByteArray) (a1 : ByteArray) : Option (Bool) := (impl_IsWord.f k a0).bind fun t271 => (if t271 = true then ((impl_IsWord.f k a1).bind fun t272 => (if t272 = true then (if a0.toList = a1.toList then (some false) else ((impl_SortLetters.f k a0).bind fun t273 => ((impl_SortLetters.f k a1).bind fun t274 => (some (t273.toList == t274.toList))))) else (some false))) else (some false))
set_option maxHeartbeats 8000000 in
set_option maxRecDepth 100000 in
theorem impl_IsRearranged.calls (k : Nat) (a0 : ByteArray) (a1 : ByteArray) (r : Bool) (w : World) (h : impl_IsRearranged.f k a0 a1 = some r) :
  Calls Try.prog 88 #[.string a0, .string a1] w fun e w' => e = .returned (.bool r) ∧ Below w.heap.size w w' := by
 have HB := Aside0.mk (Below.refl w.heap.size w)
 have H : ((impl_IsWord.f k a0).bind fun t271 => (if t271 = true then ((impl_IsWord.f k a1).bind fun t272 => (if t272 = true then (if a0.toList = a1.toList then (some false) else ((impl_SortLetters.f k a0).bind fun t273 => ((impl_SortLetters.f k a1).bind fun t274 => (some (t273.toList == t274.toList))))) else (some false))) else (some false))) = some r := h
 clear h
 replace H := Option.bind_eq_some_iff.mp H
 obtain ⟨t271, A30, H⟩ := H
 replace H : (if t271 = true then ((impl_IsWord.f k a1).bind fun t272 => (if t272 = true then (if a0.toList = a1.toList then (some false) else ((impl_SortLetters.f k a0).bind fun t273 => ((impl_SortLetters.f k a1).bind fun t274 => (some (t273.toList == t274.toList))))) else (some false))) else (some false)) = some r := H
 have A3 := Aside0.mk A30
 clear A30
 by_cases c4 : t271 = true
 ·subst c4
  have H1 : ((impl_IsWord.f k a1).bind fun t272 => (if t272 = true then (if a0.toList = a1.toList then (some false) else ((impl_SortLetters.f k a0).bind fun t273 => ((impl_SortLetters.f k a1).bind fun t274 => (some (t273.toList == t274.toList))))) else (some false))) = some r := by rw [if_pos rfl] at H; exact H
  clear H
  have H := H1
  clear H1
  replace H := Option.bind_eq_some_iff.mp H
  obtain ⟨t272, A50, H⟩ := H
  replace H : (if t272 = true then (if a0.toList = a1.toList then (some false) else ((impl_SortLetters.f k a0).bind fun t273 => ((impl_SortLetters.f k a1).bind fun t274 => (some (t273.toList == t274.toList))))) else (some false)) = some r := H
  have A5 := Aside0.mk A50
  clear A50
  by_cases c6 : t272 = true
  ·subst c6
   have H1 : (if a0.toList = a1.toList then (some false) else ((impl_SortLetters.f k a0).bind fun t273 => ((impl_SortLetters.f k a1).bind fun t274 => (some (t273.toList == t274.toList))))) = some r := by rw [if_pos rfl] at H; exact H
   clear H
   have H := H1
   clear H1
   by_cases c7 : a0.toList = a1.toList
   ·rw [if_pos c7] at H
    have c7b0 : (a0.toList == a1.toList) = true := beq_iff_eq.mpr c7
    have c7b1 : (a0.toList != a1.toList) = false := bne_eq_false_iff_eq.mpr c7
    clear c7
    obtain rfl := Option.some.inj H
    go_enter Try.func88, Try.ntmps88
    go_wp2_with (first | ((with_reducible refine gate_callee (f := 68) rfl ?_); refine goesS (some 6) Try.func68 #[.string a0] ?_; (with_reducible refine (impl_IsWord.calls k a0 true _ A3.out).mono ?_); rintro e w' ⟨rfl, ⟨nd, rfl⟩⟩; refine ⟨_, rfl, ?_⟩) | (go_at_call 68; (with_reducible refine (impl_IsWord.calls k a1 true _ A5.out).mono ?_); rintro e w' ⟨rfl, ⟨nd, rfl⟩⟩))
    go_ret
    exact ⟨EWW, BL⟩
   ·rw [if_neg c7] at H
    have c7b0 : (a0.toList == a1.toList) = false := beq_eq_false_iff_ne.mpr c7
    have c7b1 : (a0.toList != a1.toList) = true := bne_iff_ne.mpr c7
    replace H := Option.bind_eq_some_iff.mp H
    obtain ⟨t273, A80, H⟩ := H
    replace H : ((impl_SortLetters.f k a1).bind fun t274 => (some (t273.toList == t274.toList))) = some r := H
    have A8 := Aside0.mk A80
    clear A80
    replace H := Option.bind_eq_some_iff.mp H
    obtain ⟨t274, A90, H⟩ := H
    replace H : (some (t273.toList == t274.toList)) = some r := H
    have A9 := Aside0.mk A90
    clear A90
    obtain rfl := Option.some.inj H
    go_enter Try.func88, Try.ntmps88
    go_wp2_with (first | ((with_reducible refine gate_callee (f := 68) rfl ?_); refine goesS (some 6) Try.func68 #[.string a0] ?_; (with_reducible refine (impl_IsWord.calls k a0 true _ A3.out).mono ?_); rintro e w' ⟨rfl, ⟨nd, rfl⟩⟩; refine ⟨_, rfl, ?_⟩) | (go_at_call 68; (with_reducible refine (impl_IsWord.calls k a1 true _ A5.out).mono ?_); rintro e w' ⟨rfl, ⟨nd, rfl⟩⟩) | (go_at_call 95; (with_reducible refine (impl_SortLetters.calls k a0 t273 _ A8.out).mono ?_); rintro e w10 ⟨rfl, hb⟩; replace HB := BS (w := w) hb; (try clear hb)) | (go_at_call 95; (with_reducible refine (impl_SortLetters.calls k a1 t274 _ A9.out).mono ?_); rintro e w11 ⟨rfl, hb⟩; replace HB := BS (w := w) hb; (try clear hb)))
    go_ret
    exact ⟨EWW, BL⟩
  ·replace c6 := Bool.eq_false_iff.mpr c6
   subst c6
   have H1 : (some false) = some r := by rw [if_neg (show ¬ (false = true) by decide)] at H; exact H
   clear H
   have H := H1
   clear H1
   obtain rfl := Option.some.inj H
   go_enter Try.func88, Try.ntmps88
   go_wp2_with (first | ((with_reducible refine gate_callee (f := 68) rfl ?_); refine goesS (some 6) Try.func68 #[.string a0] ?_; (with_reducible refine (impl_IsWord.calls k a0 true _ A3.out).mono ?_); rintro e w' ⟨rfl, ⟨nd, rfl⟩⟩; refine ⟨_, rfl, ?_⟩) | (go_at_call 68; (with_reducible refine (impl_IsWord.calls k a1 false _ A5.out).mono ?_); rintro e w' ⟨rfl, ⟨nd, rfl⟩⟩))
   go_ret
   exact ⟨EWW, BL⟩
 ·replace c4 := Bool.eq_false_iff.mpr c4
  subst c4
  have H1 : (some false) = some r := by rw [if_neg (show ¬ (false = true) by decide)] at H; exact H
  clear H
  have H := H1
  clear H1
  obtain rfl := Option.some.inj H
  go_enter Try.func88, Try.ntmps88
  go_wp2_with (first | ((with_reducible refine gate_callee (f := 68) rfl ?_); refine goesS (some 6) Try.func68 #[.string a0] ?_; (with_reducible refine (impl_IsWord.calls k a0 false _ A3.out).mono ?_); rintro e w' ⟨rfl, ⟨nd, rfl⟩⟩; refine ⟨_, rfl, ?_⟩))
  go_ret
  exact ⟨EWW, BL⟩
def impl_HeadOf.f (k : Nat) (a0 : ByteArray) : Option (ByteArray) := (impl_IsWord.f k a0).bind fun t275 => (if t275 = true then (if 0 ≤ 1 then (if 1 ≤ (a0.size : Int) then (some (a0.extract 0 1)) else (none)) else (none)) else (some (⟨#[]⟩ : ByteArray)))
set_option maxHeartbeats 8000000 in
set_option maxRecDepth 100000 in
theorem impl_HeadOf.calls (k : Nat) (a0 : ByteArray) (r : ByteArray) (w : World) (h : impl_HeadOf.f k a0 = some r) :
  Calls Try.prog 89 #[.string a0] w fun e w' => e = .returned (.string r) ∧ Drawn0 w w' := by
 have H : ((impl_IsWord.f k a0).bind fun t275 => (if t275 = true then (if 0 ≤ 1 then (if 1 ≤ (a0.size : Int) then (some (a0.extract 0 1)) else (none)) else (none)) else (some (⟨#[]⟩ : ByteArray)))) = some r := h
 clear h
 replace H := Option.bind_eq_some_iff.mp H
 obtain ⟨t275, A20, H⟩ := H
 replace H : (if t275 = true then (if 0 ≤ 1 then (if 1 ≤ (a0.size : Int) then (some (a0.extract 0 1)) else (none)) else (none)) else (some (⟨#[]⟩ : ByteArray))) = some r := H
 have A2 := Aside0.mk A20
 clear A20
 by_cases c3 : t275 = true
 ·subst c3
  have H1 : (if 0 ≤ 1 then (if 1 ≤ (a0.size : Int) then (some (a0.extract 0 1)) else (none)) else (none)) = some r := by rw [if_pos rfl] at H; exact H
  clear H
  have H := H1
  clear H1
  by_cases c4 : 0 ≤ 1
  ·rw [if_pos c4] at H
   have c4b0 := eq_true c4
   have c4b1 : decide (0 ≤ 1) = true := decide_eq_true c4
   clear c4
   by_cases c5 : 1 ≤ (a0.size : Int)
   ·rw [if_pos c5] at H
    have c5b0 := eq_true c5
    have c5b1 : decide (1 ≤ (a0.size : Int)) = true := decide_eq_true c5
    clear c5
    obtain rfl := Option.some.inj H
    go_enter Try.func89, Try.ntmps89
    go_wp2_with (first | ((with_reducible refine gate_callee (f := 68) rfl ?_); refine goesS (some 4) Try.func68 #[.string a0] ?_; (with_reducible refine (impl_IsWord.calls k a0 true _ A2.out).mono ?_); rintro e w' ⟨rfl, ⟨nd, rfl⟩⟩; refine ⟨_, rfl, ?_⟩))
    go_ret
    exact ⟨by first | rfl | (simp; done) | (simp [*]; done), by repeat (first | exact Drawn0.refl _ | apply Drawn0.step)⟩
   ·rw [if_neg c5] at H
    exact absurd H (by simp)
  ·rw [if_neg c4] at H
   exact absurd H (by simp)
 ·replace c3 := Bool.eq_false_iff.mpr c3
  subst c3
  have H1 : (some (⟨#[]⟩ : ByteArray)) = some r := by rw [if_neg (show ¬ (false = true) by decide)] at H; exact H
  clear H
  have H := H1
  clear H1
  obtain rfl := Option.some.inj H
  go_enter Try.func89, Try.ntmps89
  go_wp2_with (first | ((with_reducible refine gate_callee (f := 68) rfl ?_); refine goesS (some 4) Try.func68 #[.string a0] ?_; (with_reducible refine (impl_IsWord.calls k a0 false _ A2.out).mono ?_); rintro e w' ⟨rfl, ⟨nd, rfl⟩⟩; refine ⟨_, rfl, ?_⟩))
  go_ret
  exact ⟨by first | rfl | (simp; done) | (simp [*]; done), by repeat (first | exact Drawn0.refl _ | apply Drawn0.step)⟩
def impl_WithoutHead.f (k : Nat) (a0 : ByteArray) : Option (ByteArray) := (impl_IsWord.f k a0).bind fun t276 => (if t276 = true then (if 1 ≤ (a0.size : Int) then (some (a0.extract 1 a0.size)) else (none)) else (some (⟨#[]⟩ : ByteArray)))
set_option maxHeartbeats 8000000 in
set_option maxRecDepth 100000 in
theorem impl_WithoutHead.calls (k : Nat) (a0 : ByteArray) (r : ByteArray) (w : World) (h : impl_WithoutHead.f k a0 = some r) :
  Calls Try.prog 90 #[.string a0] w fun e w' => e = .returned (.string r) ∧ Drawn0 w w' := by
 have H : ((impl_IsWord.f k a0).bind fun t276 => (if t276 = true then (if 1 ≤ (a0.size : Int) then (some (a0.extract 1 a0.size)) else (none)) else (some (⟨#[]⟩ : ByteArray)))) = some r := h
 clear h
 replace H := Option.bind_eq_some_iff.mp H
 obtain ⟨t276, A20, H⟩ := H
 replace H : (if t276 = true then (if 1 ≤ (a0.size : Int) then (some (a0.extract 1 a0.size)) else (none)) else (some (⟨#[]⟩ : ByteArray))) = some r := H
 have A2 := Aside0.mk A20
 clear A20
 by_cases c3 : t276 = true
 ·subst c3
  have H1 : (if 1 ≤ (a0.size : Int) then (some (a0.extract 1 a0.size)) else (none)) = some r := by rw [if_pos rfl] at H; exact H
  clear H
  have H := H1
  clear H1
  by_cases c4 : 1 ≤ (a0.size : Int)
  ·rw [if_pos c4] at H
   have c4b0 := eq_true c4
   have c4b1 : decide (1 ≤ (a0.size : Int)) = true := decide_eq_true c4
   clear c4
   obtain rfl := Option.some.inj H
   go_enter Try.func90, Try.ntmps90
   go_wp2_with (first | ((with_reducible refine gate_callee (f := 68) rfl ?_); refine goesS (some 4) Try.func68 #[.string a0] ?_; (with_reducible refine (impl_IsWord.calls k a0 true _ A2.out).mono ?_); rintro e w' ⟨rfl, ⟨nd, rfl⟩⟩; refine ⟨_, rfl, ?_⟩))
   go_ret
   exact ⟨by first | rfl | (simp; done) | (simp [*]; done), by repeat (first | exact Drawn0.refl _ | apply Drawn0.step)⟩
  ·rw [if_neg c4] at H
   exact absurd H (by simp)
 ·replace c3 := Bool.eq_false_iff.mpr c3
  subst c3
  have H1 : (some (⟨#[]⟩ : ByteArray)) = some r := by rw [if_neg (show ¬ (false = true) by decide)] at H; exact H
  clear H
  have H := H1
  clear H1
  obtain rfl := Option.some.inj H
  go_enter Try.func90, Try.ntmps90
  go_wp2_with (first | ((with_reducible refine gate_callee (f := 68) rfl ?_); refine goesS (some 4) Try.func68 #[.string a0] ?_; (with_reducible refine (impl_IsWord.calls k a0 false _ A2.out).mono ?_); rintro e w' ⟨rfl, ⟨nd, rfl⟩⟩; refine ⟨_, rfl, ?_⟩))
  go_ret
  exact ⟨by first | rfl | (simp; done) | (simp [*]; done), by repeat (first | exact Drawn0.refl _ | apply Drawn0.step)⟩
end Go.Proofs.Ythincoghppaegaa.PFnExactGuessesFor
