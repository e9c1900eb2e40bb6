/- Walks of functions: what each computes. -/
import Derived.Test.YthjcicmmbmagbaaZIsPuzzleP0
import Derived.Test.YthjcicmmbmagbaaZIsPuzzleP11
import Derived.Test.YthjcicmmbmagbaaZIsPuzzleP12
import Derived.Test.YthjcicmmbmagbaaZIsPuzzleP13
import Derived.Test.YthjcicmmbmagbaaZIsPuzzleW
import Derived.Test.YthjcicmmbmagbaaZIsPuzzleShelf
import Derived.Test.YthjcicmmbmagbaaZIsPuzzleHandSort
import Derived.Test.YthjcicmmbmagbaaZIsPuzzleHandForm
import Derived.Test.YthjcicmmbmagbaaZIsPuzzleHandAlone
import Derived.Test.YthjcicmmbmagbaaZIsPuzzleHandReach
namespace Go.Proofs.Ythjcicmmbmagbaa.PFnExactIsPuzzle
open Go.RowKit Go.Proofs.YthjcicmmbmagbaaW.PrintWords Go.Proofs.YthjcicmmbmagbaaW.PrintLast Go.Proofs.YthjcicmmbmagbaaW.PrintMore Go.Proofs.Ythjcicmmbmagbaa.Sq
attribute [local go_sem] max2_int min2_int max_two min_two max_three min_three max_four min_four
set_option linter.unusedVariables false
set_option linter.unusedSimpArgs false
def impl_IsChecked.f (k : Nat) (a0_0 : Int) (a0_1 : Int) (a0_2 : ByteArray) (a1 : Int) : Option (Bool) := (impl_SlotsAt.f k a0_0 a0_1 a0_2 a1).bind fun t394 => (some ((t394.length : Int) == 2))
set_option maxHeartbeats 8000000 in
set_option maxRecDepth 100000 in
theorem impl_IsChecked.calls (k : Nat) (a0_0 : Int) (a0_1 : Int) (a0_2 : ByteArray) (a1 : Int) (r : Bool) (w : World) (h : impl_IsChecked.f k a0_0 a0_1 a0_2 a1 = some r) :
  Calls Try.prog 179 #[.agg #[.int .i64 a0_0, .int .i64 a0_1, .string a0_2], .int .i64 a1] w fun e w' => e = .returned (.bool r) ∧ Below w.heap.size w w' := by
 have hu66 := Try.underlying66
 have HB := Aside0.mk (Below.refl w.heap.size w)
 have H : ((impl_SlotsAt.f k a0_0 a0_1 a0_2 a1).bind fun t394 => (some ((t394.length : Int) == 2))) = some r := h
 clear h
 obtain ⟨t394, A3, H⟩ := be H
 obtain rfl := Option.some.inj H
 go_enter Try.func179, Try.ntmps179
 go_wp2_with (first | ((with_reducible refine gate_dst (N := 2) rfl ?_); refine box_ev (N := 2) (cs := #[.int .i64 a0_0, .int .i64 a0_1, .string a0_2]) (t := 66) ?_; intro gb393 hg w4 hbox hb; have n0_ := BS (w := w) hb; have n1_ := Aside0.mk (hbox); have n2_ := SZ (w := w) hg; have n3_ := SZ (w := w) hg; clear HB; have HB := n0_; have BK393 := n1_; have GW393 := n2_; have GE393 := n3_; clear n0_ n1_ n2_ n3_; clear hb hbox hg; obtain ⟨hcz5_0, hcz5_1, hcz5_2, hfz5_0, hfz5_1, hfz5_2⟩ := cz3 BK393.out) | ((with_reducible refine gate_callee (f := 201) rfl ?_); refine goesS (some 7) Try.func201 #[.agg #[.int .i64 a0_0, .int .i64 a0_1, .string a0_2], .int .i64 a1] ?_; (with_reducible refine (impl_SlotsAt.calls k a0_0 a0_1 a0_2 a1 t394 _ A3.out).mono ?_); rintro e w6 ⟨v395, rfl, ho0, hb⟩; refine ⟨_, rfl, ?_⟩; have n0_ := Aside0.mk (Kd.R_lower ho0 (below_size BL)); replace BK393 := KB BK393 hb; replace HB := BS (w := w) hb; have HO396 := n0_; clear n0_; (try clear hb); (try clear ho0); obtain ⟨Ao7, co7, eo7⟩ := Kd.R_slice HO396.out; subst eo7))
 go_ret
 exact ⟨EWW, BL⟩
def impl_UncheckedIn.l0 : Nat → Int → List Int → Int → Int → Int → Int → ByteArray → Option (Int)
 | 0, _, _, _, _, _, _, _ => none
 | k + 1, x6, x19, x20, x21, x398000, x398001, x398002 => if x21 < x20 then (if 0 ≤ x21 then (if x21 < (x19.length : Int) then ((impl_IsChecked.f k x398000 x398001 x398002 (rd x19 x21)).bind fun t404 => (if t404 = true then (impl_UncheckedIn.l0 k x6 x19 x20 (wrap64 (x21 + 1)) x398000 x398001 x398002) else (impl_UncheckedIn.l0 k (wrap64 (x6 + 1)) x19 x20 (wrap64 (x21 + 1)) x398000 x398001 x398002))) else (none)) else (none)) else (some x6)
def impl_UncheckedIn.f (k : Nat) (a0_0 : Int) (a0_1 : Int) (a0_2 : ByteArray) (a1 : Int) : Option (Int) := (impl_layout.f k a0_0 a0_1 a0_2).bind fun t398 => ((impl_at.f a1 (t398.length : Int)).bind fun t401 => (if t401 = true then (if 0 ≤ a1 then (if a1 < (t398.length : Int) then (impl_UncheckedIn.l0 k 0 (rd_L10 t398 a1) ((rd_L10 t398 a1).length : Int) 0 a0_0 a0_1 a0_2) else (none)) else (none)) else (some (-1))))
set_option maxHeartbeats 8000000 in
set_option maxRecDepth 100000 in
theorem impl_UncheckedIn.calls (k : Nat) (a0_0 : Int) (a0_1 : Int) (a0_2 : ByteArray) (a1 : Int) (r : Int) (w : World) (h : impl_UncheckedIn.f k a0_0 a0_1 a0_2 a1 = some r) :
  Calls Try.prog 141 #[.agg #[.int .i64 a0_0, .int .i64 a0_1, .string a0_2], .int .i64 a1] w fun e w' => e = .returned (.int .i64 r) ∧ Below w.heap.size w w' := by
 have hu66 := Try.underlying66
 have HB := Aside0.mk (Below.refl w.heap.size w)
 have H : ((impl_layout.f k a0_0 a0_1 a0_2).bind fun t398 => ((impl_at.f a1 (t398.length : Int)).bind fun t401 => (if t401 = true then (if 0 ≤ a1 then (if a1 < (t398.length : Int) then (impl_UncheckedIn.l0 k 0 (rd_L10 t398 a1) ((rd_L10 t398 a1).length : Int) 0 a0_0 a0_1 a0_2) else (none)) else (none)) else (some (-1))))) = some r := h
 clear h
 obtain ⟨t398, A3, H⟩ := be H
 obtain ⟨t401, A4, H⟩ := be H
 replace H := Aside0.mk H
 go_enter Try.func141, Try.ntmps141
 go_wp2_with (first | ((with_reducible refine gate_dst (N := 2) rfl ?_); refine box_ev (N := 2) (cs := #[.int .i64 a0_0, .int .i64 a0_1, .string a0_2]) (t := 66) ?_; intro gb397 hg w9000 hbox hb; have n0_ := BS (w := w) hb; have n1_ := Aside0.mk (hbox); have n2_ := SZ (w := w) hg; have n3_ := SZ (w := w) hg; clear HB; have HB := n0_; have BK397 := n1_; have GW397 := n2_; have GE397 := n3_; clear n0_ n1_ n2_ n3_; clear hb hbox hg; obtain ⟨hcz9001_0, hcz9001_1, hcz9001_2, hfz9001_0, hfz9001_1, hfz9001_2⟩ := cz3 BK397.out) | ((with_reducible refine gate_callee (f := 178) rfl ?_); refine goesS (some 10) Try.func178 #[.agg #[.int .i64 a0_0, .int .i64 a0_1, .string a0_2]] ?_; (with_reducible refine (impl_layout.calls k a0_0 a0_1 a0_2 t398 _ A3.out).mono ?_); rintro e w9002 ⟨v399, rfl, ho0, hb⟩; refine ⟨_, rfl, ?_⟩; have n0_ := Aside0.mk (Kd.S_lower ho0 (below_size BL)); replace BK397 := KB BK397 hb; replace HB := BS (w := w) hb; have HO400 := n0_; clear n0_; (try clear hb); (try clear ho0); obtain ⟨Ao9003, co9003, eo9003⟩ := Kd.S_slice HO400.out; subst eo9003) | ((with_reducible refine gate_callee (f := 109) rfl ?_); refine goesS (some 14) Try.func109 #[.int .i64 a1, .int .i64 (t398.length : Int)] ?_; (with_reducible refine (impl_at.calls a1 (t398.length : Int) _ _ A4.out).mono ?_); rintro e w' ⟨rfl, ⟨nd, rfl⟩⟩; refine ⟨_, rfl, ?_⟩; refine stop_ ?_))
 refine Hide.mk ?_
 replace H := H.out
 by_cases c5 : t401 = true
 ·subst c5
  rw [if_pos rfl] at H
  by_cases c6 : 0 ≤ a1
  ·rw [if_pos c6] at H
   have c6b0 : decide (0 ≤ a1) = true := decide_eq_true c6
   clear c6
   by_cases c7 : a1 < (t398.length : Int)
   ·rw [if_pos c7] at H
    have c7b0 : decide (a1 < (t398.length : Int)) = true := decide_eq_true c7
    clear c7
    have H' := Aside0.mk H
    clear H
    have p402 : 0 ≤ (a1 : Int) := OD
    have q402 : a1 < (t398.length : Int) := OD
    obtain ⟨ad402, A402_0, c402_0, e402, hx402_0, hl402_0, hi402_0⟩ := at_L10 (Kd.S_reads' HO400.out).2.2 a1 p402 q402
    cases e402
    obtain ⟨ce402, hce402, hMe402, hcc402⟩ := Kd.S_get HO400.out [] a1 p402 (by first | exact q402 | exact OD | (have e_ := (Kd.S_reads' HO400.out).1; omega))
    obtain ⟨ve402_0, rfl, ge402_0⟩ := hMe402
    have hv402_0 := hcc402 0 _ rfl
    rw [Nat.add_zero, show ((Kd.slice 3 (Kd.int .i64))).sz = 1 from rfl, Nat.mul_one] at hv402_0
    replace hv402_0 := Option.some.inj (hv402_0.symm.trans hx402_0)
    rw [hv402_0] at ge402_0
    have HL402_0 := Aside0.mk (show Kd.R (Kd.int .i64) 3 _ _ _ _ (rd_L10 t398 a1) from ge402_0)
    clear hv402_0 ge402_0
    clear hcc402 hce402
    have HR402_0 := Aside0.mk hi402_0
    have HC402_0 := Aside0.mk hl402_0
    clear hi402_0 hl402_0
    replace p402 := eq_true p402
    replace q402 := eq_true q402
    go_wp2
    go_loopg [6, 21] k (fun kq v6 v21 w' => ∃ (x6_1 : Int) (x21_1 : Int), v6 = .int .i64 x6_1 ∧ v21 = .int .i64 x21_1 ∧ Aside0 (impl_UncheckedIn.l0 kq x6_1 (rd_L10 t398 a1) ((rd_L10 t398 a1).length : Int) x21_1 a0_0 a0_1 a0_2 = some r) ∧ Aside0 (kq ≤ k) ∧ Aside0 (w'.heap[gb397]? = some (.cells #[.int .i64 a0_0, .int .i64 a0_1, .string a0_2] 66 (0, 0))) ∧ Aside0 (Kd.C (Kd.int .i64) w' A402_0 (rd_L10 t398 a1).length (rd_L10 t398 a1)) ∧ Aside0 (Below w.heap.size w w'))
    case atStart => exact ⟨(0), (0), EQ, EQ, H', ⟨Nat.le_refl _⟩, ⟨BK⟩, ⟨by repeat (first | (with_reducible exact HR402_0.out) | (with_reducible refine Kd.C_alloc ?_ _) | (with_reducible refine Kd.C_drewN ?_ _) | (with_reducible refine Kd.C_drew ?_) | exact HR402_0.out)⟩, ⟨BL⟩⟩
    case round =>
     clear H'
     try clear c5
     try clear c6
     try clear c6b0
     try clear c7
     try clear c7b0
     try clear hcz9001_0
     try clear hcz9001_1
     try clear hcz9001_2
     try clear hfz9001_0
     try clear hfz9001_1
     try clear hfz9001_2
     try clear hx402_0
     try clear p402
     try clear q402
     obtain ⟨x6_1, x21_1, rfl, rfl, HA, HK1, BK397, HR402_0, HB⟩ := hrel
     cases gk with
     | zero => exact absurd HA.out (by simp [impl_UncheckedIn.l0])
     | succ k1 =>
      have H := HA.out
      clear HA
      simp only [impl_UncheckedIn.l0] at H
      by_cases c12 : x21_1 < ((rd_L10 t398 a1).length : Int)
      ·rw [if_pos c12] at H
       have c12b0 : decide (x21_1 < ((rd_L10 t398 a1).length : Int)) = true := decide_eq_true c12
       clear c12
       by_cases c13 : 0 ≤ x21_1
       ·rw [if_pos c13] at H
        have c13b0 : decide (0 ≤ x21_1) = true := decide_eq_true c13
        clear c13
        by_cases c14 : x21_1 < ((rd_L10 t398 a1).length : Int)
        ·rw [if_pos c14] at H
         have c14b0 : decide (x21_1 < ((rd_L10 t398 a1).length : Int)) = true := decide_eq_true c14
         clear c14
         obtain ⟨t404, A15, H⟩ := be H
         have p403 : 0 ≤ (x21_1 : Int) := OD
         have q403 : x21_1 < ((rd_L10 t398 a1).length : Int) := OD
         obtain ⟨ad403, e403, hx403_0⟩ := Kd.at_int HR402_0.out x21_1 p403 q403
         cases e403
         try replace hx403_0 := (HB.out.cell (World.block_lt_of_cell? w _ hx403_0)).trans hx403_0
         replace p403 := eq_true p403
         replace q403 := eq_true q403
         obtain ⟨hcz9004_0, hcz9004_1, hcz9004_2, hfz9004_0, hfz9004_1, hfz9004_2⟩ := cz3 BK397.out
         replace H := Aside0.mk H
         go_wp2_with (first | ((with_reducible refine gate_callee (f := 179) rfl ?_); refine goesS (some 27) Try.func179 #[.agg #[.int .i64 a0_0, .int .i64 a0_1, .string a0_2], .int .i64 (rd (rd_L10 t398 a1) x21_1)] ?_; (with_reducible refine (impl_IsChecked.calls k1 a0_0 a0_1 a0_2 (rd (rd_L10 t398 a1) x21_1) _ _ A15.out).mono ?_); rintro e w9005 ⟨rfl, hb⟩; refine ⟨_, rfl, ?_⟩; have n0_ := KB BK397 hb; have n1_ := Aside0.mk (Kd.C_below (by repeat (first | (with_reducible exact HR402_0.out) | (with_reducible refine Kd.C_alloc ?_ _) | (with_reducible refine Kd.C_drewN ?_ _) | (with_reducible refine Kd.C_drew ?_) | exact HR402_0.out)) hb); have n2_ := BS (w := w) hb; clear BK397 HR402_0 HB; have BK397 := n0_; have HR402_0 := n1_; have HB := n2_; clear n0_ n1_ n2_; (try clear hb); refine stop_ ?_))
         refine Hide.mk ?_
         replace H := H.out
         by_cases c16 : t404 = true
         ·subst c16
          rw [if_pos rfl] at H
          have H' := Aside0.mk H
          clear H
          try go_wp2
          go_roundg k1
          case measure => have := HK1.out; omega
          case rel => exact ⟨(x6_1), (wrap64 (x21_1 + 1)), EQ, EQ, H', ⟨by have := HK1.out; omega⟩, ⟨BK⟩, ⟨by repeat (first | (with_reducible exact HR402_0.out) | (with_reducible refine Kd.C_alloc ?_ _) | (with_reducible refine Kd.C_drewN ?_ _) | (with_reducible refine Kd.C_drew ?_) | exact HR402_0.out)⟩, ⟨BL⟩⟩
         ·replace c16 := Bool.eq_false_iff.mpr c16
          subst c16
          rw [if_neg Bool.false_ne_true] at H
          have H' := Aside0.mk H
          clear H
          try go_wp2
          go_roundg k1
          case measure => have := HK1.out; omega
          case rel => exact ⟨(wrap64 (x6_1 + 1)), (wrap64 (x21_1 + 1)), EQ, EQ, H', ⟨by have := HK1.out; omega⟩, ⟨BK⟩, ⟨by repeat (first | (with_reducible exact HR402_0.out) | (with_reducible refine Kd.C_alloc ?_ _) | (with_reducible refine Kd.C_drewN ?_ _) | (with_reducible refine Kd.C_drew ?_) | exact HR402_0.out)⟩, ⟨BL⟩⟩
        ·rw [if_neg c14] at H
         exact absurd H (by simp)
       ·rw [if_neg c13] at H
        exact absurd H (by simp)
      ·rw [if_neg c12] at H
       have c12b0 : decide (x21_1 < ((rd_L10 t398 a1).length : Int)) = false := decide_eq_false c12
       clear c12
       obtain rfl := Option.some.inj H
       go_wp2
       go_ret
       exact ⟨EWW, BL⟩
   ·rw [if_neg c7] at H
    exact absurd H (by simp)
  ·rw [if_neg c6] at H
   exact absurd H (by simp)
 ·replace c5 := Bool.eq_false_iff.mpr c5
  subst c5
  rw [if_neg Bool.false_ne_true] at H
  obtain rfl := Option.some.inj H
  try go_wp2
  go_ret
  exact ⟨EWW, BL⟩
def impl_isLetter.f (a0 : Int) : Option (Bool) := if a0 ≥ 97 then (some (decide (a0 ≤ 122))) else (some false)
set_option maxHeartbeats 8000000 in
set_option maxRecDepth 100000 in
theorem impl_isLetter.calls (a0 : Int) (r : Bool) (w : World) (h : impl_isLetter.f a0 = some r) :
  Calls Try.prog 122 #[.int .u8 a0] w fun e w' => e = .returned (.bool r) ∧ Drawn0 w w' := by
 have H : (if a0 ≥ 97 then (some (decide (a0 ≤ 122))) else (some false)) = some r := h
 clear h
 replace H := Aside0.mk H
 go_enter Try.func122, Try.ntmps122
 replace H := H.out
 by_cases c2 : a0 ≥ 97
 ·rw [if_pos c2] at H
  have c2b0 : decide (97 ≤ a0) = true := decide_eq_true c2
  clear c2
  obtain rfl := Option.some.inj H
  try go_wp2
  go_ret
  exact ⟨by first | rfl | (simp; done) | (simp [*]; done), by repeat (first | exact Drawn0.refl _ | apply Drawn0.step)⟩
 ·rw [if_neg c2] at H
  have c2b0 : decide (97 ≤ a0) = false := decide_eq_false c2
  clear c2
  obtain rfl := Option.some.inj H
  try go_wp2
  go_ret
  exact ⟨by first | rfl | (simp; done) | (simp [*]; done), by repeat (first | exact Drawn0.refl _ | apply Drawn0.step)⟩
def impl_alone.f (k : Nat) (a0_0 : Int) (a0_1 : Int) (a0_2 : ByteArray) (a1 : ByteArray) : Option Bool := (impl_layout.f k a0_0 a0_1 a0_2).bind fun rows => HandAlone.aloneF impl_isLetter.f k rows a0_2 a1
theorem impl_alone.calls (k : Nat) (a0_0 : Int) (a0_1 : Int) (a0_2 : ByteArray) (a1 : ByteArray) (r : Bool) (w : World) (h : impl_alone.f k a0_0 a0_1 a0_2 a1 = some r) :
  Calls Try.prog 142 #[.agg #[.int .i64 a0_0, .int .i64 a0_1, .string a0_2], .string a1] w fun e w' => e = .returned (.bool r) ∧ Below w.heap.size w w' := by
 obtain ⟨rows, h1, h2⟩ := Option.bind_eq_some_iff.mp h
 exact HandAlone.alone_u k a0_0 a0_1 a0_2 a1 impl_isLetter.f rows r w (fun x b hx V => impl_isLetter.calls x b V hx) (fun V => impl_layout.calls k a0_0 a0_1 a0_2 rows V h1) h2
mutual
def impl_FormOf.l0 : Nat → List (S153) → List (S153) → Int → Int → Int → Int → ByteArray → Option (Int)
 | 0, _, _, _, _, _, _, _ => none
 | k + 1, x3, x22, x23, x24, x406000, x406001, x406002 => if x24 < x23 then (if 0 ≤ x24 then (if x24 < (x22.length : Int) then (if ((rd_T153 x22 x24).f3) < 3 then (some 4) else (impl_FormOf.l0 k x3 x22 x23 (wrap64 (x24 + 1)) x406000 x406001 x406002)) else (none)) else (none)) else (impl_FormOf.l1 k x3 (x3.length : Int) 0 x406000 x406001 x406002)
def impl_FormOf.l1 : Nat → List (S153) → Int → Int → Int → Int → ByteArray → Option (Int)
 | 0, _, _, _, _, _, _ => none
 | k + 1, x32, x33, x34, x406000, x406001, x406002 => if x34 < x33 then (if 0 ≤ x34 then (if x34 < (x32.length : Int) then ((impl_UncheckedIn.f k x406000 x406001 x406002 x34).bind fun t416 => (if (wrap64 (2 * t416)) > ((rd_T153 x32 x34).f3) then (some 5) else (impl_FormOf.l1 k x32 x33 (wrap64 (x34 + 1)) x406000 x406001 x406002))) else (none)) else (none)) else ((impl_alone.f k x406000 x406001 x406002 x406002).bind fun t417 => (if t417 = true then (some 5) else (some 0)))
end
def impl_FormOf.f (k : Nat) (a0_0 : Int) (a0_1 : Int) (a0_2 : ByteArray) : Option (Int) := (impl_IsGrid.f k a0_0 a0_1 a0_2).bind fun t406 => (if t406 = true then ((impl_IsSymmetric.f k a0_0 a0_1 a0_2).bind fun t407 => (if t407 = true then ((impl_IsConnected.f k a0_0 a0_1 a0_2).bind fun t408 => (if t408 = true then ((impl_SlotsOf.f k a0_0 a0_1 a0_2).bind fun t409 => (impl_FormOf.l0 k t409 t409 (t409.length : Int) 0 a0_0 a0_1 a0_2)) else (some 3))) else (some 2))) else (some 1))
set_option maxHeartbeats 8000000 in
set_option maxRecDepth 100000 in
theorem impl_FormOf.calls (k : Nat) (a0_0 : Int) (a0_1 : Int) (a0_2 : ByteArray) (r : Int) (w : World) (h : impl_FormOf.f k a0_0 a0_1 a0_2 = some r) :
  Calls Try.prog 90 #[.agg #[.int .i64 a0_0, .int .i64 a0_1, .string a0_2]] w fun e w' => e = .returned (.int .i64 r) ∧ Below w.heap.size w w' := by
 have hu66 := Try.underlying66
 have hu153 := Try.underlying153
 have HB := Aside0.mk (Below.refl w.heap.size w)
 have H : ((impl_IsGrid.f k a0_0 a0_1 a0_2).bind fun t406 => (if t406 = true then ((impl_IsSymmetric.f k a0_0 a0_1 a0_2).bind fun t407 => (if t407 = true then ((impl_IsConnected.f k a0_0 a0_1 a0_2).bind fun t408 => (if t408 = true then ((impl_SlotsOf.f k a0_0 a0_1 a0_2).bind fun t409 => (impl_FormOf.l0 k t409 t409 (t409.length : Int) 0 a0_0 a0_1 a0_2)) else (some 3))) else (some 2))) else (some 1))) = some r := h
 clear h
 obtain ⟨t406, A2, H⟩ := be H
 replace H := Aside0.mk H
 go_enter Try.func90, Try.ntmps90
 go_wp2_with (first | ((with_reducible refine gate_dst (N := 1) rfl ?_); refine box_ev (N := 1) (cs := #[.int .i64 a0_0, .int .i64 a0_1, .string a0_2]) (t := 66) ?_; intro gb405 hg w9000 hbox hb; have n0_ := BS (w := w) hb; have n1_ := Aside0.mk (hbox); have n2_ := SZ (w := w) hg; have n3_ := SZ (w := w) hg; clear HB; have HB := n0_; have BK405 := n1_; have GW405 := n2_; have GE405 := n3_; clear n0_ n1_ n2_ n3_; clear hb hbox hg; obtain ⟨hcz9001_0, hcz9001_1, hcz9001_2, hfz9001_0, hfz9001_1, hfz9001_2⟩ := cz3 BK405.out) | ((with_reducible refine gate_callee (f := 138) rfl ?_); refine goesS (some 10) Try.func138 #[.agg #[.int .i64 a0_0, .int .i64 a0_1, .string a0_2]] ?_; (with_reducible refine (impl_IsGrid.calls k a0_0 a0_1 a0_2 _ _ A2.out).mono ?_); rintro e w9002 ⟨rfl, hb⟩; refine ⟨_, rfl, ?_⟩; replace BK405 := KB BK405 hb; replace HB := BS (w := w) hb; (try clear hb); obtain ⟨hcz9003_0, hcz9003_1, hcz9003_2, hfz9003_0, hfz9003_1, hfz9003_2⟩ := cz3 BK405.out; refine stop_ ?_))
 refine Hide.mk ?_
 replace H := H.out
 by_cases c3 : t406 = true
 ·subst c3
  rw [if_pos rfl] at H
  obtain ⟨t407, A4, H⟩ := be H
  replace H := Aside0.mk H
  go_wp2_with (first | ((with_reducible refine gate_callee (f := 139) rfl ?_); refine goesS (some 14) Try.func139 #[.agg #[.int .i64 a0_0, .int .i64 a0_1, .string a0_2]] ?_; (with_reducible refine (impl_IsSymmetric.calls k a0_0 a0_1 a0_2 _ _ A4.out).mono ?_); rintro e w9004 ⟨rfl, hb⟩; refine ⟨_, rfl, ?_⟩; replace BK405 := KB BK405 hb; replace HB := BS (w := w) hb; (try clear hb); obtain ⟨hcz9005_0, hcz9005_1, hcz9005_2, hfz9005_0, hfz9005_1, hfz9005_2⟩ := cz3 BK405.out; refine stop_ ?_))
  refine Hide.mk ?_
  replace H := H.out
  by_cases c5 : t407 = true
  ·subst c5
   rw [if_pos rfl] at H
   obtain ⟨t408, A6, H⟩ := be H
   replace H := Aside0.mk H
   go_wp2_with (first | ((with_reducible refine gate_callee (f := 140) rfl ?_); refine goesS (some 18) Try.func140 #[.agg #[.int .i64 a0_0, .int .i64 a0_1, .string a0_2]] ?_; (with_reducible refine (impl_IsConnected.calls k a0_0 a0_1 a0_2 _ _ A6.out).mono ?_); rintro e w9006 ⟨rfl, hb⟩; refine ⟨_, rfl, ?_⟩; replace BK405 := KB BK405 hb; replace HB := BS (w := w) hb; (try clear hb); obtain ⟨hcz9007_0, hcz9007_1, hcz9007_2, hfz9007_0, hfz9007_1, hfz9007_2⟩ := cz3 BK405.out; refine stop_ ?_))
   refine Hide.mk ?_
   replace H := H.out
   by_cases c7 : t408 = true
   ·subst c7
    rw [if_pos rfl] at H
    obtain ⟨t409, A8, H⟩ := be H
    have H' := Aside0.mk H
    clear H
    try go_wp2_with (first | ((with_reducible refine gate_callee (f := 91) rfl ?_); refine goesS (some 21) Try.func91 #[.agg #[.int .i64 a0_0, .int .i64 a0_1, .string a0_2]] ?_; (with_reducible refine (impl_SlotsOf.calls k a0_0 a0_1 a0_2 t409 _ A8.out).mono ?_); rintro e w9008 ⟨v410, rfl, ho0, hb⟩; refine ⟨_, rfl, ?_⟩; have n0_ := Aside0.mk (Kd.R_lower ho0 (below_size BL)); replace BK405 := KB BK405 hb; replace HB := BS (w := w) hb; have HO411 := n0_; clear n0_; (try clear hb); (try clear ho0); obtain ⟨Ao9009, co9009, eo9009⟩ := Kd.R_slice HO411.out; subst eo9009))
    go_loopg [24] k (fun kq v24 w' => ∃ (x24_1 : Int), v24 = .int .i64 x24_1 ∧ Aside0 (impl_FormOf.l0 kq t409 t409 (t409.length : Int) x24_1 a0_0 a0_1 a0_2 = some r) ∧ Aside0 (kq ≤ k) ∧ Aside0 (Kd.R k153 153 w' w.heap.size (fun _ => True) (.slice Ao9009 t409.length co9009) t409) ∧ Aside0 (Kd.R k153 153 w' w.heap.size (fun _ => True) (.slice Ao9009 t409.length co9009) t409) ∧ Aside0 (w'.heap[gb405]? = some (.cells #[.int .i64 a0_0, .int .i64 a0_1, .string a0_2] 66 (0, 0))) ∧ Aside0 (Below w.heap.size w w'))
    case atStart => exact ⟨(0), EQ, H', ⟨Nat.le_refl _⟩, ⟨(RR HO411)⟩, ⟨(RR HO411)⟩, ⟨BK⟩, ⟨BL⟩⟩
    case round =>
     clear H'
     try clear c3
     try clear c5
     try clear c7
     try clear hcz9001_0
     try clear hcz9001_1
     try clear hcz9001_2
     try clear hcz9003_0
     try clear hcz9003_1
     try clear hcz9003_2
     try clear hcz9005_0
     try clear hcz9005_1
     try clear hcz9005_2
     try clear hcz9007_0
     try clear hcz9007_1
     try clear hcz9007_2
     try clear hfz9001_0
     try clear hfz9001_1
     try clear hfz9001_2
     try clear hfz9003_0
     try clear hfz9003_1
     try clear hfz9003_2
     try clear hfz9005_0
     try clear hfz9005_1
     try clear hfz9005_2
     try clear hfz9007_0
     try clear hfz9007_1
     try clear hfz9007_2
     obtain ⟨x24_1, rfl, HA, HK1, HO_3, HO_22, BK405, HB⟩ := hrel
     cases gk with
     | zero => exact absurd HA.out (by simp [impl_FormOf.l0])
     | succ k1 =>
      have H := HA.out
      clear HA
      simp only [impl_FormOf.l0] at H
      by_cases c19 : x24_1 < (t409.length : Int)
      ·rw [if_pos c19] at H
       have c19b0 : decide (x24_1 < (t409.length : Int)) = true := decide_eq_true c19
       clear c19
       by_cases c20 : 0 ≤ x24_1
       ·rw [if_pos c20] at H
        have c20b0 : decide (0 ≤ x24_1) = true := decide_eq_true c20
        clear c20
        by_cases c21 : x24_1 < (t409.length : Int)
        ·rw [if_pos c21] at H
         have c21b0 : decide (x24_1 < (t409.length : Int)) = true := decide_eq_true c21
         clear c21
         have p412 : 0 ≤ (x24_1 : Int) := OD
         have q412 : x24_1 < (t409.length : Int) := OD
         obtain ⟨ad412, e412, hx412_0, hx412_1, hx412_2, hx412_3⟩ := at_T153 (Kd.R_reads' HO_22.out).2.2 x24_1 p412 q412
         cases e412
         replace p412 := eq_true p412
         replace q412 := eq_true q412
         replace H := Aside0.mk H
         go_wp2_with (first | ((with_reducible refine gate_dst (N := 5) rfl ?_); refine box_ev (N := 5) (cs := #[.int .i64 0, .bool false, .int .i64 0, .int .i64 0]) (t := 153) ?_; intro gb413 hg w9010 hbox hb; have n0_ := Aside0.mk (Kd.R_below (Kd.R_elderB (RR HO_3) gb413 (Nat.le_of_eq hg.symm)) hb); have n1_ := Aside0.mk (Kd.R_below (Kd.R_elderB (RR HO_22) gb413 (Nat.le_of_eq hg.symm)) hb); have n2_ := KB BK405 hb; have n3_ := BS (w := w) hb; have n4_ := Aside0.mk (hbox); have n5_ := SZ (w := w) hg; have n6_ := SZ (w := w) hg; have n7_ := NL BK405 hg; have n8_ := NG BK405 hg; clear HO_3 HO_22 BK405 HB; have HO_3 := n0_; have HO_22 := n1_; have BK405 := n2_; have HB := n3_; have BK413 := n4_; have GW413 := n5_; have GE413 := n6_; have NB405_413 := n7_; have NB413_405 := n8_; clear n0_ n1_ n2_ n3_ n4_ n5_ n6_ n7_ n8_; clear hb hbox hg; have hnb9011 := NB413_405.out; have hnc9011 := NB405_413.out; obtain ⟨hcz9012_0, hcz9012_1, hcz9012_2, hcz9012_3, hfz9012_0, hfz9012_1, hfz9012_2, hfz9012_3⟩ := cz4 BK413.out; refine stop_ ?_))
         refine Hide.mk ?_
         replace H := H.out
         by_cases c22 : ((rd_T153 t409 x24_1).f3) < 3
         ·rw [if_pos c22] at H
          have c22b0 : decide (((rd_T153 t409 x24_1).f3) < 3) = true := decide_eq_true c22
          clear c22
          obtain rfl := Option.some.inj H
          try go_wp2
          go_ret
          exact ⟨EWW, BL⟩
         ·rw [if_neg c22] at H
          have c22b0 : decide (((rd_T153 t409 x24_1).f3) < 3) = false := decide_eq_false c22
          clear c22
          have H' := Aside0.mk H
          clear H
          try go_wp2
          go_roundg k1
          case measure => have := HK1.out; omega
          case rel => exact ⟨(wrap64 (x24_1 + 1)), EQ, H', ⟨by have := HK1.out; omega⟩, ⟨by (with_reducible repeat (first | apply Kd.R_alloc | apply Kd.R_drewN | apply Kd.R_drew)); exact Kd.R_mono (Kd.R_far (p := ⟨gb413, 3, none⟩) (Kd.R_far (p := ⟨gb413, 2, none⟩) (Kd.R_far (p := ⟨gb413, 1, none⟩) (Kd.R_far (p := ⟨gb413, 0, none⟩) (Kd.R_mono HO_3.out (fun k_ hk => (⟨hk, hk.2⟩ : _ ∧ k_ ≠ gb413))) (fun _ hk => hk.2) (.int .i64 ((rd_T153 t409 x24_1).f0))) (fun _ hk => hk.2) (.bool ((rd_T153 t409 x24_1).f1))) (fun _ hk => hk.2) (.int .i64 ((rd_T153 t409 x24_1).f2))) (fun _ hk => hk.2) (.int .i64 ((rd_T153 t409 x24_1).f3))) (fun _ hk => trivial)⟩, ⟨by (with_reducible repeat (first | apply Kd.R_alloc | apply Kd.R_drewN | apply Kd.R_drew)); exact Kd.R_mono (Kd.R_far (p := ⟨gb413, 3, none⟩) (Kd.R_far (p := ⟨gb413, 2, none⟩) (Kd.R_far (p := ⟨gb413, 1, none⟩) (Kd.R_far (p := ⟨gb413, 0, none⟩) (Kd.R_mono HO_22.out (fun k_ hk => (⟨hk, hk.2⟩ : _ ∧ k_ ≠ gb413))) (fun _ hk => hk.2) (.int .i64 ((rd_T153 t409 x24_1).f0))) (fun _ hk => hk.2) (.bool ((rd_T153 t409 x24_1).f1))) (fun _ hk => hk.2) (.int .i64 ((rd_T153 t409 x24_1).f2))) (fun _ hk => hk.2) (.int .i64 ((rd_T153 t409 x24_1).f3))) (fun _ hk => trivial)⟩, ⟨by (with_reducible repeat (first | refine blk_drewN ?_ _ | refine blk_drew ?_ | refine blk_alloc ?_ _)); refine blk_far ?_ NB405_413.out _; (with_reducible repeat (first | refine blk_drewN ?_ _ | refine blk_drew ?_ | refine blk_alloc ?_ _)); refine blk_far ?_ NB405_413.out _; (with_reducible repeat (first | refine blk_drewN ?_ _ | refine blk_drew ?_ | refine blk_alloc ?_ _)); refine blk_far ?_ NB405_413.out _; (with_reducible repeat (first | refine blk_drewN ?_ _ | refine blk_drew ?_ | refine blk_alloc ?_ _)); refine blk_far ?_ NB405_413.out _; (with_reducible repeat (first | refine blk_drewN ?_ _ | refine blk_drew ?_ | refine blk_alloc ?_ _)); exact BK405.out⟩, ⟨BL⟩⟩
        ·rw [if_neg c21] at H
         exact absurd H (by simp)
       ·rw [if_neg c20] at H
        exact absurd H (by simp)
      ·rw [if_neg c19] at H
       have c19b0 : decide (x24_1 < (t409.length : Int)) = false := decide_eq_false c19
       clear c19
       have H' := Aside0.mk H
       clear H
       go_wp2
       go_loopg [34] k1 (fun kq v34 w' => ∃ (x34_2 : Int), v34 = .int .i64 x34_2 ∧ Aside0 (impl_FormOf.l1 kq t409 (t409.length : Int) x34_2 a0_0 a0_1 a0_2 = some r) ∧ Aside0 (kq ≤ k1) ∧ Aside0 (Kd.R k153 153 w' w.heap.size (fun _ => True) (.slice Ao9009 t409.length co9009) t409) ∧ Aside0 (w'.heap[gb405]? = some (.cells #[.int .i64 a0_0, .int .i64 a0_1, .string a0_2] 66 (0, 0))) ∧ Aside0 (Below w.heap.size w w'))
       case atStart => exact ⟨(0), EQ, H', ⟨Nat.le_refl _⟩, ⟨(RR HO_3)⟩, ⟨BK⟩, ⟨BL⟩⟩
       case round =>
        clear H'
        try clear c3
        try clear c5
        try clear c7
        try clear c19
        try clear c19b0
        try clear hcz9001_0
        try clear hcz9001_1
        try clear hcz9001_2
        try clear hcz9003_0
        try clear hcz9003_1
        try clear hcz9003_2
        try clear hcz9005_0
        try clear hcz9005_1
        try clear hcz9005_2
        try clear hcz9007_0
        try clear hcz9007_1
        try clear hcz9007_2
        try clear hfz9001_0
        try clear hfz9001_1
        try clear hfz9001_2
        try clear hfz9003_0
        try clear hfz9003_1
        try clear hfz9003_2
        try clear hfz9005_0
        try clear hfz9005_1
        try clear hfz9005_2
        try clear hfz9007_0
        try clear hfz9007_1
        try clear hfz9007_2
        obtain ⟨x34_2, rfl, HA, HK2, HO_32, BK405, HB⟩ := hrel
        cases gk with
        | zero => exact absurd HA.out (by simp [impl_FormOf.l1])
        | succ k2 =>
         have H := HA.out
         clear HA
         simp only [impl_FormOf.l1] at H
         by_cases c29 : x34_2 < (t409.length : Int)
         ·rw [if_pos c29] at H
          have c29b0 : decide (x34_2 < (t409.length : Int)) = true := decide_eq_true c29
          clear c29
          by_cases c30 : 0 ≤ x34_2
          ·rw [if_pos c30] at H
           have c30b0 : decide (0 ≤ x34_2) = true := decide_eq_true c30
           clear c30
           by_cases c31 : x34_2 < (t409.length : Int)
           ·rw [if_pos c31] at H
            have c31b0 : decide (x34_2 < (t409.length : Int)) = true := decide_eq_true c31
            clear c31
            obtain ⟨t416, A32, H⟩ := be H
            have p414 : 0 ≤ (x34_2 : Int) := OD
            have q414 : x34_2 < (t409.length : Int) := OD
            obtain ⟨ad414, e414, hx414_0, hx414_1, hx414_2, hx414_3⟩ := at_T153 (Kd.R_reads' HO_32.out).2.2 x34_2 p414 q414
            cases e414
            replace p414 := eq_true p414
            replace q414 := eq_true q414
            replace H := Aside0.mk H
            try go_wp2_with (first | ((with_reducible refine gate_dst (N := 7) rfl ?_); refine box_ev (N := 7) (cs := #[.int .i64 0, .bool false, .int .i64 0, .int .i64 0]) (t := 153) ?_; intro gb415 hg w9010 hbox hb; have n0_ := Aside0.mk (Kd.R_below (Kd.R_elderB (RR HO_32) gb415 (Nat.le_of_eq hg.symm)) hb); have n1_ := KB BK405 hb; have n2_ := BS (w := w) hb; have n3_ := Aside0.mk (hbox); have n4_ := SZ (w := w) hg; have n5_ := SZ (w := w) hg; have n6_ := NL BK405 hg; have n7_ := NG BK405 hg; clear HO_32 BK405 HB; have HO_32 := n0_; have BK405 := n1_; have HB := n2_; have BK415 := n3_; have GW415 := n4_; have GE415 := n5_; have NB405_415 := n6_; have NB415_405 := n7_; clear n0_ n1_ n2_ n3_ n4_ n5_ n6_ n7_; clear hb hbox hg; have hnb9011 := NB415_405.out; have hnc9011 := NB405_415.out; obtain ⟨hcz9012_0, hcz9012_1, hcz9012_2, hcz9012_3, hfz9012_0, hfz9012_1, hfz9012_2, hfz9012_3⟩ := cz4 BK415.out))
            have n0_ : Aside0 (Kd.R k153 153 ((((w9010.setCell ⟨gb415, 0, none⟩ (.int .i64 ((rd_T153 t409 x34_2).f0))).setCell ⟨gb415, 1, none⟩ (.bool ((rd_T153 t409 x34_2).f1))).setCell ⟨gb415, 2, none⟩ (.int .i64 ((rd_T153 t409 x34_2).f2))).setCell ⟨gb415, 3, none⟩ (.int .i64 ((rd_T153 t409 x34_2).f3))) w.heap.size (fun k_ => k_ ≠ gb415) (.slice (some ad414) t409.length co9009) t409) := ⟨by (with_reducible repeat (first | apply Kd.R_alloc | apply Kd.R_drewN | apply Kd.R_drew)); exact Kd.R_mono (Kd.R_far (p := ⟨gb415, 3, none⟩) (Kd.R_far (p := ⟨gb415, 2, none⟩) (Kd.R_far (p := ⟨gb415, 1, none⟩) (Kd.R_far (p := ⟨gb415, 0, none⟩) (Kd.R_mono HO_32.out (fun k_ hk => (⟨hk, hk.2⟩ : _ ∧ k_ ≠ gb415))) (fun _ hk => hk.2) (.int .i64 ((rd_T153 t409 x34_2).f0))) (fun _ hk => hk.2) (.bool ((rd_T153 t409 x34_2).f1))) (fun _ hk => hk.2) (.int .i64 ((rd_T153 t409 x34_2).f2))) (fun _ hk => hk.2) (.int .i64 ((rd_T153 t409 x34_2).f3))) (fun _ hk => hk.1.2)⟩
            have n1_ : Aside0 (((((w9010.setCell ⟨gb415, 0, none⟩ (.int .i64 ((rd_T153 t409 x34_2).f0))).setCell ⟨gb415, 1, none⟩ (.bool ((rd_T153 t409 x34_2).f1))).setCell ⟨gb415, 2, none⟩ (.int .i64 ((rd_T153 t409 x34_2).f2))).setCell ⟨gb415, 3, none⟩ (.int .i64 ((rd_T153 t409 x34_2).f3))).heap[gb405]? = some (.cells #[.int .i64 a0_0, .int .i64 a0_1, .string a0_2] 66 (0, 0))) := ⟨by (with_reducible repeat (first | refine blk_drewN ?_ _ | refine blk_drew ?_ | refine blk_alloc ?_ _)); refine blk_far ?_ NB405_415.out _; (with_reducible repeat (first | refine blk_drewN ?_ _ | refine blk_drew ?_ | refine blk_alloc ?_ _)); refine blk_far ?_ NB405_415.out _; (with_reducible repeat (first | refine blk_drewN ?_ _ | refine blk_drew ?_ | refine blk_alloc ?_ _)); refine blk_far ?_ NB405_415.out _; (with_reducible repeat (first | refine blk_drewN ?_ _ | refine blk_drew ?_ | refine blk_alloc ?_ _)); refine blk_far ?_ NB405_415.out _; (with_reducible repeat (first | refine blk_drewN ?_ _ | refine blk_drew ?_ | refine blk_alloc ?_ _)); exact BK405.out⟩
            have n2_ : Aside0 (((((w9010.setCell ⟨gb415, 0, none⟩ (.int .i64 ((rd_T153 t409 x34_2).f0))).setCell ⟨gb415, 1, none⟩ (.bool ((rd_T153 t409 x34_2).f1))).setCell ⟨gb415, 2, none⟩ (.int .i64 ((rd_T153 t409 x34_2).f2))).setCell ⟨gb415, 3, none⟩ (.int .i64 ((rd_T153 t409 x34_2).f3))).heap[gb415]? = some (.cells #[.int .i64 ((rd_T153 t409 x34_2).f0), .bool ((rd_T153 t409 x34_2).f1), .int .i64 ((rd_T153 t409 x34_2).f2), .int .i64 ((rd_T153 t409 x34_2).f3)] 153 (0, 0))) := ⟨by (with_reducible repeat (first | refine blk_drewN ?_ _ | refine blk_drew ?_ | refine blk_alloc ?_ _)); refine blk_put (cs := #[.int .i64 ((rd_T153 t409 x34_2).f0), .bool ((rd_T153 t409 x34_2).f1), .int .i64 ((rd_T153 t409 x34_2).f2), .int .i64 0]) ?_ 3 _ rfl; (with_reducible repeat (first | refine blk_drewN ?_ _ | refine blk_drew ?_ | refine blk_alloc ?_ _)); refine blk_put (cs := #[.int .i64 ((rd_T153 t409 x34_2).f0), .bool ((rd_T153 t409 x34_2).f1), .int .i64 0, .int .i64 0]) ?_ 2 _ rfl; (with_reducible repeat (first | refine blk_drewN ?_ _ | refine blk_drew ?_ | refine blk_alloc ?_ _)); refine blk_put (cs := #[.int .i64 ((rd_T153 t409 x34_2).f0), .bool false, .int .i64 0, .int .i64 0]) ?_ 1 _ rfl; (with_reducible repeat (first | refine blk_drewN ?_ _ | refine blk_drew ?_ | refine blk_alloc ?_ _)); refine blk_put (cs := #[.int .i64 0, .bool false, .int .i64 0, .int .i64 0]) ?_ 0 _ rfl; (with_reducible repeat (first | refine blk_drewN ?_ _ | refine blk_drew ?_ | refine blk_alloc ?_ _)); exact BK415.out⟩
            have n3_ : Aside0 (Below w.heap.size w ((((w9010.setCell ⟨gb415, 0, none⟩ (.int .i64 ((rd_T153 t409 x34_2).f0))).setCell ⟨gb415, 1, none⟩ (.bool ((rd_T153 t409 x34_2).f1))).setCell ⟨gb415, 2, none⟩ (.int .i64 ((rd_T153 t409 x34_2).f2))).setCell ⟨gb415, 3, none⟩ (.int .i64 ((rd_T153 t409 x34_2).f3)))) := ⟨BL⟩
            (try clear HO_32)
            (try clear BK405)
            (try clear BK415)
            (try clear HB)
            generalize ((((w9010.setCell ⟨gb415, 0, none⟩ (.int .i64 ((rd_T153 t409 x34_2).f0))).setCell ⟨gb415, 1, none⟩ (.bool ((rd_T153 t409 x34_2).f1))).setCell ⟨gb415, 2, none⟩ (.int .i64 ((rd_T153 t409 x34_2).f2))).setCell ⟨gb415, 3, none⟩ (.int .i64 ((rd_T153 t409 x34_2).f3))) = w9013 at n0_ n1_ n2_ n3_ ⊢
            have HO_32 := n0_
            have BK405 := n1_
            have BK415 := n2_
            have HB := n3_
            clear n0_ n1_ n2_ n3_
            have n0_ := Aside0.mk (Kd.R_drew HO_32.out)
            have n1_ := Aside0.mk (blk_drew BK405.out)
            have n2_ := Aside0.mk (blk_drew BK415.out)
            have n3_ := Aside0.mk (below_drew1 HB.out)
            clear HO_32
            clear BK405
            clear BK415
            clear HB
            have HO_32 := n0_
            have BK405 := n1_
            have BK415 := n2_
            have HB := n3_
            clear n0_ n1_ n2_ n3_
            refine start_ (n := 7) (S := fun w' => w'.cell? ⟨gb405, 0, none⟩ = some (.int .i64 a0_0) ∧ w'.cell? ⟨gb405, 1, none⟩ = some (.int .i64 a0_1) ∧ w'.cell? ⟨gb405, 2, none⟩ = some (.string a0_2) ∧ w'.cell? ⟨gb415, 0, none⟩ = some (.int .i64 ((rd_T153 t409 x34_2).f0)) ∧ w'.cell? ⟨gb415, 1, none⟩ = some (.bool ((rd_T153 t409 x34_2).f1)) ∧ w'.cell? ⟨gb415, 2, none⟩ = some (.int .i64 ((rd_T153 t409 x34_2).f2)) ∧ w'.cell? ⟨gb415, 3, none⟩ = some (.int .i64 ((rd_T153 t409 x34_2).f3))) (ds := []) #[false, false, false, false, false, false, false] (by kernel_rfl) rfl rfl ⟨(blk_cell BK405.out 0).trans rfl, (blk_cell BK405.out 1).trans rfl, (blk_cell BK405.out 2).trans rfl, (blk_cell BK415.out 0).trans rfl, (blk_cell BK415.out 1).trans rfl, (blk_cell BK415.out 2).trans rfl, (blk_cell BK415.out 3).trans rfl⟩ (fun hHeld => ?_)
            generalize w9013.drew = w9014 at HO_32 BK405 BK415 HB hHeld ⊢
            refine puS (i := 1) (N := some 40) #[false, true, false, false, false, false, false] (by kernel_rfl) ?_
            refine puS (i := 4) (N := some 43) #[false, true, false, false, true, false, false] (by kernel_rfl) ?_
            refine take_ (i := 0) (N := some 39) (v := ?_) (a' := ?_) #[true, true, false, false, true, false, false] rfl rfl (by kernel_rfl) (fun _ _ _ h => h) (Or.inl ⟨by rfl, ?_⟩) hHeld ?_ ?_
            rotate_left
            ·rintro w' ⟨s0, s1, s2, s3, s4, s5, s6⟩
             go_simp
             with_reducible rfl
            rotate_left
            ·simp only [Act.put, PT, i64_w, i32_w]
             rfl
            refine take_ (i := 5) (N := some 44) (v := ?_) (a' := ?_) #[true, true, false, false, true, true, false] rfl rfl (by kernel_rfl) (fun _ _ _ h => h) (Or.inl ⟨by rfl, ?_⟩) hHeld ?_ ?_
            rotate_left
            ·rintro w' ⟨s0, s1, s2, s3, s4, s5, s6⟩
             go_simp
             with_reducible rfl
            rotate_left
            ·simp only [Act.put, PT, i64_w, i32_w]
             rfl
            refine one_ (i := 2) (N := some 41) #[true, true, true, false, true, true, false] rfl rfl (by kernel_rfl) (by decide) (fun K hK => ?_)
            refine goes_ Try.func141 (by kernel_rfl) rfl #[.agg #[.int .i64 a0_0, .int .i64 a0_1, .string a0_2], .int .i64 x34_2] (by rfl) rfl rfl (by (try simp only [List.map_toArray, List.map_cons, List.map_nil]); first | done | rfl | (simp only [List.length_drop, List.length_take]; rfl)) ?_
            with_reducible refine (impl_UncheckedIn.calls k2 a0_0 a0_1 a0_2 x34_2 t416 _ A32.out).mono ?_
            rintro e w9015 ⟨rfl, hb⟩
            refine ⟨_, rfl, ?_⟩
            have n0_ := RB HO_32 hb
            have n1_ := KB BK405 hb
            have n2_ := KB BK415 hb
            have n3_ := BS (w := w) hb
            clear HO_32
            clear BK405
            clear BK415
            clear HB
            have HO_32 := n0_
            have BK405 := n1_
            have BK415 := n2_
            have HB := n3_
            clear n0_ n1_ n2_ n3_
            (try clear hb)
            (try clear hb2)
            (try clear hk)
            (try clear hi)
            refine hK.out _ _ ⟨(blk_cell BK405.out 0).trans rfl, (blk_cell BK405.out 1).trans rfl, (blk_cell BK405.out 2).trans rfl, (blk_cell BK415.out 0).trans rfl, (blk_cell BK415.out 1).trans rfl, (blk_cell BK415.out 2).trans rfl, (blk_cell BK415.out 3).trans rfl⟩ (fun hHeld => ?_)
            clear hK K
            refine norm_ (a' := ?_) ?_ ?_
            rotate_left
            ·show Act.put _ (some 41) _ = _
             simp only [Act.put, PT, i64_w, i32_w]
             rfl
            replace H := H.out
            by_cases c33 : (wrap64 (2 * t416)) > ((rd_T153 t409 x34_2).f3)
            ·rw [if_pos c33] at H
             have c33b0 : decide (((rd_T153 t409 x34_2).f3) < (wrap64 (2 * t416))) = true := decide_eq_true c33
             clear c33
             obtain rfl := Option.some.inj H
             refine puS (i := 3) (N := some 42) #[true, true, true, true, true, true, false] (by kernel_rfl) ?_
             refine puS (i := 6) (N := some 45) #[true, true, true, true, true, true, true] (by kernel_rfl) ?_
             refine done_ (by kernel_rfl) ?_
             try go_wp2
             go_ret
             exact ⟨EWW, BL⟩
            ·rw [if_neg c33] at H
             have c33b0 : decide (((rd_T153 t409 x34_2).f3) < (wrap64 (2 * t416))) = false := decide_eq_false c33
             clear c33
             have H' := Aside0.mk H
             clear H
             refine puS (i := 3) (N := some 42) #[true, true, true, true, true, true, false] (by kernel_rfl) ?_
             refine puS (i := 6) (N := some 45) #[true, true, true, true, true, true, true] (by kernel_rfl) ?_
             refine done_ (by kernel_rfl) ?_
             try go_wp2
             go_roundg k2
             case measure => have := HK1.out; have := HK2.out; omega
             case rel => exact ⟨(wrap64 (x34_2 + 1)), EQ, H', ⟨by have := HK1.out; have := HK2.out; omega⟩, ⟨by (with_reducible repeat (first | apply Kd.R_alloc | apply Kd.R_drewN | apply Kd.R_drew)); exact Kd.R_mono HO_32.out (fun _ hk => trivial)⟩, ⟨BK⟩, ⟨BL⟩⟩
           ·rw [if_neg c31] at H
            exact absurd H (by simp)
          ·rw [if_neg c30] at H
           exact absurd H (by simp)
         ·rw [if_neg c29] at H
          have c29b0 : decide (x34_2 < (t409.length : Int)) = false := decide_eq_false c29
          clear c29
          obtain ⟨t417, A46, H⟩ := be H
          obtain ⟨hcz9010_0, hcz9010_1, hcz9010_2, hfz9010_0, hfz9010_1, hfz9010_2⟩ := cz3 BK405.out
          replace H := Aside0.mk H
          go_wp2_with (first | ((with_reducible refine gate_callee (f := 142) rfl ?_); refine goesS (some 50) Try.func142 #[.agg #[.int .i64 a0_0, .int .i64 a0_1, .string a0_2], .string a0_2] ?_; (with_reducible refine (impl_alone.calls k2 a0_0 a0_1 a0_2 a0_2 _ _ A46.out).mono ?_); rintro e w9011 ⟨rfl, hb⟩; refine ⟨_, rfl, ?_⟩; replace HO_32 := RB HO_32 hb; replace BK405 := KB BK405 hb; replace HB := BS (w := w) hb; (try clear hb); refine stop_ ?_))
          refine Hide.mk ?_
          replace H := H.out
          by_cases c47 : t417 = true
          ·subst c47
           rw [if_pos rfl] at H
           obtain rfl := Option.some.inj H
           try go_wp2
           go_ret
           exact ⟨EWW, BL⟩
          ·replace c47 := Bool.eq_false_iff.mpr c47
           subst c47
           rw [if_neg Bool.false_ne_true] at H
           obtain rfl := Option.some.inj H
           try go_wp2
           go_ret
           exact ⟨EWW, BL⟩
   ·replace c7 := Bool.eq_false_iff.mpr c7
    subst c7
    rw [if_neg Bool.false_ne_true] at H
    obtain rfl := Option.some.inj H
    try go_wp2
    go_ret
    exact ⟨EWW, BL⟩
  ·replace c5 := Bool.eq_false_iff.mpr c5
   subst c5
   rw [if_neg Bool.false_ne_true] at H
   obtain rfl := Option.some.inj H
   try go_wp2
   go_ret
   exact ⟨EWW, BL⟩
 ·replace c3 := Bool.eq_false_iff.mpr c3
  subst c3
  rw [if_neg Bool.false_ne_true] at H
  obtain rfl := Option.some.inj H
  try go_wp2
  go_ret
  exact ⟨EWW, BL⟩
end Go.Proofs.Ythjcicmmbmagbaa.PFnExactIsPuzzle
