/- Walks of functions: what each computes. -/
import Derived.Test.YthjcicmmbmagbaaZIsPuzzleP0
import Derived.Test.YthjcicmmbmagbaaZIsPuzzleW
import Derived.Test.YthjcicmmbmagbaaZIsPuzzleShelf
import Derived.Test.YthjcicmmbmagbaaZIsPuzzleHandSort
import Derived.Test.YthjcicmmbmagbaaZIsPuzzleHandForm
import Derived.Test.YthjcicmmbmagbaaZIsPuzzleHandAlone
import Derived.Test.YthjcicmmbmagbaaZIsPuzzleHandReach
namespace Go.Proofs.Ythjcicmmbmagbaa.PFnExactIsPuzzle
open Go.RowKit Go.Proofs.YthjcicmmbmagbaaW.PrintWords Go.Proofs.YthjcicmmbmagbaaW.PrintLast Go.Proofs.YthjcicmmbmagbaaW.PrintMore Go.Proofs.Ythjcicmmbmagbaa.Sq
attribute [local go_sem] max2_int min2_int max_two min_two max_three min_three max_four min_four
set_option linter.unusedVariables false
set_option linter.unusedSimpArgs false
def laws_szGrid.f (a0_0 : Int) (a0_1 : Int) (a0_2 : ByteArray) (a1 : Int) : Option (Int) := if (wrap64 (a1 - (a0_2.size : Int))) < 0 then (some (-1)) else (some (wrap64 (a1 - (a0_2.size : Int))))
set_option maxHeartbeats 8000000 in
set_option maxRecDepth 100000 in
theorem laws_szGrid.calls (a0_0 : Int) (a0_1 : Int) (a0_2 : ByteArray) (a1 : Int) (r : Int) (w : World) (h : laws_szGrid.f a0_0 a0_1 a0_2 a1 = some r) :
  Calls Try.prog 80 #[.agg #[.int .i64 a0_0, .int .i64 a0_1, .string a0_2], .int .i64 a1] w fun e w' => e = .returned (.int .i64 r) ∧ Below w.heap.size w w' := by
 have hu60 := Try.underlying60
 have HB := Aside0.mk (Below.refl w.heap.size w)
 have H : (if (wrap64 (a1 - (a0_2.size : Int))) < 0 then (some (-1)) else (some (wrap64 (a1 - (a0_2.size : Int))))) = some r := h
 clear h
 replace H := Aside0.mk H
 go_enter Try.func80, Try.ntmps80
 go_wp2_with (first | ((with_reducible refine gate_dst (N := 2) rfl ?_); refine box_ev (N := 2) (cs := #[.int .i64 a0_0, .int .i64 a0_1, .string a0_2]) (t := 60) ?_; intro gb101 hg w9000 hbox hb; have n0_ := BS (w := w) hb; have n1_ := Aside0.mk (hbox); have n2_ := SZ (w := w) hg; have n3_ := SZ (w := w) hg; clear HB; have HB := n0_; have BK101 := n1_; have GW101 := n2_; have GE101 := n3_; clear n0_ n1_ n2_ n3_; clear hb hbox hg; obtain ⟨hcz9001_0, hcz9001_1, hcz9001_2, hfz9001_0, hfz9001_1, hfz9001_2⟩ := cz3 BK101.out; refine stop_ ?_))
 refine Hide.mk ?_
 replace H := H.out
 by_cases c3 : (wrap64 (a1 - (a0_2.size : Int))) < 0
 ·rw [if_pos c3] at H
  have c3b0 : decide ((wrap64 (a1 - (a0_2.size : Int))) < 0) = true := decide_eq_true c3
  clear c3
  obtain rfl := Option.some.inj H
  try go_wp2
  go_ret
  exact ⟨EWW, BL⟩
 ·rw [if_neg c3] at H
  have c3b0 : decide ((wrap64 (a1 - (a0_2.size : Int))) < 0) = false := decide_eq_false c3
  clear c3
  obtain rfl := Option.some.inj H
  try go_wp2
  go_ret
  exact ⟨EWW, BL⟩
def laws_szStep.f (a0_0 : Int) (a0_1 : ByteArray) (a0_2 : Int) (a0_3 : Int) (a1 : Int) : Option (Int) := if (wrap64 (a1 - (a0_1.size : Int))) < 0 then (some (-1)) else (some (wrap64 (a1 - (a0_1.size : Int))))
set_option maxHeartbeats 8000000 in
set_option maxRecDepth 100000 in
theorem laws_szStep.calls (a0_0 : Int) (a0_1 : ByteArray) (a0_2 : Int) (a0_3 : Int) (a1 : Int) (r : Int) (w : World) (h : laws_szStep.f a0_0 a0_1 a0_2 a0_3 a1 = some r) :
  Calls Try.prog 193 #[.agg #[.int .i64 a0_0, .string a0_1, .int .i64 a0_2, .int .i64 a0_3], .int .i64 a1] w fun e w' => e = .returned (.int .i64 r) ∧ Below w.heap.size w w' := by
 have hu186 := Try.underlying186
 have HB := Aside0.mk (Below.refl w.heap.size w)
 have H : (if (wrap64 (a1 - (a0_1.size : Int))) < 0 then (some (-1)) else (some (wrap64 (a1 - (a0_1.size : Int))))) = some r := h
 clear h
 replace H := Aside0.mk H
 go_enter Try.func193, Try.ntmps193
 go_wp2_with (first | ((with_reducible refine gate_dst (N := 2) rfl ?_); refine box_ev (N := 2) (cs := #[.int .i64 a0_0, .string a0_1, .int .i64 a0_2, .int .i64 a0_3]) (t := 186) ?_; intro gb102 hg w9000 hbox hb; have n0_ := BS (w := w) hb; have n1_ := Aside0.mk (hbox); have n2_ := SZ (w := w) hg; have n3_ := SZ (w := w) hg; clear HB; have HB := n0_; have BK102 := n1_; have GW102 := n2_; have GE102 := n3_; clear n0_ n1_ n2_ n3_; clear hb hbox hg; obtain ⟨hcz9001_0, hcz9001_1, hcz9001_2, hcz9001_3, hfz9001_0, hfz9001_1, hfz9001_2, hfz9001_3⟩ := cz4 BK102.out; refine stop_ ?_))
 refine Hide.mk ?_
 replace H := H.out
 by_cases c3 : (wrap64 (a1 - (a0_1.size : Int))) < 0
 ·rw [if_pos c3] at H
  have c3b0 : decide ((wrap64 (a1 - (a0_1.size : Int))) < 0) = true := decide_eq_true c3
  clear c3
  obtain rfl := Option.some.inj H
  try go_wp2
  go_ret
  exact ⟨EWW, BL⟩
 ·rw [if_neg c3] at H
  have c3b0 : decide ((wrap64 (a1 - (a0_1.size : Int))) < 0) = false := decide_eq_false c3
  clear c3
  obtain rfl := Option.some.inj H
  try go_wp2
  go_ret
  exact ⟨EWW, BL⟩
def laws_szStepS.l0 : Nat → List (S186) → Int → Int → Option (Int)
 | 0, _, _, _ => none
 | k + 1, x0, x1, x5 => if x5 < (x0.length : Int) then (if 0 ≤ x5 then ((laws_szStep.f ((rd_T186 x0 x5).f0) ((rd_T186 x0 x5).f1) ((rd_T186 x0 x5).f2) ((rd_T186 x0 x5).f3) x1).bind fun t104 => (if t104 < 0 then (some (-1)) else (laws_szStepS.l0 k x0 t104 (wrap64 (x5 + 1))))) else (none)) else (some x1)
def laws_szStepS.f (k : Nat) (l0 : List (S186)) (a1 : Int) : Option (Int) := if (wrap64 (a1 - (l0.length : Int))) < 0 then (some (-1)) else (laws_szStepS.l0 k l0 (wrap64 (a1 - (l0.length : Int))) 0)
set_option maxHeartbeats 8000000 in
set_option maxRecDepth 100000 in
theorem laws_szStepS.calls (k : Nat) (A0 : Option Addr) (c0 : Nat) (l0 : List (S186)) (a1 : Int) (r : Int) (w : World) (hr0 : Kd.C k186 w A0 l0.length l0) (hc0 : l0.length ≤ c0) (h : laws_szStepS.f k l0 a1 = some r) :
  Calls Try.prog 169 #[.slice A0 l0.length c0, .int .i64 a1] w fun e w' => e = .returned (.int .i64 r) ∧ Below w.heap.size w w' := by
 have hu186 := Try.underlying186
 have HR0 := Aside0.mk hr0
 have HC0 := Aside0.mk hc0
 clear hr0 hc0
 have HB := Aside0.mk (Below.refl w.heap.size w)
 have H : (if (wrap64 (a1 - (l0.length : Int))) < 0 then (some (-1)) else (laws_szStepS.l0 k l0 (wrap64 (a1 - (l0.length : Int))) 0)) = some r := h
 clear h
 replace H := Aside0.mk H
 go_enter Try.func169, Try.ntmps169
 replace H := H.out
 by_cases c3 : (wrap64 (a1 - (l0.length : Int))) < 0
 ·rw [if_pos c3] at H
  have c3b0 : decide ((wrap64 (a1 - (l0.length : Int))) < 0) = true := decide_eq_true c3
  clear c3
  obtain rfl := Option.some.inj H
  try go_wp2
  go_ret
  exact ⟨EWW, BL⟩
 ·rw [if_neg c3] at H
  have c3b0 : decide ((wrap64 (a1 - (l0.length : Int))) < 0) = false := decide_eq_false c3
  clear c3
  have H' := Aside0.mk H
  clear H
  try go_wp2
  go_loopg [1, 5] k (fun kq v1 v5 w' => ∃ (x1_1 : Int) (x5_1 : Int), v1 = .int .i64 x1_1 ∧ v5 = .int .i64 x5_1 ∧ Aside0 (laws_szStepS.l0 kq l0 x1_1 x5_1 = some r) ∧ Aside0 (kq ≤ k) ∧ Aside0 (Below w.heap.size w w'))
  case atStart => exact ⟨(wrap64 (a1 - (l0.length : Int))), (0), EQ, EQ, H', ⟨Nat.le_refl _⟩, ⟨BL⟩⟩
  case round =>
   clear H'
   try clear c3
   try clear c3b0
   obtain ⟨x1_1, x5_1, rfl, rfl, HA, HK1, HB⟩ := hrel
   cases gk with
   | zero => exact absurd HA.out (by simp [laws_szStepS.l0])
   | succ k1 =>
    have H := HA.out
    clear HA
    simp only [laws_szStepS.l0] at H
    by_cases c4 : x5_1 < (l0.length : Int)
    ·rw [if_pos c4] at H
     have c4b0 : decide (x5_1 < (l0.length : Int)) = true := decide_eq_true c4
     clear c4
     by_cases c5 : 0 ≤ x5_1
     ·rw [if_pos c5] at H
      have c5b0 : decide (0 ≤ x5_1) = true := decide_eq_true c5
      clear c5
      obtain ⟨t104, A6, H⟩ := be H
      have p103 : 0 ≤ (x5_1 : Int) := OD
      have q103 : x5_1 < (l0.length : Int) := OD
      obtain ⟨ad103, e103, hx103_0, hx103_1, hx103_2, hx103_3⟩ := at_T186 HR0.out x5_1 p103 q103
      cases e103
      try replace hx103_0 := (HB.out.cell (World.block_lt_of_cell? w _ hx103_0)).trans hx103_0
      try replace hx103_1 := (HB.out.cell (World.block_lt_of_cell? w _ hx103_1)).trans hx103_1
      try replace hx103_2 := (HB.out.cell (World.block_lt_of_cell? w _ hx103_2)).trans hx103_2
      try replace hx103_3 := (HB.out.cell (World.block_lt_of_cell? w _ hx103_3)).trans hx103_3
      replace p103 := eq_true p103
      replace q103 := eq_true q103
      replace H := Aside0.mk H
      go_wp2_with (first | ((with_reducible refine gate_callee (f := 193) rfl ?_); refine goesS (some 23) Try.func193 #[.agg #[.int .i64 ((rd_T186 l0 x5_1).f0), .string ((rd_T186 l0 x5_1).f1), .int .i64 ((rd_T186 l0 x5_1).f2), .int .i64 ((rd_T186 l0 x5_1).f3)], .int .i64 x1_1] ?_; (with_reducible refine (laws_szStep.calls ((rd_T186 l0 x5_1).f0) ((rd_T186 l0 x5_1).f1) ((rd_T186 l0 x5_1).f2) ((rd_T186 l0 x5_1).f3) x1_1 t104 _ A6.out).mono ?_); rintro e w9000 ⟨rfl, hb⟩; refine ⟨_, rfl, ?_⟩; replace HB := BS (w := w) hb; (try clear hb); refine stop_ ?_))
      refine Hide.mk ?_
      replace H := H.out
      by_cases c7 : t104 < 0
      ·rw [if_pos c7] at H
       have c7b0 : decide (t104 < 0) = true := decide_eq_true c7
       clear c7
       obtain rfl := Option.some.inj H
       try go_wp2
       go_ret
       exact ⟨EWW, BL⟩
      ·rw [if_neg c7] at H
       have c7b0 : decide (t104 < 0) = false := decide_eq_false c7
       clear c7
       have H' := Aside0.mk H
       clear H
       try go_wp2
       go_roundg k1
       case measure => have := HK1.out; omega
       case rel => exact ⟨(t104), (wrap64 (x5_1 + 1)), EQ, EQ, H', ⟨by have := HK1.out; omega⟩, ⟨BL⟩⟩
     ·rw [if_neg c5] at H
      exact absurd H (by simp)
    ·rw [if_neg c4] at H
     have c4b0 : decide (x5_1 < (l0.length : Int)) = false := decide_eq_false c4
     clear c4
     obtain rfl := Option.some.inj H
     go_wp2
     go_ret
     exact ⟨EWW, BL⟩
def laws_szClue.f (k : Nat) (a0_0 : Int) (l0_1 : List (S186)) (a1 : Int) : Option (Int) := (laws_szStepS.f k l0_1 a1).bind fun t106 => (if t106 < 0 then (some (-1)) else (some t106))
set_option maxHeartbeats 8000000 in
set_option maxRecDepth 100000 in
theorem laws_szClue.calls (k : Nat) (a0_0 : Int) (A0_1 : Option Addr) (c0_1 : Nat) (l0_1 : List (S186)) (a1 : Int) (r : Int) (w : World) (hr0_1 : Kd.C k186 w A0_1 l0_1.length l0_1) (hc0_1 : l0_1.length ≤ c0_1) (h : laws_szClue.f k a0_0 l0_1 a1 = some r) :
  Calls Try.prog 130 #[.agg #[.int .i64 a0_0, .slice A0_1 l0_1.length c0_1], .int .i64 a1] w fun e w' => e = .returned (.int .i64 r) ∧ Below w.heap.size w w' := by
 have hu149 := Try.underlying149
 have HR0_1 := Aside0.mk hr0_1
 have HC0_1 := Aside0.mk hc0_1
 clear hr0_1 hc0_1
 have HB := Aside0.mk (Below.refl w.heap.size w)
 have H : ((laws_szStepS.f k l0_1 a1).bind fun t106 => (if t106 < 0 then (some (-1)) else (some t106))) = some r := h
 clear h
 obtain ⟨t106, A3, H⟩ := be H
 replace H := Aside0.mk H
 go_enter Try.func130, Try.ntmps130
 go_wp2_with (first | ((with_reducible refine gate_dst (N := 2) rfl ?_); refine box_ev (N := 2) (cs := #[.int .i64 a0_0, .slice A0_1 l0_1.length c0_1]) (t := 149) ?_; intro gb105 hg w9000 hbox hb; have n0_ := BS (w := w) hb; have n1_ := Aside0.mk (hbox); have n2_ := SZ (w := w) hg; have n3_ := SZ (w := w) hg; clear HB; have HB := n0_; have BK105 := n1_; have GW105 := n2_; have GE105 := n3_; clear n0_ n1_ n2_ n3_; clear hb hbox hg; obtain ⟨hcz9001_0, hcz9001_1, hfz9001_0, hfz9001_1⟩ := cz2 BK105.out) | ((with_reducible refine gate_callee (f := 169) rfl ?_); refine goesS (some 8) Try.func169 #[.slice A0_1 l0_1.length c0_1, .int .i64 a1] ?_; (with_reducible refine (laws_szStepS.calls k _ _ l0_1 a1 t106 _ ?side1 ?side2 A3.out).mono ?_); (case side1 => exact CB HR0_1); (case side2 => exact HC0_1.out); rintro e w9002 ⟨rfl, hb⟩; refine ⟨_, rfl, ?_⟩; replace BK105 := KB BK105 hb; replace HB := BS (w := w) hb; (try clear hb); refine stop_ ?_))
 refine Hide.mk ?_
 replace H := H.out
 by_cases c4 : t106 < 0
 ·rw [if_pos c4] at H
  have c4b0 : decide (t106 < 0) = true := decide_eq_true c4
  clear c4
  obtain rfl := Option.some.inj H
  try go_wp2
  go_ret
  exact ⟨EWW, BL⟩
 ·rw [if_neg c4] at H
  have c4b0 : decide (t106 < 0) = false := decide_eq_false c4
  clear c4
  obtain rfl := Option.some.inj H
  try go_wp2
  go_ret
  exact ⟨EWW, BL⟩
def laws_szClueS.l0 : Nat → List (S149) → Int → Int → Option (Int)
 | 0, _, _, _ => none
 | k + 1, x0, x1, x5 => if x5 < (x0.length : Int) then (if 0 ≤ x5 then ((laws_szClue.f k ((rd_T149 x0 x5).f0) ((rd_T149 x0 x5).f1) x1).bind fun t108 => (if t108 < 0 then (some (-1)) else (laws_szClueS.l0 k x0 t108 (wrap64 (x5 + 1))))) else (none)) else (some x1)
def laws_szClueS.f (k : Nat) (l0 : List (S149)) (a1 : Int) : Option (Int) := if (wrap64 (a1 - (l0.length : Int))) < 0 then (some (-1)) else (laws_szClueS.l0 k l0 (wrap64 (a1 - (l0.length : Int))) 0)
set_option maxHeartbeats 8000000 in
set_option maxRecDepth 100000 in
theorem laws_szClueS.calls (k : Nat) (A0 : Option Addr) (c0 : Nat) (l0 : List (S149)) (a1 : Int) (r : Int) (w : World) (hr0 : Kd.C k149 w A0 l0.length l0) (hc0 : l0.length ≤ c0) (h : laws_szClueS.f k l0 a1 = some r) :
  Calls Try.prog 81 #[.slice A0 l0.length c0, .int .i64 a1] w fun e w' => e = .returned (.int .i64 r) ∧ Below w.heap.size w w' := by
 have hu149 := Try.underlying149
 have HR0 := Aside0.mk hr0
 have HC0 := Aside0.mk hc0
 clear hr0 hc0
 have HB := Aside0.mk (Below.refl w.heap.size w)
 have H : (if (wrap64 (a1 - (l0.length : Int))) < 0 then (some (-1)) else (laws_szClueS.l0 k l0 (wrap64 (a1 - (l0.length : Int))) 0)) = some r := h
 clear h
 replace H := Aside0.mk H
 go_enter Try.func81, Try.ntmps81
 replace H := H.out
 by_cases c3 : (wrap64 (a1 - (l0.length : Int))) < 0
 ·rw [if_pos c3] at H
  have c3b0 : decide ((wrap64 (a1 - (l0.length : Int))) < 0) = true := decide_eq_true c3
  clear c3
  obtain rfl := Option.some.inj H
  try go_wp2
  go_ret
  exact ⟨EWW, BL⟩
 ·rw [if_neg c3] at H
  have c3b0 : decide ((wrap64 (a1 - (l0.length : Int))) < 0) = false := decide_eq_false c3
  clear c3
  have H' := Aside0.mk H
  clear H
  try go_wp2
  go_loopg [1, 5] k (fun kq v1 v5 w' => ∃ (x1_1 : Int) (x5_1 : Int), v1 = .int .i64 x1_1 ∧ v5 = .int .i64 x5_1 ∧ Aside0 (laws_szClueS.l0 kq l0 x1_1 x5_1 = some r) ∧ Aside0 (kq ≤ k) ∧ Aside0 (Below w.heap.size w w'))
  case atStart => exact ⟨(wrap64 (a1 - (l0.length : Int))), (0), EQ, EQ, H', ⟨Nat.le_refl _⟩, ⟨BL⟩⟩
  case round =>
   clear H'
   try clear c3
   try clear c3b0
   obtain ⟨x1_1, x5_1, rfl, rfl, HA, HK1, HB⟩ := hrel
   cases gk with
   | zero => exact absurd HA.out (by simp [laws_szClueS.l0])
   | succ k1 =>
    have H := HA.out
    clear HA
    simp only [laws_szClueS.l0] at H
    by_cases c4 : x5_1 < (l0.length : Int)
    ·rw [if_pos c4] at H
     have c4b0 : decide (x5_1 < (l0.length : Int)) = true := decide_eq_true c4
     clear c4
     by_cases c5 : 0 ≤ x5_1
     ·rw [if_pos c5] at H
      have c5b0 : decide (0 ≤ x5_1) = true := decide_eq_true c5
      clear c5
      obtain ⟨t108, A6, H⟩ := be H
      have p107 : 0 ≤ (x5_1 : Int) := OD
      have q107 : x5_1 < (l0.length : Int) := OD
      obtain ⟨ad107, A107_1, c107_1, e107, hx107_0, hx107_1, hl107_1, hi107_1⟩ := at_T149 HR0.out x5_1 p107 q107
      cases e107
      try replace hx107_0 := (HB.out.cell (World.block_lt_of_cell? w _ hx107_0)).trans hx107_0
      try replace hx107_1 := (HB.out.cell (World.block_lt_of_cell? w _ hx107_1)).trans hx107_1
      have HR107_1 := Aside0.mk hi107_1
      have HC107_1 := Aside0.mk hl107_1
      clear hi107_1 hl107_1
      replace p107 := eq_true p107
      replace q107 := eq_true q107
      replace H := Aside0.mk H
      go_wp2_with (first | ((with_reducible refine gate_callee (f := 130) rfl ?_); refine goesS (some 23) Try.func130 #[.agg #[.int .i64 ((rd_T149 l0 x5_1).f0), .slice A107_1 ((rd_T149 l0 x5_1).f1).length c107_1], .int .i64 x1_1] ?_; (with_reducible refine (laws_szClue.calls k1 ((rd_T149 l0 x5_1).f0) _ _ ((rd_T149 l0 x5_1).f1) x1_1 t108 _ ?side1 ?side2 A6.out).mono ?_); (case side1 => exact CB HR107_1); (case side2 => exact HC107_1.out); rintro e w9000 ⟨rfl, hb⟩; refine ⟨_, rfl, ?_⟩; replace HB := BS (w := w) hb; (try clear hb); refine stop_ ?_))
      refine Hide.mk ?_
      replace H := H.out
      by_cases c7 : t108 < 0
      ·rw [if_pos c7] at H
       have c7b0 : decide (t108 < 0) = true := decide_eq_true c7
       clear c7
       obtain rfl := Option.some.inj H
       try go_wp2
       go_ret
       exact ⟨EWW, BL⟩
      ·rw [if_neg c7] at H
       have c7b0 : decide (t108 < 0) = false := decide_eq_false c7
       clear c7
       have H' := Aside0.mk H
       clear H
       try go_wp2
       go_roundg k1
       case measure => have := HK1.out; omega
       case rel => exact ⟨(t108), (wrap64 (x5_1 + 1)), EQ, EQ, H', ⟨by have := HK1.out; omega⟩, ⟨BL⟩⟩
     ·rw [if_neg c5] at H
      exact absurd H (by simp)
    ·rw [if_neg c4] at H
     have c4b0 : decide (x5_1 < (l0.length : Int)) = false := decide_eq_false c4
     clear c4
     obtain rfl := Option.some.inj H
     go_wp2
     go_ret
     exact ⟨EWW, BL⟩
def laws_szIntS.f (l0 : List Int) (a1 : Int) : Option (Int) := if (wrap64 (a1 - (l0.length : Int))) < 0 then (some (-1)) else (some (wrap64 (a1 - (l0.length : Int))))
set_option maxHeartbeats 8000000 in
set_option maxRecDepth 100000 in
theorem laws_szIntS.calls (A0 : Option Addr) (c0 : Nat) (l0 : List Int) (a1 : Int) (r : Int) (w : World) (hr0 : Kd.C (Kd.int .i64) w A0 l0.length l0) (hc0 : l0.length ≤ c0) (h : laws_szIntS.f l0 a1 = some r) :
  Calls Try.prog 82 #[.slice A0 l0.length c0, .int .i64 a1] w fun e w' => e = .returned (.int .i64 r) ∧ Drawn0 w w' := by
 have HR0 := Aside0.mk hr0
 have HC0 := Aside0.mk hc0
 clear hr0 hc0
 have H : (if (wrap64 (a1 - (l0.length : Int))) < 0 then (some (-1)) else (some (wrap64 (a1 - (l0.length : Int))))) = some r := h
 clear h
 replace H := Aside0.mk H
 go_enter Try.func82, Try.ntmps82
 replace H := H.out
 by_cases c3 : (wrap64 (a1 - (l0.length : Int))) < 0
 ·rw [if_pos c3] at H
  have c3b0 : decide ((wrap64 (a1 - (l0.length : Int))) < 0) = true := decide_eq_true c3
  clear c3
  obtain rfl := Option.some.inj H
  try go_wp2
  go_ret
  exact ⟨by first | rfl | (simp; done) | (simp [*]; done), by repeat (first | exact Drawn0.refl _ | apply Drawn0.step)⟩
 ·rw [if_neg c3] at H
  have c3b0 : decide ((wrap64 (a1 - (l0.length : Int))) < 0) = false := decide_eq_false c3
  clear c3
  obtain rfl := Option.some.inj H
  try go_wp2
  go_ret
  exact ⟨by first | rfl | (simp; done) | (simp [*]; done), by repeat (first | exact Drawn0.refl _ | apply Drawn0.step)⟩
def laws_szPuzzle.f (k : Nat) (a0_0 : Int) (a0_1 : Int) (a0_2 : ByteArray) (l0_3 : List (S149)) (l0_4 : List Int) (a0_5 : Int) (a1 : Int) : Option (Int) := (laws_szGrid.f a0_0 a0_1 a0_2 a1).bind fun t110 => (if t110 < 0 then (some (-1)) else ((laws_szClueS.f k l0_3 t110).bind fun t111 => (if t111 < 0 then (some (-1)) else ((laws_szIntS.f l0_4 t111).bind fun t112 => (if t112 < 0 then (some (-1)) else (some t112))))))
set_option maxHeartbeats 8000000 in
set_option maxRecDepth 100000 in
theorem laws_szPuzzle.calls (k : Nat) (a0_0 : Int) (a0_1 : Int) (a0_2 : ByteArray) (A0_3 : Option Addr) (c0_3 : Nat) (l0_3 : List (S149)) (A0_4 : Option Addr) (c0_4 : Nat) (l0_4 : List Int) (a0_5 : Int) (a1 : Int) (r : Int) (w : World) (hr0_3 : Kd.C k149 w A0_3 l0_3.length l0_3) (hc0_3 : l0_3.length ≤ c0_3) (hr0_4 : Kd.C (Kd.int .i64) w A0_4 l0_4.length l0_4) (hc0_4 : l0_4.length ≤ c0_4) (h : laws_szPuzzle.f k a0_0 a0_1 a0_2 l0_3 l0_4 a0_5 a1 = some r) :
  Calls Try.prog 35 #[.agg #[.int .i64 a0_0, .int .i64 a0_1, .string a0_2, .slice A0_3 l0_3.length c0_3, .slice A0_4 l0_4.length c0_4, .int .i64 a0_5], .int .i64 a1] w fun e w' => e = .returned (.int .i64 r) ∧ Below w.heap.size w w' := by
 have hu63 := Try.underlying63
 have hu60 := Try.underlying60
 have HR0_3 := Aside0.mk hr0_3
 have HC0_3 := Aside0.mk hc0_3
 clear hr0_3 hc0_3
 have HR0_4 := Aside0.mk hr0_4
 have HC0_4 := Aside0.mk hc0_4
 clear hr0_4 hc0_4
 have HB := Aside0.mk (Below.refl w.heap.size w)
 have H : ((laws_szGrid.f a0_0 a0_1 a0_2 a1).bind fun t110 => (if t110 < 0 then (some (-1)) else ((laws_szClueS.f k l0_3 t110).bind fun t111 => (if t111 < 0 then (some (-1)) else ((laws_szIntS.f l0_4 t111).bind fun t112 => (if t112 < 0 then (some (-1)) else (some t112))))))) = some r := h
 clear h
 obtain ⟨t110, A3, H⟩ := be H
 replace H := Aside0.mk H
 go_enter Try.func35, Try.ntmps35
 go_wp2_with (first | ((with_reducible refine gate_dst (N := 2) rfl ?_); refine box_ev (N := 2) (cs := #[.int .i64 a0_0, .int .i64 a0_1, .string a0_2, .slice A0_3 l0_3.length c0_3, .slice A0_4 l0_4.length c0_4, .int .i64 a0_5]) (t := 63) ?_; intro gb109 hg w9000 hbox hb; have n0_ := BS (w := w) hb; have n1_ := Aside0.mk (hbox); have n2_ := SZ (w := w) hg; have n3_ := SZ (w := w) hg; clear HB; have HB := n0_; have BK109 := n1_; have GW109 := n2_; have GE109 := n3_; clear n0_ n1_ n2_ n3_; clear hb hbox hg; obtain ⟨hcz9001_0, hcz9001_1, hcz9001_2, hcz9001_3, hcz9001_4, hcz9001_5, hfz9001_0, hfz9001_1, hfz9001_2, hfz9001_3, hfz9001_4, hfz9001_5⟩ := cz6 BK109.out) | ((with_reducible refine gate_callee (f := 80) rfl ?_); refine goesS (some 8) Try.func80 #[.agg #[.int .i64 a0_0, .int .i64 a0_1, .string a0_2], .int .i64 a1] ?_; (with_reducible refine (laws_szGrid.calls a0_0 a0_1 a0_2 a1 t110 _ A3.out).mono ?_); rintro e w9002 ⟨rfl, hb⟩; refine ⟨_, rfl, ?_⟩; replace BK109 := KB BK109 hb; replace HB := BS (w := w) hb; (try clear hb); obtain ⟨hcz9003_0, hcz9003_1, hcz9003_2, hcz9003_3, hcz9003_4, hcz9003_5, hfz9003_0, hfz9003_1, hfz9003_2, hfz9003_3, hfz9003_4, hfz9003_5⟩ := cz6 BK109.out; refine stop_ ?_))
 refine Hide.mk ?_
 replace H := H.out
 by_cases c4 : t110 < 0
 ·rw [if_pos c4] at H
  have c4b0 : decide (t110 < 0) = true := decide_eq_true c4
  clear c4
  obtain rfl := Option.some.inj H
  try go_wp2
  go_ret
  exact ⟨EWW, BL⟩
 ·rw [if_neg c4] at H
  have c4b0 : decide (t110 < 0) = false := decide_eq_false c4
  clear c4
  obtain ⟨t111, A8, H⟩ := be H
  replace H := Aside0.mk H
  go_wp2_with (first | ((with_reducible refine gate_callee (f := 81) rfl ?_); refine goesS (some 14) Try.func81 #[.slice A0_3 l0_3.length c0_3, .int .i64 t110] ?_; (with_reducible refine (laws_szClueS.calls k _ _ l0_3 t110 t111 _ ?side1 ?side2 A8.out).mono ?_); (case side1 => exact CB HR0_3); (case side2 => exact HC0_3.out); rintro e w9004 ⟨rfl, hb⟩; refine ⟨_, rfl, ?_⟩; replace BK109 := KB BK109 hb; replace HB := BS (w := w) hb; (try clear hb); obtain ⟨hcz9005_0, hcz9005_1, hcz9005_2, hcz9005_3, hcz9005_4, hcz9005_5, hfz9005_0, hfz9005_1, hfz9005_2, hfz9005_3, hfz9005_4, hfz9005_5⟩ := cz6 BK109.out; refine stop_ ?_))
  refine Hide.mk ?_
  replace H := H.out
  by_cases c9 : t111 < 0
  ·rw [if_pos c9] at H
   have c9b0 : decide (t111 < 0) = true := decide_eq_true c9
   clear c9
   obtain rfl := Option.some.inj H
   try go_wp2
   go_ret
   exact ⟨EWW, BL⟩
  ·rw [if_neg c9] at H
   have c9b0 : decide (t111 < 0) = false := decide_eq_false c9
   clear c9
   obtain ⟨t112, A15, H⟩ := be H
   replace H := Aside0.mk H
   go_wp2_with (first | ((with_reducible refine gate_callee (f := 82) rfl ?_); refine goesS (some 20) Try.func82 #[.slice A0_4 l0_4.length c0_4, .int .i64 t111] ?_; (with_reducible refine (laws_szIntS.calls _ _ l0_4 t111 t112 _ ?side1 ?side2 A15.out).mono ?_); (case side1 => exact CB HR0_4); (case side2 => exact HC0_4.out); rintro e w' ⟨rfl, ⟨nd, rfl⟩⟩; refine ⟨_, rfl, ?_⟩; refine stop_ ?_))
   refine Hide.mk ?_
   replace H := H.out
   by_cases c16 : t112 < 0
   ·rw [if_pos c16] at H
    have c16b0 : decide (t112 < 0) = true := decide_eq_true c16
    clear c16
    obtain rfl := Option.some.inj H
    try go_wp2
    go_ret
    exact ⟨EWW, BL⟩
   ·rw [if_neg c16] at H
    have c16b0 : decide (t112 < 0) = false := decide_eq_false c16
    clear c16
    obtain rfl := Option.some.inj H
    try go_wp2
    go_ret
    exact ⟨EWW, BL⟩
def spec_l1In.f (a0 : Int) (a1 : Int) (a2 : Int) : Option (Bool) := if a0 ≥ a1 then (some (decide (a0 ≤ a2))) else (some false)
set_option maxHeartbeats 8000000 in
set_option maxRecDepth 100000 in
theorem spec_l1In.calls (a0 : Int) (a1 : Int) (a2 : Int) (r : Bool) (w : World) (h : spec_l1In.f a0 a1 a2 = some r) :
  Calls Try.prog 86 #[.int .i64 a0, .int .i64 a1, .int .i64 a2] w fun e w' => e = .returned (.bool r) ∧ Drawn0 w w' := by
 have H : (if a0 ≥ a1 then (some (decide (a0 ≤ a2))) else (some false)) = some r := h
 clear h
 replace H := Aside0.mk H
 go_enter Try.func86, Try.ntmps86
 replace H := H.out
 by_cases c4 : a0 ≥ a1
 ·rw [if_pos c4] at H
  have c4b0 : decide (a1 ≤ a0) = true := decide_eq_true c4
  clear c4
  obtain rfl := Option.some.inj H
  try go_wp2
  go_ret
  exact ⟨by first | rfl | (simp; done) | (simp [*]; done), by repeat (first | exact Drawn0.refl _ | apply Drawn0.step)⟩
 ·rw [if_neg c4] at H
  have c4b0 : decide (a1 ≤ a0) = false := decide_eq_false c4
  clear c4
  obtain rfl := Option.some.inj H
  try go_wp2
  go_ret
  exact ⟨by first | rfl | (simp; done) | (simp [*]; done), by repeat (first | exact Drawn0.refl _ | apply Drawn0.step)⟩
def spec_IsWord.l0 : Nat → ByteArray → Int → Option (Bool)
 | 0, _, _ => none
 | k + 1, x0, x3 => if x3 < (x0.size : Int) then (if 0 ≤ x3 then (if (bt x0 x3) < 97 then (some false) else (if (bt x0 x3) > 122 then (some false) else (spec_IsWord.l0 k x0 (wrap64 (x3 + 1))))) else (none)) else (some true)
def spec_IsWord.f (k : Nat) (a0 : ByteArray) : Option (Bool) := (spec_l1In.f (a0.size : Int) 1 8).bind fun t113 => (if t113 = true then (spec_IsWord.l0 k a0 0) else (some false))
set_option maxHeartbeats 8000000 in
set_option maxRecDepth 100000 in
theorem spec_IsWord.calls (k : Nat) (a0 : ByteArray) (r : Bool) (w : World) (h : spec_IsWord.f k a0 = some r) :
  Calls Try.prog 112 #[.string a0] w fun e w' => e = .returned (.bool r) ∧ Drawn0 w w' := by
 have H : ((spec_l1In.f (a0.size : Int) 1 8).bind fun t113 => (if t113 = true then (spec_IsWord.l0 k a0 0) else (some false))) = some r := h
 clear h
 obtain ⟨t113, A2, H⟩ := be H
 replace H := Aside0.mk H
 go_enter Try.func112, Try.ntmps112
 go_wp2_with (first | ((with_reducible refine gate_callee (f := 86) rfl ?_); refine goesS (some 6) Try.func86 #[.int .i64 (a0.size : Int), .int .i64 1, .int .i64 8] ?_; (with_reducible refine (spec_l1In.calls (a0.size : Int) 1 8 _ _ A2.out).mono ?_); rintro e w' ⟨rfl, ⟨nd, rfl⟩⟩; refine ⟨_, rfl, ?_⟩; refine stop_ ?_))
 refine Hide.mk ?_
 replace H := H.out
 by_cases c3 : t113 = true
 ·subst c3
  rw [if_pos rfl] at H
  have H' := Aside0.mk H
  clear H
  try go_wp2
  go_loopg [3] k (fun kq v3 w' => ∃ (x3_1 : Int), v3 = .int .i64 x3_1 ∧ Aside0 (spec_IsWord.l0 kq a0 x3_1 = some r) ∧ Aside0 (kq ≤ k) ∧ Drawn0 w w')
  case atStart => exact ⟨(0), EQ, H', ⟨Nat.le_refl _⟩, by repeat (first | exact Drawn0.refl _ | apply Drawn0.step)⟩
  case round =>
   clear H'
   try clear c3
   obtain ⟨x3_1, rfl, HA, HK1, ⟨m1, rfl⟩⟩ := hrel
   cases gk with
   | zero => exact absurd HA.out (by simp [spec_IsWord.l0])
   | succ k1 =>
    have H := HA.out
    clear HA
    simp only [spec_IsWord.l0] at H
    by_cases c4 : x3_1 < (a0.size : Int)
    ·rw [if_pos c4] at H
     have c4b0 : decide (x3_1 < (a0.size : Int)) = true := decide_eq_true c4
     clear c4
     by_cases c5 : 0 ≤ x3_1
     ·rw [if_pos c5] at H
      have c5b0 : decide (0 ≤ x3_1) = true := decide_eq_true c5
      clear c5
      have p6 : 0 ≤ (x3_1 : Int) := OD
      have q6 : x3_1 < (a0.size : Int) := OD
      have hx6 := bt_at a0 x3_1
      replace p6 := eq_true p6
      replace q6 := eq_true q6
      by_cases c7 : (bt a0 x3_1) < 97
      ·rw [if_pos c7] at H
       have c7b0 : decide ((bt a0 x3_1) < 97) = true := decide_eq_true c7
       clear c7
       obtain rfl := Option.some.inj H
       go_wp2
       go_ret
       exact ⟨by first | rfl | (simp; done) | (simp [*]; done), by repeat (first | exact Drawn0.refl _ | apply Drawn0.step)⟩
      ·rw [if_neg c7] at H
       have c7b0 : decide ((bt a0 x3_1) < 97) = false := decide_eq_false c7
       clear c7
       have p8 : 0 ≤ (x3_1 : Int) := OD
       have q8 : x3_1 < (a0.size : Int) := OD
       have hx8 := bt_at a0 x3_1
       replace p8 := eq_true p8
       replace q8 := eq_true q8
       by_cases c9 : (bt a0 x3_1) > 122
       ·rw [if_pos c9] at H
        have c9b0 : decide (122 < (bt a0 x3_1)) = true := decide_eq_true c9
        clear c9
        obtain rfl := Option.some.inj H
        go_wp2
        go_ret
        exact ⟨by first | rfl | (simp; done) | (simp [*]; done), by repeat (first | exact Drawn0.refl _ | apply Drawn0.step)⟩
       ·rw [if_neg c9] at H
        have c9b0 : decide (122 < (bt a0 x3_1)) = false := decide_eq_false c9
        clear c9
        have H' := Aside0.mk H
        clear H
        go_wp2
        go_roundg k1
        case measure => have := HK1.out; omega
        case rel => exact ⟨(wrap64 (x3_1 + 1)), EQ, H', ⟨by have := HK1.out; omega⟩, by repeat (first | exact Drawn0.refl _ | apply Drawn0.step)⟩
     ·rw [if_neg c5] at H
      exact absurd H (by simp)
    ·rw [if_neg c4] at H
     have c4b0 : decide (x3_1 < (a0.size : Int)) = false := decide_eq_false c4
     clear c4
     obtain rfl := Option.some.inj H
     go_wp2
     go_ret
     exact ⟨by first | rfl | (simp; done) | (simp [*]; done), by repeat (first | exact Drawn0.refl _ | apply Drawn0.step)⟩
 ·replace c3 := Bool.eq_false_iff.mpr c3
  subst c3
  rw [if_neg Bool.false_ne_true] at H
  obtain rfl := Option.some.inj H
  try go_wp2
  go_ret
  exact ⟨by first | rfl | (simp; done) | (simp [*]; done), by repeat (first | exact Drawn0.refl _ | apply Drawn0.step)⟩
end Go.Proofs.Ythjcicmmbmagbaa.PFnExactIsPuzzle
