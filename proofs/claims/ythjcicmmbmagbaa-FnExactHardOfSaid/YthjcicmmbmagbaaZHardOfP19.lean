/- Walks of functions: what each computes. -/
import Derived.Test.YthjcicmmbmagbaaZHardOfP0
import Derived.Test.YthjcicmmbmagbaaZHardOfP13
import Derived.Test.YthjcicmmbmagbaaZHardOfP15
import Derived.Test.YthjcicmmbmagbaaZHardOfP17
import Derived.Test.YthjcicmmbmagbaaZHardOfP18
import Derived.Test.YthjcicmmbmagbaaZHardOfW
import Derived.Test.YthjcicmmbmagbaaZHardOfShelf
import Derived.Test.YthjcicmmbmagbaaZHardOfHandSort
import Derived.Test.YthjcicmmbmagbaaZHardOfHandForm
import Derived.Test.YthjcicmmbmagbaaZHardOfHandAlone
import Derived.Test.YthjcicmmbmagbaaZHardOfHandReach
namespace Go.Proofs.Ythjcicmmbmagbaa.PFnExactHardOf
open Go.RowKit Go.Proofs.YthjcicmmbmagbaaW.PrintWords Go.Proofs.YthjcicmmbmagbaaW.PrintLast Go.Proofs.YthjcicmmbmagbaaW.PrintMore Go.Proofs.Ythjcicmmbmagbaa.Sq
attribute [local go_sem] max2_int min2_int max_two min_two max_three min_three max_four min_four
set_option linter.unusedVariables false
set_option linter.unusedSimpArgs false
def impl_IsPuzzle.f (k : Nat) (a0_0 : Int) (a0_1 : Int) (a0_2 : ByteArray) (l0_3 : List (S116)) (l0_4 : List Int) (a0_5 : Int) : Option (Bool) := (impl_FormOf.f k a0_0 a0_1 a0_2).bind fun t491 => (if t491 = 0 then ((impl_SlotsOf.f k a0_0 a0_1 a0_2).bind fun t492 => (if (l0_3.length : Int) = (t492.length : Int) then (if (l0_4.length : Int) = (t492.length : Int) then ((impl_InRange.f a0_5 1 9999).bind fun t495 => (if t495 = true then ((impl_Clue_92.f k l0_3 (⟨#[70, 73, 88]⟩ : ByteArray)).bind fun t496 => (some (!t496))) else (some false))) else (some false)) else (some false))) else (some false))
set_option maxHeartbeats 8000000 in
set_option maxRecDepth 100000 in
theorem impl_IsPuzzle.calls (k : Nat) (a0_0 : Int) (a0_1 : Int) (a0_2 : ByteArray) (A0_3 : Option Addr) (c0_3 : Nat) (l0_3 : List (S116)) (A0_4 : Option Addr) (c0_4 : Nat) (l0_4 : List Int) (a0_5 : Int) (r : Bool) (w : World) (hr0_3 : Kd.C k116 w A0_3 l0_3.length l0_3) (hc0_3 : l0_3.length ≤ c0_3) (hr0_4 : Kd.C (Kd.int .i64) w A0_4 l0_4.length l0_4) (hc0_4 : l0_4.length ≤ c0_4) (h : impl_IsPuzzle.f k a0_0 a0_1 a0_2 l0_3 l0_4 a0_5 = some r) :
  Calls Try.prog 38 #[.agg #[.int .i64 a0_0, .int .i64 a0_1, .string a0_2, .slice A0_3 l0_3.length c0_3, .slice A0_4 l0_4.length c0_4, .int .i64 a0_5]] w fun e w' => e = .returned (.bool r) ∧ Below w.heap.size w w' := by
 have hu69 := Try.underlying69
 have hu66 := Try.underlying66
 have HR0_3 := Aside0.mk hr0_3
 have HC0_3 := Aside0.mk hc0_3
 clear hr0_3 hc0_3
 have HR0_4 := Aside0.mk hr0_4
 have HC0_4 := Aside0.mk hc0_4
 clear hr0_4 hc0_4
 have HB := Aside0.mk (Below.refl w.heap.size w)
 have H : ((impl_FormOf.f k a0_0 a0_1 a0_2).bind fun t491 => (if t491 = 0 then ((impl_SlotsOf.f k a0_0 a0_1 a0_2).bind fun t492 => (if (l0_3.length : Int) = (t492.length : Int) then (if (l0_4.length : Int) = (t492.length : Int) then ((impl_InRange.f a0_5 1 9999).bind fun t495 => (if t495 = true then ((impl_Clue_92.f k l0_3 (⟨#[70, 73, 88]⟩ : ByteArray)).bind fun t496 => (some (!t496))) else (some false))) else (some false)) else (some false))) else (some false))) = some r := h
 clear h
 obtain ⟨t491, A2, H⟩ := be H
 replace H := Aside0.mk H
 go_enter Try.func38, Try.ntmps38
 go_wp2_with (first | ((with_reducible refine gate_dst (N := 1) rfl ?_); (try (refine gate_guard (by rfl) ?_; dsimp only)); refine box_ev (N := 1) (cs := #[.int .i64 a0_0, .int .i64 a0_1, .string a0_2, .slice A0_3 l0_3.length c0_3, .slice A0_4 l0_4.length c0_4, .int .i64 a0_5]) (t := 69) ?_; intro gb490 hg w9000 hbox hb; have n0_ := BS (w := w) hb; have n1_ := Aside0.mk (hbox); have n2_ := SZ (w := w) hg; have n3_ := SZ (w := w) hg; clear HB; have HB := n0_; have BK490 := n1_; have GW490 := n2_; have GE490 := n3_; clear n0_ n1_ n2_ n3_; clear hb hbox hg; obtain ⟨hcz9001_0, hcz9001_1, hcz9001_2, hcz9001_3, hcz9001_4, hcz9001_5, hfz9001_0, hfz9001_1, hfz9001_2, hfz9001_3, hfz9001_4, hfz9001_5⟩ := cz6 BK490.out) | ((with_reducible refine gate_callee (f := 90) rfl ?_); refine goesS (some 6) Try.func90 #[.agg #[.int .i64 a0_0, .int .i64 a0_1, .string a0_2]] ?_; (with_reducible refine (impl_FormOf.calls k a0_0 a0_1 a0_2 t491 _ A2.out).mono ?_); rintro e w9002 ⟨rfl, hb⟩; refine ⟨_, rfl, ?_⟩; replace BK490 := KB BK490 hb; replace HB := BS (w := w) hb; (try clear hb); obtain ⟨hcz9003_0, hcz9003_1, hcz9003_2, hcz9003_3, hcz9003_4, hcz9003_5, hfz9003_0, hfz9003_1, hfz9003_2, hfz9003_3, hfz9003_4, hfz9003_5⟩ := cz6 BK490.out; refine stop_ ?_))
 refine Hide.mk ?_
 replace H := H.out
 by_cases c3 : t491 = 0
 ·rw [if_pos c3] at H
  have c3b0 : (t491 == 0) = true := beq_iff_eq.mpr c3
  have c3b1 : (t491 != 0) = false := bne_eq_false_iff_eq.mpr c3
  clear c3
  obtain ⟨t492, A4, H⟩ := be H
  replace H := Aside0.mk H
  go_wp2_with (first | ((with_reducible refine gate_callee (f := 91) rfl ?_); refine goesS (some 10) Try.func91 #[.agg #[.int .i64 a0_0, .int .i64 a0_1, .string a0_2]] ?_; (with_reducible refine (impl_SlotsOf.calls k a0_0 a0_1 a0_2 t492 _ A4.out).mono ?_); rintro e w9004 ⟨v493, rfl, ho0, hb⟩; refine ⟨_, rfl, ?_⟩; have n0_ := Aside0.mk (Kd.R_lower ho0 (below_size BL)); replace BK490 := KB BK490 hb; replace HB := BS (w := w) hb; have HO494 := n0_; clear n0_; (try clear hb); (try clear ho0); obtain ⟨Ao9005, co9005, eo9005⟩ := Kd.R_slice HO494.out; subst eo9005; obtain ⟨hcz9006_0, hcz9006_1, hcz9006_2, hcz9006_3, hcz9006_4, hcz9006_5, hfz9006_0, hfz9006_1, hfz9006_2, hfz9006_3, hfz9006_4, hfz9006_5⟩ := cz6 BK490.out; refine stop_ ?_))
  refine Hide.mk ?_
  replace H := H.out
  by_cases c5 : (l0_3.length : Int) = (t492.length : Int)
  ·rw [if_pos c5] at H
   have c5b0 : ((l0_3.length : Int) == (t492.length : Int)) = true := beq_iff_eq.mpr c5
   have c5b1 : ((l0_3.length : Int) != (t492.length : Int)) = false := bne_eq_false_iff_eq.mpr c5
   have c5b2 : (l0_3.length == t492.length) = true := by first | simpa using c5 | (simp at c5 ⊢; omega)
   clear c5
   by_cases c6 : (l0_4.length : Int) = (t492.length : Int)
   ·rw [if_pos c6] at H
    have c6b0 : ((l0_4.length : Int) == (t492.length : Int)) = true := beq_iff_eq.mpr c6
    have c6b1 : ((l0_4.length : Int) != (t492.length : Int)) = false := bne_eq_false_iff_eq.mpr c6
    have c6b2 : (l0_4.length == t492.length) = true := by first | simpa using c6 | (simp at c6 ⊢; omega)
    clear c6
    obtain ⟨t495, A7, H⟩ := be H
    replace H := Aside0.mk H
    go_wp2_with (first | (go_at_call 65; (with_reducible refine (impl_InRange.calls a0_5 1 9999 _ _ A7.out).mono ?_); rintro e w' ⟨rfl, ⟨nd, rfl⟩⟩; refine stop_ ?_))
    refine Hide.mk ?_
    replace H := H.out
    by_cases c8 : t495 = true
    ·subst c8
     rw [if_pos rfl] at H
     obtain ⟨t496, A9, H⟩ := be H
     obtain rfl := Option.some.inj H
     try go_wp2_with (first | (go_at_call 92; (with_reducible refine (impl_Clue_92.calls k _ _ l0_3 (⟨#[70, 73, 88]⟩ : ByteArray) t496 _ ?side1 ?side2 A9.out).mono ?_); (case side1 => repeat (first | exact (Kd.C_below HR0_3.out BL) | (with_reducible refine Kd.C_alloc ?_ _) | (with_reducible refine Kd.C_drewN ?_ _) | (with_reducible refine Kd.C_drew ?_))); (case side2 => exact HC0_3.out); rintro e w9007 ⟨rfl, hb⟩; replace HO494 := RB HO494 hb; replace BK490 := KB BK490 hb; replace HB := BS (w := w) hb; (try clear hb)))
     go_ret
     exact ⟨EWW, BL⟩
    ·replace c8 := Bool.eq_false_iff.mpr c8
     subst c8
     rw [if_neg Bool.false_ne_true] at H
     obtain rfl := Option.some.inj H
     try go_wp2
     go_ret
     exact ⟨EWW, BL⟩
   ·rw [if_neg c6] at H
    have c6b0 : ((l0_4.length : Int) == (t492.length : Int)) = false := beq_eq_false_iff_ne.mpr c6
    have c6b1 : ((l0_4.length : Int) != (t492.length : Int)) = true := bne_iff_ne.mpr c6
    have c6b2 : (l0_4.length == t492.length) = false := by first | simpa using c6 | (simp at c6 ⊢; omega)
    obtain rfl := Option.some.inj H
    try go_wp2
    go_ret
    exact ⟨EWW, BL⟩
  ·rw [if_neg c5] at H
   have c5b0 : ((l0_3.length : Int) == (t492.length : Int)) = false := beq_eq_false_iff_ne.mpr c5
   have c5b1 : ((l0_3.length : Int) != (t492.length : Int)) = true := bne_iff_ne.mpr c5
   have c5b2 : (l0_3.length == t492.length) = false := by first | simpa using c5 | (simp at c5 ⊢; omega)
   obtain rfl := Option.some.inj H
   try go_wp2
   go_ret
   exact ⟨EWW, BL⟩
 ·rw [if_neg c3] at H
  have c3b0 : (t491 == 0) = false := beq_eq_false_iff_ne.mpr c3
  have c3b1 : (t491 != 0) = true := bne_iff_ne.mpr c3
  obtain rfl := Option.some.inj H
  try go_wp2
  go_ret
  exact ⟨EWW, BL⟩
def impl_depth.f : Nat → List (S110) → Int → Option (Int)
 | 0, _, _ => none
 | k + 1, l0, a1 => if 0 ≤ a1 then (if a1 < (l0.length : Int) then (if ((rd_T110 l0 a1).f0) = 1 then (some 0) else ((impl_isPair.f ((rd_T110 l0 a1).f0)).bind fun t499 => (if t499 = true then ((impl_depth.f k l0 ((rd_T110 l0 a1).f2)).bind fun t500 => ((impl_depth.f k l0 ((rd_T110 l0 a1).f3)).bind fun t501 => (some (wrap64 (1 + (mx t500 t501)))))) else ((impl_depth.f k l0 ((rd_T110 l0 a1).f2)).bind fun t502 => (some (wrap64 (1 + t502))))))) else (none)) else (none)
def impl_depth.T5 : Bool × List (List Nat × List Nat) := (true, [([], []), ([], []), ([1], [1]), ([0, 2], [0, 2]), ([], []), ([], []), ([5], [5]), ([4, 6, 3], [4, 6]), ([3, 7], [3, 7]), ([8], [8]), ([9, 7, 0, 1, 2, 3, 4, 5, 6, 7, 8, 9], [9])])
def impl_depth.B5 : List Nat := [0, 0, 2, 7, 0, 0, 32, 127, 255, 511, 1023]
theorem impl_depth.tab5 : rtab .any (opsOf Try.f106 5) = impl_depth.T5 := by kernel_rfl
theorem impl_depth.bits5 : waitsOk impl_depth.T5.2 impl_depth.B5 = true := by kernel_rfl
set_option maxHeartbeats 8000000 in
set_option maxRecDepth 100000 in
theorem impl_depth.calls (k : Nat) : ∀ (A0 : Option Addr) (c0 : Nat) (l0 : List (S110)) (a1 : Int) (r : Int) (w : World) (hr0 : Kd.C k110 w A0 l0.length l0) (hc0 : l0.length ≤ c0) (h : impl_depth.f k l0 a1 = some r),
  Calls Try.prog 106 #[.slice A0 l0.length c0, .int .i64 a1] w fun e w' => e = .returned (.int .i64 r) ∧ Below w.heap.size w w' := by
 induction k using Nat.strongRecOn with
 | _ k ih =>
 intro A0 c0 l0 a1 r w hr0 hc0 h
 cases k with
 | zero => exact absurd h (by simp [impl_depth.f])
 | succ k =>
 simp only [impl_depth.f] at h
 have hu110 := Try.underlying110
 have HR0 := Aside0.mk hr0
 have HC0 := Aside0.mk hc0
 clear hr0 hc0
 have HB := Aside0.mk (Below.refl w.heap.size w)
 have H : (if 0 ≤ a1 then (if a1 < (l0.length : Int) then (if ((rd_T110 l0 a1).f0) = 1 then (some 0) else ((impl_isPair.f ((rd_T110 l0 a1).f0)).bind fun t499 => (if t499 = true then ((impl_depth.f k l0 ((rd_T110 l0 a1).f2)).bind fun t500 => ((impl_depth.f k l0 ((rd_T110 l0 a1).f3)).bind fun t501 => (some (wrap64 (1 + (mx t500 t501)))))) else ((impl_depth.f k l0 ((rd_T110 l0 a1).f2)).bind fun t502 => (some (wrap64 (1 + t502))))))) else (none)) else (none)) = some r := h
 clear h
 by_cases c3 : 0 ≤ a1
 ·rw [if_pos c3] at H
  have c3b0 : decide (0 ≤ a1) = true := decide_eq_true c3
  clear c3
  by_cases c4 : a1 < (l0.length : Int)
  ·rw [if_pos c4] at H
   have c4b0 : decide (a1 < (l0.length : Int)) = true := decide_eq_true c4
   clear c4
   have p497 : 0 ≤ (a1 : Int) := OD
   have q497 : a1 < (l0.length : Int) := OD
   obtain ⟨ad497, e497, hx497_0, hx497_1, hx497_2, hx497_3⟩ := at_T110 HR0.out a1 p497 q497
   cases e497
   replace p497 := eq_true p497
   replace q497 := eq_true q497
   replace H := Aside0.mk H
   go_enter Try.func106, Try.ntmps106
   go_wp2_with (first | ((with_reducible refine gate_dst (N := 5) rfl ?_); refine box_ev (N := 5) (cs := #[.int .i64 0, .string (⟨#[]⟩ : ByteArray), .int .i64 0, .int .i64 0]) (t := 110) ?_; intro gb498 hg w9000 hbox hb; have n0_ := BS (w := w) hb; have n1_ := Aside0.mk (hbox); have n2_ := SZ (w := w) hg; have n3_ := SZ (w := w) hg; clear HB; have HB := n0_; have BK498 := n1_; have GW498 := n2_; have GE498 := n3_; clear n0_ n1_ n2_ n3_; clear hb hbox hg; obtain ⟨hcz9001_0, hcz9001_1, hcz9001_2, hcz9001_3, hfz9001_0, hfz9001_1, hfz9001_2, hfz9001_3⟩ := cz4 BK498.out; refine stop_ ?_))
   refine Hide.mk ?_
   replace H := H.out
   by_cases c5 : ((rd_T110 l0 a1).f0) = 1
   ·rw [if_pos c5] at H
    have c5b0 : (((rd_T110 l0 a1).f0) == 1) = true := beq_iff_eq.mpr c5
    have c5b1 : (((rd_T110 l0 a1).f0) != 1) = false := bne_eq_false_iff_eq.mpr c5
    clear c5
    obtain rfl := Option.some.inj H
    try go_wp2
    go_ret
    exact ⟨EWW, BL⟩
   ·rw [if_neg c5] at H
    have c5b0 : (((rd_T110 l0 a1).f0) == 1) = false := beq_eq_false_iff_ne.mpr c5
    have c5b1 : (((rd_T110 l0 a1).f0) != 1) = true := bne_iff_ne.mpr c5
    obtain ⟨t499, A8, H⟩ := be H
    replace H := Aside0.mk H
    go_wp2_with (first | ((with_reducible refine gate_callee (f := 107) rfl ?_); refine goesS (some 17) Try.func107 #[.int .i64 ((rd_T110 l0 a1).f0)] ?_; (with_reducible refine (impl_isPair.calls ((rd_T110 l0 a1).f0) _ _ A8.out).mono ?_); rintro e w' ⟨rfl, ⟨nd, rfl⟩⟩; refine ⟨_, rfl, ?_⟩; refine stop_ ?_))
    refine Hide.mk ?_
    replace H := H.out
    by_cases c9 : t499 = true
    ·subst c9
     rw [if_pos rfl] at H
     obtain ⟨t500, A10, H⟩ := be H
     obtain ⟨t501, A11, H⟩ := be H
     obtain ⟨ji12, hji12⟩ : ∃ j_ : Int, (mx t500 t501) = j_ := ⟨_, rfl⟩
     replace H : (some (wrap64 (1 + (ji12)))) = some r := by first | (rw [hji12] at H; exact H) | (simp only [hji12] at H ⊢; exact H)
     (try rw [hji12] at A8)
     (try rw [hji12] at A10)
     (try rw [hji12] at A11)
     have hji12_ : (if t500 < t501 then t501 else t500) = ji12 := hji12
     obtain rfl := Option.some.inj H
     try go_wp2
     have n0_ : Aside0 (((((w9000.setCell ⟨gb498, 0, none⟩ (.int .i64 ((rd_T110 l0 a1).f0))).setCell ⟨gb498, 1, none⟩ (.string ((rd_T110 l0 a1).f1))).setCell ⟨gb498, 2, none⟩ (.int .i64 ((rd_T110 l0 a1).f2))).setCell ⟨gb498, 3, none⟩ (.int .i64 ((rd_T110 l0 a1).f3))).heap[gb498]? = some (.cells #[.int .i64 ((rd_T110 l0 a1).f0), .string ((rd_T110 l0 a1).f1), .int .i64 ((rd_T110 l0 a1).f2), .int .i64 ((rd_T110 l0 a1).f3)] 110 (0, 0))) := ⟨by (with_reducible repeat (first | refine blk_drewN ?_ _ | refine blk_drew ?_ | refine blk_alloc ?_ _)); refine blk_put (cs := #[.int .i64 ((rd_T110 l0 a1).f0), .string ((rd_T110 l0 a1).f1), .int .i64 ((rd_T110 l0 a1).f2), .int .i64 0]) ?_ 3 _ rfl; (with_reducible repeat (first | refine blk_drewN ?_ _ | refine blk_drew ?_ | refine blk_alloc ?_ _)); refine blk_put (cs := #[.int .i64 ((rd_T110 l0 a1).f0), .string ((rd_T110 l0 a1).f1), .int .i64 0, .int .i64 0]) ?_ 2 _ rfl; (with_reducible repeat (first | refine blk_drewN ?_ _ | refine blk_drew ?_ | refine blk_alloc ?_ _)); refine blk_put (cs := #[.int .i64 ((rd_T110 l0 a1).f0), .string (⟨#[]⟩ : ByteArray), .int .i64 0, .int .i64 0]) ?_ 1 _ rfl; (with_reducible repeat (first | refine blk_drewN ?_ _ | refine blk_drew ?_ | refine blk_alloc ?_ _)); refine blk_put (cs := #[.int .i64 0, .string (⟨#[]⟩ : ByteArray), .int .i64 0, .int .i64 0]) ?_ 0 _ rfl; (with_reducible repeat (first | refine blk_drewN ?_ _ | refine blk_drew ?_ | refine blk_alloc ?_ _)); exact BK498.out⟩
     have n1_ : Aside0 (Below w.heap.size w ((((w9000.setCell ⟨gb498, 0, none⟩ (.int .i64 ((rd_T110 l0 a1).f0))).setCell ⟨gb498, 1, none⟩ (.string ((rd_T110 l0 a1).f1))).setCell ⟨gb498, 2, none⟩ (.int .i64 ((rd_T110 l0 a1).f2))).setCell ⟨gb498, 3, none⟩ (.int .i64 ((rd_T110 l0 a1).f3)))) := ⟨BL⟩
     (try clear BK498)
     (try clear HB)
     generalize ((((w9000.setCell ⟨gb498, 0, none⟩ (.int .i64 ((rd_T110 l0 a1).f0))).setCell ⟨gb498, 1, none⟩ (.string ((rd_T110 l0 a1).f1))).setCell ⟨gb498, 2, none⟩ (.int .i64 ((rd_T110 l0 a1).f2))).setCell ⟨gb498, 3, none⟩ (.int .i64 ((rd_T110 l0 a1).f3))) = w9002 at n0_ n1_ ⊢
     have BK498 := n0_
     have HB := n1_
     clear n0_ n1_
     (try (rw [drewN_self w9002]; generalize hq_ : World.drewN w9002 _ = w9002; have n0_ : Aside0 (w9002.heap[gb498]? = some (.cells #[.int .i64 ((rd_T110 l0 a1).f0), .string ((rd_T110 l0 a1).f1), .int .i64 ((rd_T110 l0 a1).f2), .int .i64 ((rd_T110 l0 a1).f3)] 110 (0, 0))) := ⟨by rw [← hq_]; exact BK⟩; have n1_ : Aside0 (Below w.heap.size w w9002) := ⟨by rw [← hq_]; exact BL⟩; clear BK498 HB hq_; have BK498 := n0_; have HB := n1_; clear n0_ n1_))
     have n0_ := Aside0.mk (blk_drew BK498.out)
     have n1_ := Aside0.mk (below_drew1 HB.out)
     clear BK498
     clear HB
     have BK498 := n0_
     have HB := n1_
     clear n0_ n1_
     refine start_ (n := 11) (S := fun w' => w'.cell? ⟨gb498, 0, none⟩ = some (.int .i64 ((rd_T110 l0 a1).f0)) ∧ w'.cell? ⟨gb498, 1, none⟩ = some (.string ((rd_T110 l0 a1).f1)) ∧ w'.cell? ⟨gb498, 2, none⟩ = some (.int .i64 ((rd_T110 l0 a1).f2)) ∧ w'.cell? ⟨gb498, 3, none⟩ = some (.int .i64 ((rd_T110 l0 a1).f3))) (ds := []) #[false, false, false, false, false, false, false, false, false, false, false] (by kernel_rfl) rfl rfl ⟨(blk_cell BK498.out 0).trans rfl, (blk_cell BK498.out 1).trans rfl, (blk_cell BK498.out 2).trans rfl, (blk_cell BK498.out 3).trans rfl⟩ (fun hHeld => ?_); refine with_tabW impl_depth.tab5 impl_depth.bits5 (fun HT_ HW_ => ?_)
     generalize w9002.drew = w9003 at BK498 HB hHeld ⊢
     refine puS (i := 0) (N := some 18) #[true, false, false, false, false, false, false, false, false, false, false] (any_of HT_.out (by kernel_rfl)) ?_
     refine puS (i := 1) (N := some 19) #[true, true, false, false, false, false, false, false, false, false, false] (any_of HT_.out (by kernel_rfl)) ?_
     refine puS (i := 4) (N := some 22) #[true, true, false, false, true, false, false, false, false, false, false] (any_of HT_.out (by kernel_rfl)) ?_
     refine puS (i := 5) (N := some 23) #[true, true, false, false, true, true, false, false, false, false, false] (any_of HT_.out (by kernel_rfl)) ?_
     refine take_ (i := 2) (N := some 20) (v := ?_) (a' := ?_) #[true, true, true, false, true, true, false, false, false, false, false] rfl rfl (take_ofW HT_.out HW_.out (by kernel_rfl)) (fun _ _ _ h => h) (Or.inl ⟨by rfl, ?_⟩) hHeld ?_ ?_
     rotate_left
     ·rintro w' ⟨s0, s1, s2, s3⟩
      go_simp
      with_reducible rfl
     rotate_left
     ·simp only [Act.put, PT, i64_w, i32_w]
      rfl
     refine take_ (i := 6) (N := some 24) (v := ?_) (a' := ?_) #[true, true, true, false, true, true, true, false, false, false, false] rfl rfl (take_ofW HT_.out HW_.out (by kernel_rfl)) (fun _ _ _ h => h) (Or.inl ⟨by rfl, ?_⟩) hHeld ?_ ?_
     rotate_left
     ·rintro w' ⟨s0, s1, s2, s3⟩
      go_simp
      with_reducible rfl
     rotate_left
     ·simp only [Act.put, PT, i64_w, i32_w]
      rfl
     refine one_ (i := 3) (N := some 21) #[true, true, true, true, true, true, true, false, false, false, false] rfl rfl (one_of HT_.out (by kernel_rfl)) (by decide) (fun K hK => ?_)
     refine goes_ Try.func106 (by kernel_rfl) rfl #[.slice (some ad497) l0.length c0, .int .i64 ((rd_T110 l0 a1).f2)] (by rfl) rfl rfl (by (try simp only [List.map_toArray, List.map_cons, List.map_nil]); first | done | rfl | (simp only [List.length_drop, List.length_take]; rfl)) ?_
     with_reducible refine (ih k (by omega) _ _ l0 ((rd_T110 l0 a1).f2) t500 _ ?side1 ?side2 A10.out).mono ?_
     (case side1 => exact CB HR0)
     (case side2 => exact HC0.out)
     rintro e w9004 ⟨rfl, hb⟩
     refine ⟨_, rfl, ?_⟩
     have n0_ := KB BK498 hb
     have n1_ := BS (w := w) hb
     clear BK498
     clear HB
     have BK498 := n0_
     have HB := n1_
     clear n0_ n1_
     (try clear hb)
     (try clear hb2)
     (try clear hk)
     (try clear hi)
     refine hK.out _ _ ⟨(blk_cell BK498.out 0).trans rfl, (blk_cell BK498.out 1).trans rfl, (blk_cell BK498.out 2).trans rfl, (blk_cell BK498.out 3).trans rfl⟩ (fun hHeld => ?_)
     clear hK K
     refine norm_ (a' := ?_) ?_ ?_
     rotate_left
     ·show Act.put _ (some 21) _ = _
      simp only [Act.put, PT, i64_w, i32_w]
      rfl
     refine one_ (i := 7) (N := some 25) #[true, true, true, true, true, true, true, true, false, false, false] rfl rfl (one_of HT_.out (by kernel_rfl)) (by decide) (fun K hK => ?_)
     refine goes_ Try.func106 (by kernel_rfl) rfl #[.slice (some ad497) l0.length c0, .int .i64 ((rd_T110 l0 a1).f3)] (by rfl) rfl rfl (by (try simp only [List.map_toArray, List.map_cons, List.map_nil]); first | done | rfl | (simp only [List.length_drop, List.length_take]; rfl)) ?_
     with_reducible refine (ih k (by omega) _ _ l0 ((rd_T110 l0 a1).f3) t501 _ ?side1 ?side2 A11.out).mono ?_
     (case side1 => exact CB HR0)
     (case side2 => exact HC0.out)
     rintro e w9005 ⟨rfl, hb⟩
     refine ⟨_, rfl, ?_⟩
     have n0_ := KB BK498 hb
     have n1_ := BS (w := w) hb
     clear BK498
     clear HB
     have BK498 := n0_
     have HB := n1_
     clear n0_ n1_
     (try clear hb)
     (try clear hb2)
     (try clear hk)
     (try clear hi)
     refine hK.out _ _ ⟨(blk_cell BK498.out 0).trans rfl, (blk_cell BK498.out 1).trans rfl, (blk_cell BK498.out 2).trans rfl, (blk_cell BK498.out 3).trans rfl⟩ (fun hHeld => ?_)
     clear hK K
     refine norm_ (a' := ?_) ?_ ?_
     rotate_left
     ·show Act.put _ (some 25) _ = _
      simp only [Act.put, PT, i64_w, i32_w]
      rfl
     refine puS (i := 8) (N := some 26) #[true, true, true, true, true, true, true, true, true, false, false] (any_of HT_.out (by kernel_rfl)) ?_
     refine puS (i := 9) (N := some 27) #[true, true, true, true, true, true, true, true, true, true, false] (any_of HT_.out (by kernel_rfl)) ?_
     refine puS (i := 10) (N := some 4) #[true, true, true, true, true, true, true, true, true, true, true] (any_of HT_.out (by kernel_rfl)) ?_
     refine done_ (done_of HT_.out (by kernel_rfl)) ?_
     try go_wp2
     go_ret
     exact ⟨by first | rfl | (simp [errW_none, errW_some] <;> rfl) | (simp only [← hji12]; first | rfl | (simp [errW_none, errW_some] <;> rfl)) | (simp [*, errW_none, errW_some] <;> rfl), BL⟩
    ·replace c9 := Bool.eq_false_iff.mpr c9
     subst c9
     rw [if_neg Bool.false_ne_true] at H
     obtain ⟨t502, A19, H⟩ := be H
     obtain rfl := Option.some.inj H
     try go_wp2_with (first | ((with_reducible refine gate_callee (f := 106) rfl ?_); refine goesS (some 31) Try.func106 #[.slice (some ad497) l0.length c0, .int .i64 ((rd_T110 l0 a1).f2)] ?_; (with_reducible refine (ih k (by omega) _ _ l0 ((rd_T110 l0 a1).f2) t502 _ ?side1 ?side2 A19.out).mono ?_); (case side1 => exact Kd.C_below HR0.out BL); (case side2 => exact HC0.out); rintro e w9002 ⟨rfl, hb⟩; refine ⟨_, rfl, ?_⟩; have n0_ := Aside0.mk (blk_below (g := gb498) (o := .cells #[.int .i64 ((rd_T110 l0 a1).f0), .string ((rd_T110 l0 a1).f1), .int .i64 ((rd_T110 l0 a1).f2), .int .i64 ((rd_T110 l0 a1).f3)] 110 (0, 0)) (by (with_reducible repeat (first | refine blk_drewN ?_ _ | refine blk_drew ?_ | refine blk_alloc ?_ _)); refine blk_put (cs := #[.int .i64 ((rd_T110 l0 a1).f0), .string ((rd_T110 l0 a1).f1), .int .i64 ((rd_T110 l0 a1).f2), .int .i64 0]) ?_ 3 _ rfl; (with_reducible repeat (first | refine blk_drewN ?_ _ | refine blk_drew ?_ | refine blk_alloc ?_ _)); refine blk_put (cs := #[.int .i64 ((rd_T110 l0 a1).f0), .string ((rd_T110 l0 a1).f1), .int .i64 0, .int .i64 0]) ?_ 2 _ rfl; (with_reducible repeat (first | refine blk_drewN ?_ _ | refine blk_drew ?_ | refine blk_alloc ?_ _)); refine blk_put (cs := #[.int .i64 ((rd_T110 l0 a1).f0), .string (⟨#[]⟩ : ByteArray), .int .i64 0, .int .i64 0]) ?_ 1 _ rfl; (with_reducible repeat (first | refine blk_drewN ?_ _ | refine blk_drew ?_ | refine blk_alloc ?_ _)); refine blk_put (cs := #[.int .i64 0, .string (⟨#[]⟩ : ByteArray), .int .i64 0, .int .i64 0]) ?_ 0 _ rfl; (with_reducible repeat (first | refine blk_drewN ?_ _ | refine blk_drew ?_ | refine blk_alloc ?_ _)); exact BK498.out) hb); replace HB := BS (w := w) hb; clear BK498; have BK498 := n0_; clear n0_; (try clear hb)))
     go_ret
     exact ⟨EWW, BL⟩
  ·rw [if_neg c4] at H
   exact absurd H (by simp)
 ·rw [if_neg c3] at H
  exact absurd H (by simp)
def impl_DepthOf.f (k : Nat) (l0 : List (S110)) : Option (Int) := (impl_IsPlay.f k l0).bind fun t503 => (if t503 = true then ((impl_depth.f k l0 (wrap64 ((l0.length : Int) - 1))).bind fun t504 => (some t504)) else (some (-1)))
set_option maxHeartbeats 8000000 in
set_option maxRecDepth 100000 in
theorem impl_DepthOf.calls (k : Nat) (A0 : Option Addr) (c0 : Nat) (l0 : List (S110)) (r : Int) (w : World) (hr0 : Kd.C k110 w A0 l0.length l0) (hc0 : l0.length ≤ c0) (h : impl_DepthOf.f k l0 = some r) :
  Calls Try.prog 47 #[.slice A0 l0.length c0] w fun e w' => e = .returned (.int .i64 r) ∧ Below w.heap.size w w' := by
 have HR0 := Aside0.mk hr0
 have HC0 := Aside0.mk hc0
 clear hr0 hc0
 have HB := Aside0.mk (Below.refl w.heap.size w)
 have H : ((impl_IsPlay.f k l0).bind fun t503 => (if t503 = true then ((impl_depth.f k l0 (wrap64 ((l0.length : Int) - 1))).bind fun t504 => (some t504)) else (some (-1)))) = some r := h
 clear h
 obtain ⟨t503, A2, H⟩ := be H
 replace H := Aside0.mk H
 go_enter Try.func47, Try.ntmps47
 go_wp2_with (first | ((with_reducible refine gate_callee (f := 50) rfl ?_); refine goesS (some 4) Try.func50 #[.slice A0 l0.length c0] ?_; (with_reducible refine (impl_IsPlay.calls k _ _ l0 _ _ ?side1 ?side2 A2.out).mono ?_); (case side1 => repeat (first | exact HR0.out | (with_reducible refine Kd.C_alloc ?_ _) | (with_reducible refine Kd.C_drewN ?_ _) | (with_reducible refine Kd.C_drew ?_))); (case side2 => exact HC0.out); rintro e w9000 ⟨rfl, hb⟩; refine ⟨_, rfl, ?_⟩; replace HB := BS (w := w) hb; (try clear hb); refine stop_ ?_))
 refine Hide.mk ?_
 replace H := H.out
 by_cases c3 : t503 = true
 ·subst c3
  rw [if_pos rfl] at H
  obtain ⟨t504, A4, H⟩ := be H
  obtain rfl := Option.some.inj H
  try go_wp2_with (first | ((with_reducible refine gate_callee (f := 106) rfl ?_); refine goesS (some 10) Try.func106 #[.slice A0 l0.length c0, .int .i64 (wrap64 ((l0.length : Int) - 1))] ?_; (with_reducible refine (impl_depth.calls k _ _ l0 (wrap64 ((l0.length : Int) - 1)) t504 _ ?side1 ?side2 A4.out).mono ?_); (case side1 => exact CB HR0); (case side2 => exact HC0.out); rintro e w9001 ⟨rfl, hb⟩; refine ⟨_, rfl, ?_⟩; replace HB := BS (w := w) hb; (try clear hb)))
  go_ret
  exact ⟨EWW, BL⟩
 ·replace c3 := Bool.eq_false_iff.mpr c3
  subst c3
  rw [if_neg Bool.false_ne_true] at H
  obtain rfl := Option.some.inj H
  try go_wp2
  go_ret
  exact ⟨EWW, BL⟩
def impl_HardOf.l0 : Nat → Int → List (S116) → Int → Int → Option (Int)
 | 0, _, _, _, _ => none
 | k + 1, x3, x10, x11, x12 => if x12 < x11 then (if 0 ≤ x12 then (if x12 < (x10.length : Int) then ((impl_DepthOf.f k ((rd_T116 x10 x12).f1)).bind fun t509 => (impl_HardOf.l0 k (wrap64 (x3 + t509)) x10 x11 (wrap64 (x12 + 1)))) else (none)) else (none)) else (some x3)
def impl_HardOf.f (k : Nat) (a0_0 : Int) (a0_1 : Int) (a0_2 : ByteArray) (l0_3 : List (S116)) (l0_4 : List Int) (a0_5 : Int) : Option (Int) := (impl_IsPuzzle.f k a0_0 a0_1 a0_2 l0_3 l0_4 a0_5).bind fun t506 => (if t506 = true then (impl_HardOf.l0 k 0 l0_3 (l0_3.length : Int) 0) else (some (-1)))
set_option maxHeartbeats 8000000 in
set_option maxRecDepth 100000 in
theorem impl_HardOf.calls (k : Nat) (a0_0 : Int) (a0_1 : Int) (a0_2 : ByteArray) (A0_3 : Option Addr) (c0_3 : Nat) (l0_3 : List (S116)) (A0_4 : Option Addr) (c0_4 : Nat) (l0_4 : List Int) (a0_5 : Int) (r : Int) (w : World) (hr0_3 : Kd.C k116 w A0_3 l0_3.length l0_3) (hc0_3 : l0_3.length ≤ c0_3) (hr0_4 : Kd.C (Kd.int .i64) w A0_4 l0_4.length l0_4) (hc0_4 : l0_4.length ≤ c0_4) (h : impl_HardOf.f k a0_0 a0_1 a0_2 l0_3 l0_4 a0_5 = some r) :
  Calls Try.prog 41 #[.agg #[.int .i64 a0_0, .int .i64 a0_1, .string a0_2, .slice A0_3 l0_3.length c0_3, .slice A0_4 l0_4.length c0_4, .int .i64 a0_5]] w fun e w' => e = .returned (.int .i64 r) ∧ Below w.heap.size w w' := by
 have hu69 := Try.underlying69
 have hu116 := Try.underlying116
 have HR0_3 := Aside0.mk hr0_3
 have HC0_3 := Aside0.mk hc0_3
 clear hr0_3 hc0_3
 have HR0_4 := Aside0.mk hr0_4
 have HC0_4 := Aside0.mk hc0_4
 clear hr0_4 hc0_4
 have HB := Aside0.mk (Below.refl w.heap.size w)
 have H : ((impl_IsPuzzle.f k a0_0 a0_1 a0_2 l0_3 l0_4 a0_5).bind fun t506 => (if t506 = true then (impl_HardOf.l0 k 0 l0_3 (l0_3.length : Int) 0) else (some (-1)))) = some r := h
 clear h
 obtain ⟨t506, A2, H⟩ := be H
 replace H := Aside0.mk H
 go_enter Try.func41, Try.ntmps41
 go_wp2_with (first | ((with_reducible refine gate_dst (N := 1) rfl ?_); refine box_ev (N := 1) (cs := #[.int .i64 a0_0, .int .i64 a0_1, .string a0_2, .slice A0_3 l0_3.length c0_3, .slice A0_4 l0_4.length c0_4, .int .i64 a0_5]) (t := 69) ?_; intro gb505 hg w9000 hbox hb; have n0_ := BS (w := w) hb; have n1_ := Aside0.mk (hbox); have n2_ := SZ (w := w) hg; have n3_ := SZ (w := w) hg; clear HB; have HB := n0_; have BK505 := n1_; have GW505 := n2_; have GE505 := n3_; clear n0_ n1_ n2_ n3_; clear hb hbox hg; obtain ⟨hcz9001_0, hcz9001_1, hcz9001_2, hcz9001_3, hcz9001_4, hcz9001_5, hfz9001_0, hfz9001_1, hfz9001_2, hfz9001_3, hfz9001_4, hfz9001_5⟩ := cz6 BK505.out) | ((with_reducible refine gate_callee (f := 38) rfl ?_); refine goesS (some 7) Try.func38 #[.agg #[.int .i64 a0_0, .int .i64 a0_1, .string a0_2, .slice A0_3 l0_3.length c0_3, .slice A0_4 l0_4.length c0_4, .int .i64 a0_5]] ?_; (with_reducible refine (impl_IsPuzzle.calls k a0_0 a0_1 a0_2 _ _ l0_3 _ _ l0_4 a0_5 _ _ ?side1 ?side2 ?side3 ?side4 A2.out).mono ?_); (case side1 => exact CB HR0_3); (case side2 => exact HC0_3.out); (case side3 => exact CB HR0_4); (case side4 => exact HC0_4.out); rintro e w9002 ⟨rfl, hb⟩; refine ⟨_, rfl, ?_⟩; replace BK505 := KB BK505 hb; replace HB := BS (w := w) hb; (try clear hb); obtain ⟨hcz9003_0, hcz9003_1, hcz9003_2, hcz9003_3, hcz9003_4, hcz9003_5, hfz9003_0, hfz9003_1, hfz9003_2, hfz9003_3, hfz9003_4, hfz9003_5⟩ := cz6 BK505.out; refine stop_ ?_))
 refine Hide.mk ?_
 replace H := H.out
 by_cases c3 : t506 = true
 ·subst c3
  rw [if_pos rfl] at H
  have H' := Aside0.mk H
  clear H
  try go_wp2
  go_loopg [3, 12] k (fun kq v3 v12 w' => ∃ (x3_1 : Int) (x12_1 : Int), v3 = .int .i64 x3_1 ∧ v12 = .int .i64 x12_1 ∧ Aside0 (impl_HardOf.l0 kq x3_1 l0_3 (l0_3.length : Int) x12_1 = some r) ∧ Aside0 (kq ≤ k) ∧ Aside0 (w'.heap[gb505]? = some (.cells #[.int .i64 a0_0, .int .i64 a0_1, .string a0_2, (.slice A0_3 l0_3.length c0_3), (.slice A0_4 l0_4.length c0_4), .int .i64 a0_5] 69 (0, 0))) ∧ Aside0 (Below w.heap.size w w'))
  case atStart => exact ⟨(0), (0), EQ, EQ, H', ⟨Nat.le_refl _⟩, ⟨BK⟩, ⟨BL⟩⟩
  case round =>
   clear H'
   try clear c3
   try clear hcz9001_0
   try clear hcz9001_1
   try clear hcz9001_2
   try clear hcz9001_3
   try clear hcz9001_4
   try clear hcz9001_5
   try clear hcz9003_0
   try clear hcz9003_1
   try clear hcz9003_2
   try clear hcz9003_3
   try clear hcz9003_4
   try clear hcz9003_5
   try clear hfz9001_0
   try clear hfz9001_1
   try clear hfz9001_2
   try clear hfz9001_3
   try clear hfz9001_4
   try clear hfz9001_5
   try clear hfz9003_0
   try clear hfz9003_1
   try clear hfz9003_2
   try clear hfz9003_3
   try clear hfz9003_4
   try clear hfz9003_5
   obtain ⟨x3_1, x12_1, rfl, rfl, HA, HK1, BK505, HB⟩ := hrel
   cases gk with
   | zero => exact absurd HA.out (by simp [impl_HardOf.l0])
   | succ k1 =>
    have H := HA.out
    clear HA
    simp only [impl_HardOf.l0] at H
    by_cases c8 : x12_1 < (l0_3.length : Int)
    ·rw [if_pos c8] at H
     have c8b0 : decide (x12_1 < (l0_3.length : Int)) = true := decide_eq_true c8
     clear c8
     by_cases c9 : 0 ≤ x12_1
     ·rw [if_pos c9] at H
      have c9b0 : decide (0 ≤ x12_1) = true := decide_eq_true c9
      clear c9
      by_cases c10 : x12_1 < (l0_3.length : Int)
      ·rw [if_pos c10] at H
       have c10b0 : decide (x12_1 < (l0_3.length : Int)) = true := decide_eq_true c10
       clear c10
       obtain ⟨t509, A11, H⟩ := be H
       have H' := Aside0.mk H
       clear H
       have p507 : 0 ≤ (x12_1 : Int) := OD
       have q507 : x12_1 < (l0_3.length : Int) := OD
       obtain ⟨ad507, A507_1, c507_1, e507, hx507_0, hx507_1, hl507_1, hi507_1⟩ := at_T116 HR0_3.out x12_1 p507 q507
       cases e507
       try replace hx507_0 := (HB.out.cell (World.block_lt_of_cell? w _ hx507_0)).trans hx507_0
       try replace hx507_1 := (HB.out.cell (World.block_lt_of_cell? w _ hx507_1)).trans hx507_1
       have HR507_1 := Aside0.mk hi507_1
       have HC507_1 := Aside0.mk hl507_1
       clear hi507_1 hl507_1
       replace p507 := eq_true p507
       replace q507 := eq_true q507
       go_wp2_with (first | ((with_reducible refine gate_dst (N := 5) rfl ?_); refine box_ev (N := 5) (cs := #[.int .i64 0, .slice none 0 0]) (t := 116) ?_; intro gb508 hg w9004 hbox hb; have n0_ := KB BK505 hb; have n1_ := BS (w := w) hb; have n2_ := Aside0.mk (hbox); have n3_ := SZ (w := w) hg; have n4_ := SZ (w := w) hg; have n5_ := NL BK505 hg; have n6_ := NG BK505 hg; clear BK505 HB; have BK505 := n0_; have HB := n1_; have BK508 := n2_; have GW508 := n3_; have GE508 := n4_; have NB505_508 := n5_; have NB508_505 := n6_; clear n0_ n1_ n2_ n3_ n4_ n5_ n6_; clear hb hbox hg; have hnb9005 := NB508_505.out; have hnc9005 := NB505_508.out; obtain ⟨hcz9006_0, hcz9006_1, hfz9006_0, hfz9006_1⟩ := cz2 BK508.out) | ((with_reducible refine gate_callee (f := 47) rfl ?_); refine goesS (some 19) Try.func47 #[.slice A507_1 ((rd_T116 l0_3 x12_1).f1).length c507_1] ?_; (with_reducible refine (impl_DepthOf.calls k1 _ _ ((rd_T116 l0_3 x12_1).f1) t509 _ ?side1 ?side2 A11.out).mono ?_); (case side1 => exact Kd.C_below HR507_1.out BL); (case side2 => exact HC507_1.out); rintro e w9007 ⟨rfl, hb⟩; refine ⟨_, rfl, ?_⟩; have n0_ := Aside0.mk (blk_below (g := gb505) (o := .cells #[.int .i64 a0_0, .int .i64 a0_1, .string a0_2, .slice (some ad507) l0_3.length c0_3, .slice A0_4 l0_4.length c0_4, .int .i64 a0_5] 69 (0, 0)) (by (with_reducible repeat (first | refine blk_drewN ?_ _ | refine blk_drew ?_ | refine blk_alloc ?_ _)); refine blk_far ?_ NB505_508.out _; (with_reducible repeat (first | refine blk_drewN ?_ _ | refine blk_drew ?_ | refine blk_alloc ?_ _)); refine blk_far ?_ NB505_508.out _; (with_reducible repeat (first | refine blk_drewN ?_ _ | refine blk_drew ?_ | refine blk_alloc ?_ _)); exact BK505.out) hb); have n1_ := Aside0.mk (blk_below (g := gb508) (o := .cells #[.int .i64 ((rd_T116 l0_3 x12_1).f0), .slice A507_1 ((rd_T116 l0_3 x12_1).f1).length c507_1] 116 (0, 0)) (by (with_reducible repeat (first | refine blk_drewN ?_ _ | refine blk_drew ?_ | refine blk_alloc ?_ _)); refine blk_put (cs := #[.int .i64 ((rd_T116 l0_3 x12_1).f0), .slice none 0 0]) ?_ 1 _ rfl; (with_reducible repeat (first | refine blk_drewN ?_ _ | refine blk_drew ?_ | refine blk_alloc ?_ _)); refine blk_put (cs := #[.int .i64 0, .slice none 0 0]) ?_ 0 _ rfl; (with_reducible repeat (first | refine blk_drewN ?_ _ | refine blk_drew ?_ | refine blk_alloc ?_ _)); exact BK508.out) hb); replace HB := BS (w := w) hb; clear BK505 BK508; have BK505 := n0_; have BK508 := n1_; clear n0_ n1_; (try clear hb)))
       go_roundg k1
       case measure => have := HK1.out; omega
       case rel => exact ⟨(wrap64 (x3_1 + t509)), (wrap64 (x12_1 + 1)), EQ, EQ, H', ⟨by have := HK1.out; omega⟩, ⟨BK⟩, ⟨BL⟩⟩
      ·rw [if_neg c10] at H
       exact absurd H (by simp)
     ·rw [if_neg c9] at H
      exact absurd H (by simp)
    ·rw [if_neg c8] at H
     have c8b0 : decide (x12_1 < (l0_3.length : Int)) = false := decide_eq_false c8
     clear c8
     obtain rfl := Option.some.inj H
     go_wp2
     go_ret
     exact ⟨EWW, BL⟩
 ·replace c3 := Bool.eq_false_iff.mpr c3
  subst c3
  rw [if_neg Bool.false_ne_true] at H
  obtain rfl := Option.some.inj H
  try go_wp2
  go_ret
  exact ⟨EWW, BL⟩
end Go.Proofs.Ythjcicmmbmagbaa.PFnExactHardOf
