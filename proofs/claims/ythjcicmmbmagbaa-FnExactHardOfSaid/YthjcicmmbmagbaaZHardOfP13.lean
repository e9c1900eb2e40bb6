/- Walks of functions: what each computes. -/
import Derived.Test.YthjcicmmbmagbaaZHardOfP0
import Derived.Test.YthjcicmmbmagbaaZHardOfP6
import Derived.Test.YthjcicmmbmagbaaZHardOfP12
import Derived.Test.YthjcicmmbmagbaaZHardOfW
import Derived.Test.YthjcicmmbmagbaaZHardOfShelf
import Derived.Test.YthjcicmmbmagbaaZHardOfHandSort
import Derived.Test.YthjcicmmbmagbaaZHardOfHandForm
import Derived.Test.YthjcicmmbmagbaaZHardOfHandAlone
import Derived.Test.YthjcicmmbmagbaaZHardOfHandReach
namespace Go.Proofs.Ythjcicmmbmagbaa.PFnExactHardOf
open Go.RowKit Go.Proofs.YthjcicmmbmagbaaW.PrintWords Go.Proofs.YthjcicmmbmagbaaW.PrintLast Go.Proofs.YthjcicmmbmagbaaW.PrintMore Go.Proofs.Ythjcicmmbmagbaa.Sq
attribute [local go_sem] max2_int min2_int max_two min_two max_three min_three max_four min_four
set_option linter.unusedVariables false
set_option linter.unusedSimpArgs false
def spec_DepthOf.l0 : Nat → List (S110) → List Int → Int → Option (Int)
 | 0, _, _, _ => none
 | k + 1, x0, x3, x4 => if x4 < (x0.length : Int) then (if 0 ≤ x4 then (if ((rd_T110 x0 x4).f0) = 1 then (if x3.length < 17592186044416 then (spec_DepthOf.l0 k x0 (x3 ++ [0]) (wrap64 (x4 + 1))) else (none)) else (if ((rd_T110 x0 x4).f0) = 4 then (if 0 ≤ ((rd_T110 x0 x4).f2) then (if ((rd_T110 x0 x4).f2) < (x3.length : Int) then (if 0 ≤ ((rd_T110 x0 x4).f3) then (if ((rd_T110 x0 x4).f3) < (x3.length : Int) then ((spec_Max.f (rd x3 ((rd_T110 x0 x4).f2)) (rd x3 ((rd_T110 x0 x4).f3))).bind fun t369 => (if x3.length < 17592186044416 then (spec_DepthOf.l0 k x0 (x3 ++ [wrap64 (1 + t369)]) (wrap64 (x4 + 1))) else (none))) else (none)) else (none)) else (none)) else (none)) else (if ((rd_T110 x0 x4).f0) = 5 then (if 0 ≤ ((rd_T110 x0 x4).f2) then (if ((rd_T110 x0 x4).f2) < (x3.length : Int) then (if 0 ≤ ((rd_T110 x0 x4).f3) then (if ((rd_T110 x0 x4).f3) < (x3.length : Int) then ((spec_Max.f (rd x3 ((rd_T110 x0 x4).f2)) (rd x3 ((rd_T110 x0 x4).f3))).bind fun t375 => (if x3.length < 17592186044416 then (spec_DepthOf.l0 k x0 (x3 ++ [wrap64 (1 + t375)]) (wrap64 (x4 + 1))) else (none))) else (none)) else (none)) else (none)) else (none)) else (if 0 ≤ ((rd_T110 x0 x4).f2) then (if ((rd_T110 x0 x4).f2) < (x3.length : Int) then (if x3.length < 17592186044416 then (spec_DepthOf.l0 k x0 (x3 ++ [wrap64 (1 + (rd x3 ((rd_T110 x0 x4).f2)))]) (wrap64 (x4 + 1))) else (none)) else (none)) else (none))))) else (none)) else (if 0 ≤ (wrap64 ((x3.length : Int) - 1)) then (if (wrap64 ((x3.length : Int) - 1)) < (x3.length : Int) then (some (rd x3 (wrap64 ((x3.length : Int) - 1)))) else (none)) else (none))
def spec_DepthOf.f (k : Nat) (l0 : List (S110)) : Option (Int) := (spec_IsPlay.f k l0).bind fun t357 => (if t357 = true then (spec_DepthOf.l0 k l0 (([] : List Int)) 0) else (some (-1)))
def spec_DepthOf.T14 : Bool × List (List Nat × List Nat) := (true, [([], []), ([], []), ([], []), ([2], [2]), ([1, 3], [1, 3]), ([4], [4]), ([], []), ([], []), ([7], [7]), ([6, 8], [6, 8]), ([9], [9]), ([5, 10], [5, 10]), ([11], [11]), ([12], [12]), ([0, 13, 11], [0, 13]), ([14, 14, 0, 1, 2, 3, 4, 5, 6, 7, 8, 9, 10, 11, 12, 13, 14], [0, 1, 6, 14])])
def spec_DepthOf.B14 : List Nat := [0, 0, 0, 4, 14, 30, 0, 0, 128, 448, 960, 2046, 4094, 8190, 16383, 32767]
theorem spec_DepthOf.tab14 : rtab .any (opsOf Try.f98 14) = spec_DepthOf.T14 := by kernel_rfl
theorem spec_DepthOf.bits14 : waitsOk spec_DepthOf.T14.2 spec_DepthOf.B14 = true := by kernel_rfl
set_option maxHeartbeats 8000000 in
set_option maxRecDepth 100000 in
theorem spec_DepthOf.calls (k : Nat) (A0 : Option Addr) (c0 : Nat) (l0 : List (S110)) (r : Int) (w : World) (hr0 : Kd.C k110 w A0 l0.length l0) (hc0 : l0.length ≤ c0) (h : spec_DepthOf.f k l0 = some r) :
  Calls Try.prog 98 #[.slice A0 l0.length c0] w fun e w' => e = .returned (.int .i64 r) ∧ Below w.heap.size w w' := by
 have hu110 := Try.underlying110
 have HR0 := Aside0.mk hr0
 have HC0 := Aside0.mk hc0
 clear hr0 hc0
 have HB := Aside0.mk (Below.refl w.heap.size w)
 have H : ((spec_IsPlay.f k l0).bind fun t357 => (if t357 = true then (spec_DepthOf.l0 k l0 (([] : List Int)) 0) else (some (-1)))) = some r := h
 clear h
 obtain ⟨t357, A2, H⟩ := be H
 by_cases c3 : t357 = true
 ·subst c3
  rw [if_pos rfl] at H
  obtain ⟨y358, hy358⟩ : ∃ y_ : List Int, y_ = (([] : List Int)) := ⟨_, rfl⟩
  replace H : (spec_DepthOf.l0 k l0 y358 0) = some r := by first | (rw [hy358]; with_reducible exact H) | (have H2_ := (Option.bind_some _ _).symm.trans H; rw [hy358]; with_reducible exact H2_) | (have H2_ := (Option.bind_some _ _).symm.trans H; with_reducible exact H2_) | with_reducible exact H | (rw [hy358]; exact H) | exact H
  have Ny358 := Aside0.mk hy358
  clear hy358
  have H' := Aside0.mk H
  clear H
  go_enter Try.func98, Try.ntmps98
  go_wp2_with (first | ((with_reducible refine gate_callee (f := 76) rfl ?_); refine goesS (some 7) Try.func76 #[.slice A0 l0.length c0] ?_; (with_reducible refine (spec_IsPlay.calls k _ _ l0 true _ ?side1 ?side2 A2.out).mono ?_); (case side1 => repeat (first | exact HR0.out | (with_reducible refine Kd.C_alloc ?_ _) | (with_reducible refine Kd.C_drewN ?_ _) | (with_reducible refine Kd.C_drew ?_))); (case side2 => exact HC0.out); rintro e w4 ⟨rfl, hb⟩; refine ⟨_, rfl, ?_⟩; replace HB := BS (w := w) hb; (try clear hb)) | ((with_reducible refine gate_dst (N := 9) rfl ?_); refine Kd.R_lit (Kd.int .i64) _ 3 ?hg (N := 9) ?hd (xs := ([] : List Int)) (inner := []) (ok := fun _ => True) (okp := fun _ => True) ?hr ?hp (fun _ hk => hk) trivial (Below.refl _ _) (Nat.le_refl _) (by simp) ?_; (case hd => rfl); (case hg => rfl); (case hr => first | (go_simp; done) | (go_simp; rfl)); (case hp => exact (Reps.none _ _)); intro v359 w5 ho6 hb hg_ hnew_; clear hg_ hnew_; (first | rw [← Ny358.out] at ho6 | (simp only [Int.reduceToNat] at ho6; rw [← Ny358.out] at ho6)); have n0_ := Aside0.mk (Kd.R_lower ho6 (below_size BL)); replace HB := BS (w := w) hb; have HO360 := n0_; clear n0_; clear hb ho6))
  go_loopg [3, 4] k (fun kq v3 v4 w' => ∃ (x3_1 : List Int) (x4_1 : Int), v4 = .int .i64 x4_1 ∧ Aside0 (spec_DepthOf.l0 kq l0 x3_1 x4_1 = some r) ∧ Aside0 (kq ≤ k) ∧ Aside0 (Kd.R (Kd.int .i64) 3 w' w.heap.size (fun _ => True) v3 x3_1) ∧ Aside0 (Below w.heap.size w w'))
  case atStart => exact ⟨(y358), (0), EQ, H', ⟨Nat.le_refl _⟩, ⟨(RR HO360)⟩, ⟨BL⟩⟩
  case round =>
   clear H'
   try clear c3
   obtain ⟨x3_1, x4_1, rfl, HA, HK1, HO_3, HB⟩ := hrel
   cases gk with
   | zero => exact absurd HA.out (by simp [spec_DepthOf.l0])
   | succ k1 =>
    have H := HA.out
    clear HA
    simp only [spec_DepthOf.l0] at H
    by_cases c7 : x4_1 < (l0.length : Int)
    ·rw [if_pos c7] at H
     have c7b0 : decide (x4_1 < (l0.length : Int)) = true := decide_eq_true c7
     clear c7
     by_cases c8 : 0 ≤ x4_1
     ·rw [if_pos c8] at H
      have c8b0 : decide (0 ≤ x4_1) = true := decide_eq_true c8
      clear c8
      by_cases c9 : ((rd_T110 l0 x4_1).f0) = 1
      ·rw [if_pos c9] at H
       have c9b0 : (((rd_T110 l0 x4_1).f0) == 1) = true := beq_iff_eq.mpr c9
       have c9b1 : (((rd_T110 l0 x4_1).f0) != 1) = false := bne_eq_false_iff_eq.mpr c9
       clear c9
       by_cases c10 : x3_1.length < 17592186044416
       ·rw [if_pos c10] at H
        have LMc10 := Aside0.mk c10
        clear c10
        obtain ⟨y364, hy364⟩ : ∃ y_ : List Int, y_ = (x3_1 ++ [0]) := ⟨_, rfl⟩
        replace H : (spec_DepthOf.l0 k1 l0 y364 (wrap64 (x4_1 + 1))) = some r := by first | (rw [hy364]; with_reducible exact H) | (have H2_ := (Option.bind_some _ _).symm.trans H; rw [hy364]; with_reducible exact H2_) | (have H2_ := (Option.bind_some _ _).symm.trans H; with_reducible exact H2_) | with_reducible exact H | (rw [hy364]; exact H) | exact H
        have Ny364 := Aside0.mk hy364
        clear hy364
        have H' := Aside0.mk H
        clear H
        have p362 : 0 ≤ (x4_1 : Int) := OD
        have q362 : x4_1 < (l0.length : Int) := OD
        obtain ⟨ad362, e362, hx362_0, hx362_1, hx362_2, hx362_3⟩ := at_T110 HR0.out x4_1 p362 q362
        cases e362
        try replace hx362_0 := (HB.out.cell (World.block_lt_of_cell? w _ hx362_0)).trans hx362_0
        try replace hx362_1 := (HB.out.cell (World.block_lt_of_cell? w _ hx362_1)).trans hx362_1
        try replace hx362_2 := (HB.out.cell (World.block_lt_of_cell? w _ hx362_2)).trans hx362_2
        try replace hx362_3 := (HB.out.cell (World.block_lt_of_cell? w _ hx362_3)).trans hx362_3
        replace p362 := eq_true p362
        replace q362 := eq_true q362
        go_wp2_with (first | ((with_reducible refine gate_dst (N := 5) rfl ?_); refine box_ev (N := 5) (cs := #[.int .i64 0, .string (⟨#[]⟩ : ByteArray), .int .i64 0, .int .i64 0]) (t := 110) ?_; intro gb363 hg w11 hbox hb; have n0_ := RB HO_3 hb; have n1_ := BS (w := w) hb; have n2_ := Aside0.mk (hbox); have n3_ := SZ (w := w) hg; have n4_ := SZ (w := w) hg; clear HO_3 HB; have HO_3 := n0_; have HB := n1_; have BK363 := n2_; have GW363 := n3_; have GE363 := n4_; clear n0_ n1_ n2_ n3_ n4_; clear hb hbox hg; obtain ⟨hcz12_0, hcz12_1, hcz12_2, hcz12_3, hfz12_0, hfz12_1, hfz12_2, hfz12_3⟩ := cz4 BK363.out) | ((with_reducible refine gate_builtin (b := .append) (xs := #[.tmp 33, .tmp 34]) rfl ?_); at_builtin; refine Kd.R_append (Kd.int .i64) (w0 := w) w.heap.size rfl (.tmp 33) (.tmp 34) 45 3 (.int .i64 0) 8 rfl Try.underlying45 info3 rfl (by decide) (by omega) u3 x3_1 0 [.int .i64 0] (fun _ => True) (fun _ => False) rfl (by first | (go_simp; done) | (go_simp; rfl)) ?aP (fun _ hk => hk.elim) ?aF ?aO ?aB ?aS ?aL ?_; (case aP => exact rfl); (case aB => exact BL); (case aF => exact (fun _ _ => trivial)); (case aO => exact (by (with_reducible repeat (first | apply Kd.R_alloc | apply Kd.R_drewN | apply Kd.R_drew)); exact Kd.R_mono (Kd.R_far (p := ⟨gb363, 3, none⟩) (Kd.R_far (p := ⟨gb363, 2, none⟩) (Kd.R_far (p := ⟨gb363, 1, none⟩) (Kd.R_far (p := ⟨gb363, 0, none⟩) (Kd.R_types HO_3.out BK363.out (by decide)) (fun _ hk => hk.2) (.int .i64 ((rd_T110 l0 x4_1).f0))) (fun _ hk => hk.2) (.string ((rd_T110 l0 x4_1).f1))) (fun _ hk => hk.2) (.int .i64 ((rd_T110 l0 x4_1).f2))) (fun _ hk => hk.2) (.int .i64 ((rd_T110 l0 x4_1).f3))) (fun _ hk => trivial))); (case aS => exact (below_size BL)); (case aL => have := LMc10.out; omega); intro v365 w13 ho hb hg hat; rw [← Ny364.out] at ho; have n0_ := Aside0.mk (blk_grown (g := gb363) (o := .cells #[.int .i64 ((rd_T110 l0 x4_1).f0), .string ((rd_T110 l0 x4_1).f1), .int .i64 ((rd_T110 l0 x4_1).f2), .int .i64 ((rd_T110 l0 x4_1).f3)] 110 (0, 0)) (by (with_reducible repeat (first | refine blk_drewN ?_ _ | refine blk_drew ?_ | refine blk_alloc ?_ _)); refine blk_put (cs := #[.int .i64 ((rd_T110 l0 x4_1).f0), .string ((rd_T110 l0 x4_1).f1), .int .i64 ((rd_T110 l0 x4_1).f2), .int .i64 0]) ?_ 3 _ rfl; (with_reducible repeat (first | refine blk_drewN ?_ _ | refine blk_drew ?_ | refine blk_alloc ?_ _)); refine blk_put (cs := #[.int .i64 ((rd_T110 l0 x4_1).f0), .string ((rd_T110 l0 x4_1).f1), .int .i64 0, .int .i64 0]) ?_ 2 _ rfl; (with_reducible repeat (first | refine blk_drewN ?_ _ | refine blk_drew ?_ | refine blk_alloc ?_ _)); refine blk_put (cs := #[.int .i64 ((rd_T110 l0 x4_1).f0), .string (⟨#[]⟩ : ByteArray), .int .i64 0, .int .i64 0]) ?_ 1 _ rfl; (with_reducible repeat (first | refine blk_drewN ?_ _ | refine blk_drew ?_ | refine blk_alloc ?_ _)); refine blk_put (cs := #[.int .i64 0, .string (⟨#[]⟩ : ByteArray), .int .i64 0, .int .i64 0]) ?_ 0 _ rfl; (with_reducible repeat (first | refine blk_drewN ?_ _ | refine blk_drew ?_ | refine blk_alloc ?_ _)); exact BK363.out) hg (Kd.R_ne HO_3.out BK363.out (by decide))); have n1_ := Aside0.mk (hb); have n2_ := Aside0.mk (ho); clear BK363 HB HO_3; have BK363 := n0_; have HB := n1_; have HO366 := n2_; clear n0_ n1_ n2_; clear ho hb hg hat))
        go_roundg k1
        case measure => have := HK1.out; omega
        case rel => exact ⟨(y364), (wrap64 (x4_1 + 1)), EQ, H', ⟨by have := HK1.out; omega⟩, ⟨(RR HO366)⟩, ⟨BL⟩⟩
       ·rw [if_neg c10] at H
        exact absurd H (by simp)
      ·rw [if_neg c9] at H
       have c9b0 : (((rd_T110 l0 x4_1).f0) == 1) = false := beq_eq_false_iff_ne.mpr c9
       have c9b1 : (((rd_T110 l0 x4_1).f0) != 1) = true := bne_iff_ne.mpr c9
       by_cases c14 : ((rd_T110 l0 x4_1).f0) = 4
       ·rw [if_pos c14] at H
        have c14b0 : (((rd_T110 l0 x4_1).f0) == 4) = true := beq_iff_eq.mpr c14
        have c14b1 : (((rd_T110 l0 x4_1).f0) != 4) = false := bne_eq_false_iff_eq.mpr c14
        clear c14
        by_cases c15 : 0 ≤ ((rd_T110 l0 x4_1).f2)
        ·rw [if_pos c15] at H
         have c15b0 : decide (0 ≤ ((rd_T110 l0 x4_1).f2)) = true := decide_eq_true c15
         clear c15
         by_cases c16 : ((rd_T110 l0 x4_1).f2) < (x3_1.length : Int)
         ·rw [if_pos c16] at H
          have c16b0 : decide (((rd_T110 l0 x4_1).f2) < (x3_1.length : Int)) = true := decide_eq_true c16
          clear c16
          by_cases c17 : 0 ≤ ((rd_T110 l0 x4_1).f3)
          ·rw [if_pos c17] at H
           have c17b0 : decide (0 ≤ ((rd_T110 l0 x4_1).f3)) = true := decide_eq_true c17
           clear c17
           by_cases c18 : ((rd_T110 l0 x4_1).f3) < (x3_1.length : Int)
           ·rw [if_pos c18] at H
            have c18b0 : decide (((rd_T110 l0 x4_1).f3) < (x3_1.length : Int)) = true := decide_eq_true c18
            clear c18
            obtain ⟨t369, A19, H⟩ := be H
            by_cases c20 : x3_1.length < 17592186044416
            ·rw [if_pos c20] at H
             have LMc20 := Aside0.mk c20
             clear c20
             obtain ⟨y370, hy370⟩ : ∃ y_ : List Int, y_ = (x3_1 ++ [wrap64 (1 + t369)]) := ⟨_, rfl⟩
             replace H : (spec_DepthOf.l0 k1 l0 y370 (wrap64 (x4_1 + 1))) = some r := by first | (rw [hy370]; with_reducible exact H) | (have H2_ := (Option.bind_some _ _).symm.trans H; rw [hy370]; with_reducible exact H2_) | (have H2_ := (Option.bind_some _ _).symm.trans H; with_reducible exact H2_) | with_reducible exact H | (rw [hy370]; exact H) | exact H
             have Ny370 := Aside0.mk hy370
             clear hy370
             have H' := Aside0.mk H
             clear H
             have p362 : 0 ≤ (x4_1 : Int) := OD
             have q362 : x4_1 < (l0.length : Int) := OD
             obtain ⟨ad362, e362, hx362_0, hx362_1, hx362_2, hx362_3⟩ := at_T110 HR0.out x4_1 p362 q362
             cases e362
             try replace hx362_0 := (HB.out.cell (World.block_lt_of_cell? w _ hx362_0)).trans hx362_0
             try replace hx362_1 := (HB.out.cell (World.block_lt_of_cell? w _ hx362_1)).trans hx362_1
             try replace hx362_2 := (HB.out.cell (World.block_lt_of_cell? w _ hx362_2)).trans hx362_2
             try replace hx362_3 := (HB.out.cell (World.block_lt_of_cell? w _ hx362_3)).trans hx362_3
             replace p362 := eq_true p362
             replace q362 := eq_true q362
             try go_wp2_with (first | ((with_reducible refine gate_dst (N := 5) rfl ?_); refine box_ev (N := 5) (cs := #[.int .i64 0, .string (⟨#[]⟩ : ByteArray), .int .i64 0, .int .i64 0]) (t := 110) ?_; intro gb363 hg w21 hbox hb; have n0_ := RB HO_3 hb; have n1_ := BS (w := w) hb; have n2_ := Aside0.mk (hbox); have n3_ := SZ (w := w) hg; have n4_ := SZ (w := w) hg; clear HO_3 HB; have HO_3 := n0_; have HB := n1_; have BK363 := n2_; have GW363 := n3_; have GE363 := n4_; clear n0_ n1_ n2_ n3_ n4_; clear hb hbox hg; obtain ⟨hcz22_0, hcz22_1, hcz22_2, hcz22_3, hfz22_0, hfz22_1, hfz22_2, hfz22_3⟩ := cz4 BK363.out))
             have n0_ : Aside0 (Kd.R (Kd.int .i64) 3 ((((w21.setCell ⟨gb363, 0, none⟩ (.int .i64 ((rd_T110 l0 x4_1).f0))).setCell ⟨gb363, 1, none⟩ (.string ((rd_T110 l0 x4_1).f1))).setCell ⟨gb363, 2, none⟩ (.int .i64 ((rd_T110 l0 x4_1).f2))).setCell ⟨gb363, 3, none⟩ (.int .i64 ((rd_T110 l0 x4_1).f3))) w.heap.size (fun _ => True) u3 x3_1) := ⟨by (with_reducible repeat (first | apply Kd.R_alloc | apply Kd.R_drewN | apply Kd.R_drew)); exact Kd.R_mono (Kd.R_far (p := ⟨gb363, 3, none⟩) (Kd.R_far (p := ⟨gb363, 2, none⟩) (Kd.R_far (p := ⟨gb363, 1, none⟩) (Kd.R_far (p := ⟨gb363, 0, none⟩) (Kd.R_types HO_3.out BK363.out (by decide)) (fun _ hk => hk.2) (.int .i64 ((rd_T110 l0 x4_1).f0))) (fun _ hk => hk.2) (.string ((rd_T110 l0 x4_1).f1))) (fun _ hk => hk.2) (.int .i64 ((rd_T110 l0 x4_1).f2))) (fun _ hk => hk.2) (.int .i64 ((rd_T110 l0 x4_1).f3))) (fun _ hk => trivial)⟩
             have n1_ : Aside0 (((((w21.setCell ⟨gb363, 0, none⟩ (.int .i64 ((rd_T110 l0 x4_1).f0))).setCell ⟨gb363, 1, none⟩ (.string ((rd_T110 l0 x4_1).f1))).setCell ⟨gb363, 2, none⟩ (.int .i64 ((rd_T110 l0 x4_1).f2))).setCell ⟨gb363, 3, none⟩ (.int .i64 ((rd_T110 l0 x4_1).f3))).heap[gb363]? = some (.cells #[.int .i64 ((rd_T110 l0 x4_1).f0), .string ((rd_T110 l0 x4_1).f1), .int .i64 ((rd_T110 l0 x4_1).f2), .int .i64 ((rd_T110 l0 x4_1).f3)] 110 (0, 0))) := ⟨by (with_reducible repeat (first | refine blk_drewN ?_ _ | refine blk_drew ?_ | refine blk_alloc ?_ _)); refine blk_put (cs := #[.int .i64 ((rd_T110 l0 x4_1).f0), .string ((rd_T110 l0 x4_1).f1), .int .i64 ((rd_T110 l0 x4_1).f2), .int .i64 0]) ?_ 3 _ rfl; (with_reducible repeat (first | refine blk_drewN ?_ _ | refine blk_drew ?_ | refine blk_alloc ?_ _)); refine blk_put (cs := #[.int .i64 ((rd_T110 l0 x4_1).f0), .string ((rd_T110 l0 x4_1).f1), .int .i64 0, .int .i64 0]) ?_ 2 _ rfl; (with_reducible repeat (first | refine blk_drewN ?_ _ | refine blk_drew ?_ | refine blk_alloc ?_ _)); refine blk_put (cs := #[.int .i64 ((rd_T110 l0 x4_1).f0), .string (⟨#[]⟩ : ByteArray), .int .i64 0, .int .i64 0]) ?_ 1 _ rfl; (with_reducible repeat (first | refine blk_drewN ?_ _ | refine blk_drew ?_ | refine blk_alloc ?_ _)); refine blk_put (cs := #[.int .i64 0, .string (⟨#[]⟩ : ByteArray), .int .i64 0, .int .i64 0]) ?_ 0 _ rfl; (with_reducible repeat (first | refine blk_drewN ?_ _ | refine blk_drew ?_ | refine blk_alloc ?_ _)); exact BK363.out⟩
             have n2_ : Aside0 (Below w.heap.size w ((((w21.setCell ⟨gb363, 0, none⟩ (.int .i64 ((rd_T110 l0 x4_1).f0))).setCell ⟨gb363, 1, none⟩ (.string ((rd_T110 l0 x4_1).f1))).setCell ⟨gb363, 2, none⟩ (.int .i64 ((rd_T110 l0 x4_1).f2))).setCell ⟨gb363, 3, none⟩ (.int .i64 ((rd_T110 l0 x4_1).f3)))) := ⟨BL⟩
             (try clear HO_3)
             (try clear BK363)
             (try clear HB)
             generalize ((((w21.setCell ⟨gb363, 0, none⟩ (.int .i64 ((rd_T110 l0 x4_1).f0))).setCell ⟨gb363, 1, none⟩ (.string ((rd_T110 l0 x4_1).f1))).setCell ⟨gb363, 2, none⟩ (.int .i64 ((rd_T110 l0 x4_1).f2))).setCell ⟨gb363, 3, none⟩ (.int .i64 ((rd_T110 l0 x4_1).f3))) = w23 at n0_ n1_ n2_ ⊢
             have HO_3 := n0_
             have BK363 := n1_
             have HB := n2_
             clear n0_ n1_ n2_
             have n0_ := Aside0.mk (Kd.R_drew HO_3.out)
             have n1_ := Aside0.mk (blk_drew BK363.out)
             have n2_ := Aside0.mk (below_drew1 HB.out)
             clear HO_3
             clear BK363
             clear HB
             have HO_3 := n0_
             have BK363 := n1_
             have HB := n2_
             clear n0_ n1_ n2_
             obtain ⟨Ao25, co25, eo25⟩ := Kd.R_slice HO_3.out
             (first | subst eo25 | (injection eo25 with f1_ f2_ f3_; have f4_ := f1_.symm; have f5_ := f3_.symm; clear f1_ f2_ f3_; subst f4_; subst f5_))
             have p367 : 0 ≤ (((rd_T110 l0 x4_1).f2) : Int) := OD
             have q367 : ((rd_T110 l0 x4_1).f2) < (x3_1.length : Int) := OD
             obtain ⟨ad367, e367, hx367_0⟩ := Kd.at_int (Kd.R_reads' HO_3.out).2.2 ((rd_T110 l0 x4_1).f2) p367 q367
             cases e367
             replace p367 := eq_true p367
             replace q367 := eq_true q367
             have p368 : 0 ≤ (((rd_T110 l0 x4_1).f3) : Int) := OD
             have q368 : ((rd_T110 l0 x4_1).f3) < (x3_1.length : Int) := OD
             obtain ⟨ad368, e368, hx368_0⟩ := Kd.at_int (Kd.R_reads' HO_3.out).2.2 ((rd_T110 l0 x4_1).f3) p368 q368
             obtain rfl : ad367 = ad368 := (by injection e368)
             replace p368 := eq_true p368
             replace q368 := eq_true q368
             refine start_ (n := 16) (S := fun w' => w'.cell? ⟨gb363, 0, none⟩ = some (.int .i64 ((rd_T110 l0 x4_1).f0)) ∧ w'.cell? ⟨gb363, 1, none⟩ = some (.string ((rd_T110 l0 x4_1).f1)) ∧ w'.cell? ⟨gb363, 2, none⟩ = some (.int .i64 ((rd_T110 l0 x4_1).f2)) ∧ w'.cell? ⟨gb363, 3, none⟩ = some (.int .i64 ((rd_T110 l0 x4_1).f3)) ∧ w'.cell? (ad367.add (((rd_T110 l0 x4_1).f2)).toNat) = some (.int .i64 (rd x3_1 ((rd_T110 l0 x4_1).f2))) ∧ w'.cell? (ad367.add (((rd_T110 l0 x4_1).f3)).toNat) = some (.int .i64 (rd x3_1 ((rd_T110 l0 x4_1).f3)))) (ds := [13, 14]) #[false, false, false, false, false, false, false, false, false, false, false, false, false, false, false, false] (by kernel_rfl) rfl rfl ⟨(blk_cell BK363.out 0).trans rfl, (blk_cell BK363.out 1).trans rfl, (blk_cell BK363.out 2).trans rfl, (blk_cell BK363.out 3).trans rfl, hx367_0, hx368_0⟩ (fun hHeld => ?_); refine with_tabW spec_DepthOf.tab14 spec_DepthOf.bits14 (fun HT_ HW_ => ?_)
             generalize w23.drew = w24 at HO_3 BK363 HB hx367_0 hx368_0 hHeld ⊢
             refine puS (i := 0) (N := some 39) #[true, false, false, false, false, false, false, false, false, false, false, false, false, false, false, false] (any_of HT_.out (by kernel_rfl)) ?_
             refine puS (i := 1) (N := some 40) #[true, true, false, false, false, false, false, false, false, false, false, false, false, false, false, false] (any_of HT_.out (by kernel_rfl)) ?_
             refine puS (i := 2) (N := some 41) #[true, true, true, false, false, false, false, false, false, false, false, false, false, false, false, false] (any_of HT_.out (by kernel_rfl)) ?_
             refine puS (i := 6) (N := some 45) #[true, true, true, false, false, false, true, false, false, false, false, false, false, false, false, false] (any_of HT_.out (by kernel_rfl)) ?_
             refine puS (i := 7) (N := some 46) #[true, true, true, false, false, false, true, true, false, false, false, false, false, false, false, false] (any_of HT_.out (by kernel_rfl)) ?_
             refine take_ (i := 3) (N := some 42) (v := ?_) (a' := ?_) #[true, true, true, true, false, false, true, true, false, false, false, false, false, false, false, false] rfl rfl (take_ofW HT_.out HW_.out (by kernel_rfl)) (fun _ _ _ h => h) (Or.inl ⟨by rfl, ?_⟩) hHeld ?_ ?_
             rotate_left
             ·rintro w' ⟨s0, s1, s2, s3, s4, s5⟩
              go_simp
              with_reducible rfl
             rotate_left
             ·simp only [Act.put, PT, i64_w, i32_w]
              rfl
             refine puS (i := 4) (N := some 43) #[true, true, true, true, true, false, true, true, false, false, false, false, false, false, false, false] (any_of HT_.out (by kernel_rfl)) ?_
             refine take_ (i := 5) (N := some 44) (v := ?_) (a' := ?_) #[true, true, true, true, true, true, true, true, false, false, false, false, false, false, false, false] rfl rfl (take_ofW HT_.out HW_.out (by kernel_rfl)) (fun _ _ _ h => h) (Or.inl ⟨by rfl, ?_⟩) hHeld ?_ ?_
             rotate_left
             ·rintro w' ⟨s0, s1, s2, s3, s4, s5⟩
              go_simp
              with_reducible rfl
             rotate_left
             ·simp only [Act.put, PT, i64_w, i32_w]
              rfl
             refine take_ (i := 8) (N := some 47) (v := ?_) (a' := ?_) #[true, true, true, true, true, true, true, true, true, false, false, false, false, false, false, false] rfl rfl (take_ofW HT_.out HW_.out (by kernel_rfl)) (fun _ _ _ h => h) (Or.inl ⟨by rfl, ?_⟩) hHeld ?_ ?_
             rotate_left
             ·rintro w' ⟨s0, s1, s2, s3, s4, s5⟩
              go_simp
              with_reducible rfl
             rotate_left
             ·simp only [Act.put, PT, i64_w, i32_w]
              rfl
             refine puS (i := 9) (N := some 48) #[true, true, true, true, true, true, true, true, true, true, false, false, false, false, false, false] (any_of HT_.out (by kernel_rfl)) ?_
             refine take_ (i := 10) (N := some 49) (v := ?_) (a' := ?_) #[true, true, true, true, true, true, true, true, true, true, true, false, false, false, false, false] rfl rfl (take_ofW HT_.out HW_.out (by kernel_rfl)) (fun _ _ _ h => h) (Or.inl ⟨by rfl, ?_⟩) hHeld ?_ ?_
             rotate_left
             ·rintro w' ⟨s0, s1, s2, s3, s4, s5⟩
              go_simp
              with_reducible rfl
             rotate_left
             ·simp only [Act.put, PT, i64_w, i32_w]
              rfl
             refine one_ (i := 11) (N := some 50) #[true, true, true, true, true, true, true, true, true, true, true, true, false, false, false, false] rfl rfl (one_of HT_.out (by kernel_rfl)) (by decide) (fun K hK => ?_)
             refine goes_ Try.func146 (by kernel_rfl) rfl #[.int .i64 (rd x3_1 ((rd_T110 l0 x4_1).f2)), .int .i64 (rd x3_1 ((rd_T110 l0 x4_1).f3))] (by rfl) rfl rfl (by (try simp only [List.map_toArray, List.map_cons, List.map_nil]); first | done | rfl | (simp only [List.length_drop, List.length_take]; rfl)) ?_
             with_reducible refine (spec_Max.calls (rd x3_1 ((rd_T110 l0 x4_1).f2)) (rd x3_1 ((rd_T110 l0 x4_1).f3)) t369 _ A19.out).mono ?_
             rintro e w' ⟨rfl, ⟨nd, rfl⟩⟩
             refine ⟨_, rfl, ?_⟩
             refine hK.out _ _ ⟨(blk_cell BK363.out 0).trans rfl, (blk_cell BK363.out 1).trans rfl, (blk_cell BK363.out 2).trans rfl, (blk_cell BK363.out 3).trans rfl, hHeld.2.2.2.2.1, hHeld.2.2.2.2.2⟩ (fun hHeld => ?_)
             clear hK K
             refine norm_ (a' := ?_) ?_ ?_
             rotate_left
             ·show Act.put _ (some 50) _ = _
              simp only [Act.put, PT, i64_w, i32_w]
              rfl
             refine puS (i := 12) (N := some 51) #[true, true, true, true, true, true, true, true, true, true, true, true, true, false, false, false] (any_of HT_.out (by kernel_rfl)) ?_
             refine last_ (i := 13) (N := some 52) #[true, true, true, true, true, true, true, true, true, true, true, true, true, true, false, false] rfl rfl (one_of HT_.out (by kernel_rfl)) (by decide) (fun K hK => ?_)
             refine value_ (w1 := ?_) (v := ?_) (by rfl) rfl ?_ ?_
             rotate_left 2
             ·go_simp
              constructor
              ·rfl
              ·rfl
             refine hK.out _ _ ?_
             clear hK K
             refine norm_ (a' := ?_) ?_ ?_
             rotate_left
             ·show Act.put _ (some 52) _ = _
              simp only [Act.put, PT, i64_w, i32_w]
              rfl
             refine last_ (i := 14) (N := some 53) #[true, true, true, true, true, true, true, true, true, true, true, true, true, true, true, false] rfl rfl (one_of HT_.out (by kernel_rfl)) (by decide) (fun K hK => ?_)
             refine Kd.R_append_step (Kd.int .i64) (w0 := w) w.heap.size (by rfl) (.tmp 39) (.tmp 52) 45 3 (.int .i64 0) 8 rfl Try.underlying45 info3 rfl (by decide) (by omega) (.slice (some ad367) x3_1.length co25) x3_1 (wrap64 (1 + t369)) [.int .i64 (wrap64 (1 + t369))] (fun _ => True) (fun _ => False) rfl rfl ?aP (fun _ hk => hk.elim) ?aF ?aO ?aB ?aS ?aL ?_
             (case aP => exact rfl)
             (case aB => exact BL)
             (case aF => exact (fun _ _ => trivial))
             (case aO => exact (RR HO_3))
             (case aS => exact (below_size BL))
             (case aL => have := LMc20.out; omega)
             intro v371 w26 ho hb hg hat
             rw [← Ny370.out] at ho
             have n0_ := Aside0.mk (blk_grown (g := gb363) (o := .cells #[.int .i64 ((rd_T110 l0 x4_1).f0), .string ((rd_T110 l0 x4_1).f1), .int .i64 ((rd_T110 l0 x4_1).f2), .int .i64 ((rd_T110 l0 x4_1).f3)] 110 (0, 0)) BK hg (Kd.R_ne HO_3.out BK363.out (by decide)))
             have n1_ := Aside0.mk (hb)
             have n2_ := Aside0.mk (ho)
             clear BK363
             clear HB
             clear HO_3
             have BK363 := n0_
             have HB := n1_
             have HO372 := n2_
             clear n0_ n1_ n2_
             clear ho hb hg hat
             refine hK.out _ _ ?_
             clear hK K
             refine norm_ (a' := ?_) ?_ ?_
             rotate_left
             ·show Act.put _ (some 53) _ = _
              simp only [Act.put, PT, i64_w, i32_w]
              rfl
             refine puS (i := 15) (N := some 3) #[true, true, true, true, true, true, true, true, true, true, true, true, true, true, true, true] (any_of HT_.out (by kernel_rfl)) ?_
             refine done_ (done_of HT_.out (by kernel_rfl)) ?_
             try go_wp2
             go_roundg k1
             case measure => have := HK1.out; omega
             case rel => exact ⟨(y370), (wrap64 (x4_1 + 1)), EQ, H', ⟨by have := HK1.out; omega⟩, ⟨(RR HO372)⟩, ⟨BL⟩⟩
            ·rw [if_neg c20] at H
             exact absurd H (by simp)
           ·rw [if_neg c18] at H
            exact absurd H (by simp)
          ·rw [if_neg c17] at H
           exact absurd H (by simp)
         ·rw [if_neg c16] at H
          exact absurd H (by simp)
        ·rw [if_neg c15] at H
         exact absurd H (by simp)
       ·rw [if_neg c14] at H
        have c14b0 : (((rd_T110 l0 x4_1).f0) == 4) = false := beq_eq_false_iff_ne.mpr c14
        have c14b1 : (((rd_T110 l0 x4_1).f0) != 4) = true := bne_iff_ne.mpr c14
        by_cases c27 : ((rd_T110 l0 x4_1).f0) = 5
        ·rw [if_pos c27] at H
         have c27b0 : (((rd_T110 l0 x4_1).f0) == 5) = true := beq_iff_eq.mpr c27
         have c27b1 : (((rd_T110 l0 x4_1).f0) != 5) = false := bne_eq_false_iff_eq.mpr c27
         clear c27
         by_cases c28 : 0 ≤ ((rd_T110 l0 x4_1).f2)
         ·rw [if_pos c28] at H
          have c28b0 : decide (0 ≤ ((rd_T110 l0 x4_1).f2)) = true := decide_eq_true c28
          clear c28
          by_cases c29 : ((rd_T110 l0 x4_1).f2) < (x3_1.length : Int)
          ·rw [if_pos c29] at H
           have c29b0 : decide (((rd_T110 l0 x4_1).f2) < (x3_1.length : Int)) = true := decide_eq_true c29
           clear c29
           by_cases c30 : 0 ≤ ((rd_T110 l0 x4_1).f3)
           ·rw [if_pos c30] at H
            have c30b0 : decide (0 ≤ ((rd_T110 l0 x4_1).f3)) = true := decide_eq_true c30
            clear c30
            by_cases c31 : ((rd_T110 l0 x4_1).f3) < (x3_1.length : Int)
            ·rw [if_pos c31] at H
             have c31b0 : decide (((rd_T110 l0 x4_1).f3) < (x3_1.length : Int)) = true := decide_eq_true c31
             clear c31
             obtain ⟨t375, A32, H⟩ := be H
             by_cases c33 : x3_1.length < 17592186044416
             ·rw [if_pos c33] at H
              have LMc33 := Aside0.mk c33
              clear c33
              obtain ⟨y376, hy376⟩ : ∃ y_ : List Int, y_ = (x3_1 ++ [wrap64 (1 + t375)]) := ⟨_, rfl⟩
              replace H : (spec_DepthOf.l0 k1 l0 y376 (wrap64 (x4_1 + 1))) = some r := by first | (rw [hy376]; with_reducible exact H) | (have H2_ := (Option.bind_some _ _).symm.trans H; rw [hy376]; with_reducible exact H2_) | (have H2_ := (Option.bind_some _ _).symm.trans H; with_reducible exact H2_) | with_reducible exact H | (rw [hy376]; exact H) | exact H
              have Ny376 := Aside0.mk hy376
              clear hy376
              have H' := Aside0.mk H
              clear H
              have p362 : 0 ≤ (x4_1 : Int) := OD
              have q362 : x4_1 < (l0.length : Int) := OD
              obtain ⟨ad362, e362, hx362_0, hx362_1, hx362_2, hx362_3⟩ := at_T110 HR0.out x4_1 p362 q362
              cases e362
              try replace hx362_0 := (HB.out.cell (World.block_lt_of_cell? w _ hx362_0)).trans hx362_0
              try replace hx362_1 := (HB.out.cell (World.block_lt_of_cell? w _ hx362_1)).trans hx362_1
              try replace hx362_2 := (HB.out.cell (World.block_lt_of_cell? w _ hx362_2)).trans hx362_2
              try replace hx362_3 := (HB.out.cell (World.block_lt_of_cell? w _ hx362_3)).trans hx362_3
              replace p362 := eq_true p362
              replace q362 := eq_true q362
              try go_wp2_with (first | ((with_reducible refine gate_dst (N := 5) rfl ?_); refine box_ev (N := 5) (cs := #[.int .i64 0, .string (⟨#[]⟩ : ByteArray), .int .i64 0, .int .i64 0]) (t := 110) ?_; intro gb363 hg w34 hbox hb; have n0_ := RB HO_3 hb; have n1_ := BS (w := w) hb; have n2_ := Aside0.mk (hbox); have n3_ := SZ (w := w) hg; have n4_ := SZ (w := w) hg; clear HO_3 HB; have HO_3 := n0_; have HB := n1_; have BK363 := n2_; have GW363 := n3_; have GE363 := n4_; clear n0_ n1_ n2_ n3_ n4_; clear hb hbox hg; obtain ⟨hcz35_0, hcz35_1, hcz35_2, hcz35_3, hfz35_0, hfz35_1, hfz35_2, hfz35_3⟩ := cz4 BK363.out))
              have n0_ : Aside0 (Kd.R (Kd.int .i64) 3 ((((w34.setCell ⟨gb363, 0, none⟩ (.int .i64 ((rd_T110 l0 x4_1).f0))).setCell ⟨gb363, 1, none⟩ (.string ((rd_T110 l0 x4_1).f1))).setCell ⟨gb363, 2, none⟩ (.int .i64 ((rd_T110 l0 x4_1).f2))).setCell ⟨gb363, 3, none⟩ (.int .i64 ((rd_T110 l0 x4_1).f3))) w.heap.size (fun _ => True) u3 x3_1) := ⟨by (with_reducible repeat (first | apply Kd.R_alloc | apply Kd.R_drewN | apply Kd.R_drew)); exact Kd.R_mono (Kd.R_far (p := ⟨gb363, 3, none⟩) (Kd.R_far (p := ⟨gb363, 2, none⟩) (Kd.R_far (p := ⟨gb363, 1, none⟩) (Kd.R_far (p := ⟨gb363, 0, none⟩) (Kd.R_types HO_3.out BK363.out (by decide)) (fun _ hk => hk.2) (.int .i64 ((rd_T110 l0 x4_1).f0))) (fun _ hk => hk.2) (.string ((rd_T110 l0 x4_1).f1))) (fun _ hk => hk.2) (.int .i64 ((rd_T110 l0 x4_1).f2))) (fun _ hk => hk.2) (.int .i64 ((rd_T110 l0 x4_1).f3))) (fun _ hk => trivial)⟩
              have n1_ : Aside0 (((((w34.setCell ⟨gb363, 0, none⟩ (.int .i64 ((rd_T110 l0 x4_1).f0))).setCell ⟨gb363, 1, none⟩ (.string ((rd_T110 l0 x4_1).f1))).setCell ⟨gb363, 2, none⟩ (.int .i64 ((rd_T110 l0 x4_1).f2))).setCell ⟨gb363, 3, none⟩ (.int .i64 ((rd_T110 l0 x4_1).f3))).heap[gb363]? = some (.cells #[.int .i64 ((rd_T110 l0 x4_1).f0), .string ((rd_T110 l0 x4_1).f1), .int .i64 ((rd_T110 l0 x4_1).f2), .int .i64 ((rd_T110 l0 x4_1).f3)] 110 (0, 0))) := ⟨by (with_reducible repeat (first | refine blk_drewN ?_ _ | refine blk_drew ?_ | refine blk_alloc ?_ _)); refine blk_put (cs := #[.int .i64 ((rd_T110 l0 x4_1).f0), .string ((rd_T110 l0 x4_1).f1), .int .i64 ((rd_T110 l0 x4_1).f2), .int .i64 0]) ?_ 3 _ rfl; (with_reducible repeat (first | refine blk_drewN ?_ _ | refine blk_drew ?_ | refine blk_alloc ?_ _)); refine blk_put (cs := #[.int .i64 ((rd_T110 l0 x4_1).f0), .string ((rd_T110 l0 x4_1).f1), .int .i64 0, .int .i64 0]) ?_ 2 _ rfl; (with_reducible repeat (first | refine blk_drewN ?_ _ | refine blk_drew ?_ | refine blk_alloc ?_ _)); refine blk_put (cs := #[.int .i64 ((rd_T110 l0 x4_1).f0), .string (⟨#[]⟩ : ByteArray), .int .i64 0, .int .i64 0]) ?_ 1 _ rfl; (with_reducible repeat (first | refine blk_drewN ?_ _ | refine blk_drew ?_ | refine blk_alloc ?_ _)); refine blk_put (cs := #[.int .i64 0, .string (⟨#[]⟩ : ByteArray), .int .i64 0, .int .i64 0]) ?_ 0 _ rfl; (with_reducible repeat (first | refine blk_drewN ?_ _ | refine blk_drew ?_ | refine blk_alloc ?_ _)); exact BK363.out⟩
              have n2_ : Aside0 (Below w.heap.size w ((((w34.setCell ⟨gb363, 0, none⟩ (.int .i64 ((rd_T110 l0 x4_1).f0))).setCell ⟨gb363, 1, none⟩ (.string ((rd_T110 l0 x4_1).f1))).setCell ⟨gb363, 2, none⟩ (.int .i64 ((rd_T110 l0 x4_1).f2))).setCell ⟨gb363, 3, none⟩ (.int .i64 ((rd_T110 l0 x4_1).f3)))) := ⟨BL⟩
              (try clear HO_3)
              (try clear BK363)
              (try clear HB)
              generalize ((((w34.setCell ⟨gb363, 0, none⟩ (.int .i64 ((rd_T110 l0 x4_1).f0))).setCell ⟨gb363, 1, none⟩ (.string ((rd_T110 l0 x4_1).f1))).setCell ⟨gb363, 2, none⟩ (.int .i64 ((rd_T110 l0 x4_1).f2))).setCell ⟨gb363, 3, none⟩ (.int .i64 ((rd_T110 l0 x4_1).f3))) = w36 at n0_ n1_ n2_ ⊢
              have HO_3 := n0_
              have BK363 := n1_
              have HB := n2_
              clear n0_ n1_ n2_
              have n0_ := Aside0.mk (Kd.R_drew HO_3.out)
              have n1_ := Aside0.mk (blk_drew BK363.out)
              have n2_ := Aside0.mk (below_drew1 HB.out)
              clear HO_3
              clear BK363
              clear HB
              have HO_3 := n0_
              have BK363 := n1_
              have HB := n2_
              clear n0_ n1_ n2_
              obtain ⟨Ao38, co38, eo38⟩ := Kd.R_slice HO_3.out
              (first | subst eo38 | (injection eo38 with f1_ f2_ f3_; have f4_ := f1_.symm; have f5_ := f3_.symm; clear f1_ f2_ f3_; subst f4_; subst f5_))
              have p373 : 0 ≤ (((rd_T110 l0 x4_1).f2) : Int) := OD
              have q373 : ((rd_T110 l0 x4_1).f2) < (x3_1.length : Int) := OD
              obtain ⟨ad373, e373, hx373_0⟩ := Kd.at_int (Kd.R_reads' HO_3.out).2.2 ((rd_T110 l0 x4_1).f2) p373 q373
              cases e373
              replace p373 := eq_true p373
              replace q373 := eq_true q373
              have p374 : 0 ≤ (((rd_T110 l0 x4_1).f3) : Int) := OD
              have q374 : ((rd_T110 l0 x4_1).f3) < (x3_1.length : Int) := OD
              obtain ⟨ad374, e374, hx374_0⟩ := Kd.at_int (Kd.R_reads' HO_3.out).2.2 ((rd_T110 l0 x4_1).f3) p374 q374
              obtain rfl : ad373 = ad374 := (by injection e374)
              replace p374 := eq_true p374
              replace q374 := eq_true q374
              refine start_ (n := 16) (S := fun w' => w'.cell? ⟨gb363, 0, none⟩ = some (.int .i64 ((rd_T110 l0 x4_1).f0)) ∧ w'.cell? ⟨gb363, 1, none⟩ = some (.string ((rd_T110 l0 x4_1).f1)) ∧ w'.cell? ⟨gb363, 2, none⟩ = some (.int .i64 ((rd_T110 l0 x4_1).f2)) ∧ w'.cell? ⟨gb363, 3, none⟩ = some (.int .i64 ((rd_T110 l0 x4_1).f3)) ∧ w'.cell? (ad373.add (((rd_T110 l0 x4_1).f2)).toNat) = some (.int .i64 (rd x3_1 ((rd_T110 l0 x4_1).f2))) ∧ w'.cell? (ad373.add (((rd_T110 l0 x4_1).f3)).toNat) = some (.int .i64 (rd x3_1 ((rd_T110 l0 x4_1).f3)))) (ds := [13, 14]) #[false, false, false, false, false, false, false, false, false, false, false, false, false, false, false, false] (by kernel_rfl) rfl rfl ⟨(blk_cell BK363.out 0).trans rfl, (blk_cell BK363.out 1).trans rfl, (blk_cell BK363.out 2).trans rfl, (blk_cell BK363.out 3).trans rfl, hx373_0, hx374_0⟩ (fun hHeld => ?_); refine with_tabW spec_DepthOf.tab14 spec_DepthOf.bits14 (fun HT_ HW_ => ?_)
              generalize w36.drew = w37 at HO_3 BK363 HB hx373_0 hx374_0 hHeld ⊢
              refine puS (i := 0) (N := some 39) #[true, false, false, false, false, false, false, false, false, false, false, false, false, false, false, false] (any_of HT_.out (by kernel_rfl)) ?_
              refine puS (i := 1) (N := some 40) #[true, true, false, false, false, false, false, false, false, false, false, false, false, false, false, false] (any_of HT_.out (by kernel_rfl)) ?_
              refine puS (i := 2) (N := some 41) #[true, true, true, false, false, false, false, false, false, false, false, false, false, false, false, false] (any_of HT_.out (by kernel_rfl)) ?_
              refine puS (i := 6) (N := some 45) #[true, true, true, false, false, false, true, false, false, false, false, false, false, false, false, false] (any_of HT_.out (by kernel_rfl)) ?_
              refine puS (i := 7) (N := some 46) #[true, true, true, false, false, false, true, true, false, false, false, false, false, false, false, false] (any_of HT_.out (by kernel_rfl)) ?_
              refine take_ (i := 3) (N := some 42) (v := ?_) (a' := ?_) #[true, true, true, true, false, false, true, true, false, false, false, false, false, false, false, false] rfl rfl (take_ofW HT_.out HW_.out (by kernel_rfl)) (fun _ _ _ h => h) (Or.inl ⟨by rfl, ?_⟩) hHeld ?_ ?_
              rotate_left
              ·rintro w' ⟨s0, s1, s2, s3, s4, s5⟩
               go_simp
               with_reducible rfl
              rotate_left
              ·simp only [Act.put, PT, i64_w, i32_w]
               rfl
              refine puS (i := 4) (N := some 43) #[true, true, true, true, true, false, true, true, false, false, false, false, false, false, false, false] (any_of HT_.out (by kernel_rfl)) ?_
              refine take_ (i := 5) (N := some 44) (v := ?_) (a' := ?_) #[true, true, true, true, true, true, true, true, false, false, false, false, false, false, false, false] rfl rfl (take_ofW HT_.out HW_.out (by kernel_rfl)) (fun _ _ _ h => h) (Or.inl ⟨by rfl, ?_⟩) hHeld ?_ ?_
              rotate_left
              ·rintro w' ⟨s0, s1, s2, s3, s4, s5⟩
               go_simp
               with_reducible rfl
              rotate_left
              ·simp only [Act.put, PT, i64_w, i32_w]
               rfl
              refine take_ (i := 8) (N := some 47) (v := ?_) (a' := ?_) #[true, true, true, true, true, true, true, true, true, false, false, false, false, false, false, false] rfl rfl (take_ofW HT_.out HW_.out (by kernel_rfl)) (fun _ _ _ h => h) (Or.inl ⟨by rfl, ?_⟩) hHeld ?_ ?_
              rotate_left
              ·rintro w' ⟨s0, s1, s2, s3, s4, s5⟩
               go_simp
               with_reducible rfl
              rotate_left
              ·simp only [Act.put, PT, i64_w, i32_w]
               rfl
              refine puS (i := 9) (N := some 48) #[true, true, true, true, true, true, true, true, true, true, false, false, false, false, false, false] (any_of HT_.out (by kernel_rfl)) ?_
              refine take_ (i := 10) (N := some 49) (v := ?_) (a' := ?_) #[true, true, true, true, true, true, true, true, true, true, true, false, false, false, false, false] rfl rfl (take_ofW HT_.out HW_.out (by kernel_rfl)) (fun _ _ _ h => h) (Or.inl ⟨by rfl, ?_⟩) hHeld ?_ ?_
              rotate_left
              ·rintro w' ⟨s0, s1, s2, s3, s4, s5⟩
               go_simp
               with_reducible rfl
              rotate_left
              ·simp only [Act.put, PT, i64_w, i32_w]
               rfl
              refine one_ (i := 11) (N := some 50) #[true, true, true, true, true, true, true, true, true, true, true, true, false, false, false, false] rfl rfl (one_of HT_.out (by kernel_rfl)) (by decide) (fun K hK => ?_)
              refine goes_ Try.func146 (by kernel_rfl) rfl #[.int .i64 (rd x3_1 ((rd_T110 l0 x4_1).f2)), .int .i64 (rd x3_1 ((rd_T110 l0 x4_1).f3))] (by rfl) rfl rfl (by (try simp only [List.map_toArray, List.map_cons, List.map_nil]); first | done | rfl | (simp only [List.length_drop, List.length_take]; rfl)) ?_
              with_reducible refine (spec_Max.calls (rd x3_1 ((rd_T110 l0 x4_1).f2)) (rd x3_1 ((rd_T110 l0 x4_1).f3)) t375 _ A32.out).mono ?_
              rintro e w' ⟨rfl, ⟨nd, rfl⟩⟩
              refine ⟨_, rfl, ?_⟩
              refine hK.out _ _ ⟨(blk_cell BK363.out 0).trans rfl, (blk_cell BK363.out 1).trans rfl, (blk_cell BK363.out 2).trans rfl, (blk_cell BK363.out 3).trans rfl, hHeld.2.2.2.2.1, hHeld.2.2.2.2.2⟩ (fun hHeld => ?_)
              clear hK K
              refine norm_ (a' := ?_) ?_ ?_
              rotate_left
              ·show Act.put _ (some 50) _ = _
               simp only [Act.put, PT, i64_w, i32_w]
               rfl
              refine puS (i := 12) (N := some 51) #[true, true, true, true, true, true, true, true, true, true, true, true, true, false, false, false] (any_of HT_.out (by kernel_rfl)) ?_
              refine last_ (i := 13) (N := some 52) #[true, true, true, true, true, true, true, true, true, true, true, true, true, true, false, false] rfl rfl (one_of HT_.out (by kernel_rfl)) (by decide) (fun K hK => ?_)
              refine value_ (w1 := ?_) (v := ?_) (by rfl) rfl ?_ ?_
              rotate_left 2
              ·go_simp
               constructor
               ·rfl
               ·rfl
              refine hK.out _ _ ?_
              clear hK K
              refine norm_ (a' := ?_) ?_ ?_
              rotate_left
              ·show Act.put _ (some 52) _ = _
               simp only [Act.put, PT, i64_w, i32_w]
               rfl
              refine last_ (i := 14) (N := some 53) #[true, true, true, true, true, true, true, true, true, true, true, true, true, true, true, false] rfl rfl (one_of HT_.out (by kernel_rfl)) (by decide) (fun K hK => ?_)
              refine Kd.R_append_step (Kd.int .i64) (w0 := w) w.heap.size (by rfl) (.tmp 39) (.tmp 52) 45 3 (.int .i64 0) 8 rfl Try.underlying45 info3 rfl (by decide) (by omega) (.slice (some ad373) x3_1.length co38) x3_1 (wrap64 (1 + t375)) [.int .i64 (wrap64 (1 + t375))] (fun _ => True) (fun _ => False) rfl rfl ?aP (fun _ hk => hk.elim) ?aF ?aO ?aB ?aS ?aL ?_
              (case aP => exact rfl)
              (case aB => exact BL)
              (case aF => exact (fun _ _ => trivial))
              (case aO => exact (RR HO_3))
              (case aS => exact (below_size BL))
              (case aL => have := LMc33.out; omega)
              intro v377 w39 ho hb hg hat
              rw [← Ny376.out] at ho
              have n0_ := Aside0.mk (blk_grown (g := gb363) (o := .cells #[.int .i64 ((rd_T110 l0 x4_1).f0), .string ((rd_T110 l0 x4_1).f1), .int .i64 ((rd_T110 l0 x4_1).f2), .int .i64 ((rd_T110 l0 x4_1).f3)] 110 (0, 0)) BK hg (Kd.R_ne HO_3.out BK363.out (by decide)))
              have n1_ := Aside0.mk (hb)
              have n2_ := Aside0.mk (ho)
              clear BK363
              clear HB
              clear HO_3
              have BK363 := n0_
              have HB := n1_
              have HO378 := n2_
              clear n0_ n1_ n2_
              clear ho hb hg hat
              refine hK.out _ _ ?_
              clear hK K
              refine norm_ (a' := ?_) ?_ ?_
              rotate_left
              ·show Act.put _ (some 53) _ = _
               simp only [Act.put, PT, i64_w, i32_w]
               rfl
              refine puS (i := 15) (N := some 3) #[true, true, true, true, true, true, true, true, true, true, true, true, true, true, true, true] (any_of HT_.out (by kernel_rfl)) ?_
              refine done_ (done_of HT_.out (by kernel_rfl)) ?_
              try go_wp2
              go_roundg k1
              case measure => have := HK1.out; omega
              case rel => exact ⟨(y376), (wrap64 (x4_1 + 1)), EQ, H', ⟨by have := HK1.out; omega⟩, ⟨(RR HO378)⟩, ⟨BL⟩⟩
             ·rw [if_neg c33] at H
              exact absurd H (by simp)
            ·rw [if_neg c31] at H
             exact absurd H (by simp)
           ·rw [if_neg c30] at H
            exact absurd H (by simp)
          ·rw [if_neg c29] at H
           exact absurd H (by simp)
         ·rw [if_neg c28] at H
          exact absurd H (by simp)
        ·rw [if_neg c27] at H
         have c27b0 : (((rd_T110 l0 x4_1).f0) == 5) = false := beq_eq_false_iff_ne.mpr c27
         have c27b1 : (((rd_T110 l0 x4_1).f0) != 5) = true := bne_iff_ne.mpr c27
         by_cases c40 : 0 ≤ ((rd_T110 l0 x4_1).f2)
         ·rw [if_pos c40] at H
          have c40b0 : decide (0 ≤ ((rd_T110 l0 x4_1).f2)) = true := decide_eq_true c40
          clear c40
          by_cases c41 : ((rd_T110 l0 x4_1).f2) < (x3_1.length : Int)
          ·rw [if_pos c41] at H
           have c41b0 : decide (((rd_T110 l0 x4_1).f2) < (x3_1.length : Int)) = true := decide_eq_true c41
           clear c41
           by_cases c42 : x3_1.length < 17592186044416
           ·rw [if_pos c42] at H
            have LMc42 := Aside0.mk c42
            clear c42
            obtain ⟨y380, hy380⟩ : ∃ y_ : List Int, y_ = (x3_1 ++ [wrap64 (1 + (rd x3_1 ((rd_T110 l0 x4_1).f2)))]) := ⟨_, rfl⟩
            replace H : (spec_DepthOf.l0 k1 l0 y380 (wrap64 (x4_1 + 1))) = some r := by first | (rw [hy380]; with_reducible exact H) | (have H2_ := (Option.bind_some _ _).symm.trans H; rw [hy380]; with_reducible exact H2_) | (have H2_ := (Option.bind_some _ _).symm.trans H; with_reducible exact H2_) | with_reducible exact H | (rw [hy380]; exact H) | exact H
            have Ny380 := Aside0.mk hy380
            clear hy380
            have H' := Aside0.mk H
            clear H
            have p362 : 0 ≤ (x4_1 : Int) := OD
            have q362 : x4_1 < (l0.length : Int) := OD
            obtain ⟨ad362, e362, hx362_0, hx362_1, hx362_2, hx362_3⟩ := at_T110 HR0.out x4_1 p362 q362
            cases e362
            try replace hx362_0 := (HB.out.cell (World.block_lt_of_cell? w _ hx362_0)).trans hx362_0
            try replace hx362_1 := (HB.out.cell (World.block_lt_of_cell? w _ hx362_1)).trans hx362_1
            try replace hx362_2 := (HB.out.cell (World.block_lt_of_cell? w _ hx362_2)).trans hx362_2
            try replace hx362_3 := (HB.out.cell (World.block_lt_of_cell? w _ hx362_3)).trans hx362_3
            replace p362 := eq_true p362
            replace q362 := eq_true q362
            go_wp2_with (first | ((with_reducible refine gate_dst (N := 5) rfl ?_); refine box_ev (N := 5) (cs := #[.int .i64 0, .string (⟨#[]⟩ : ByteArray), .int .i64 0, .int .i64 0]) (t := 110) ?_; intro gb363 hg w43 hbox hb; have n0_ := RB HO_3 hb; have n1_ := BS (w := w) hb; have n2_ := Aside0.mk (hbox); have n3_ := SZ (w := w) hg; have n4_ := SZ (w := w) hg; clear HO_3 HB; have HO_3 := n0_; have HB := n1_; have BK363 := n2_; have GW363 := n3_; have GE363 := n4_; clear n0_ n1_ n2_ n3_ n4_; clear hb hbox hg; obtain ⟨hcz44_0, hcz44_1, hcz44_2, hcz44_3, hfz44_0, hfz44_1, hfz44_2, hfz44_3⟩ := cz4 BK363.out; obtain ⟨Ao45, co45, eo45⟩ := Kd.R_slice HO_3.out; subst eo45; have p379 : 0 ≤ (((rd_T110 l0 x4_1).f2) : Int) := OD; have q379 : ((rd_T110 l0 x4_1).f2) < (x3_1.length : Int) := OD; obtain ⟨ad379, e379, hx379_0⟩ := Kd.at_int (Kd.R_reads' HO_3.out).2.2 ((rd_T110 l0 x4_1).f2) p379 q379; cases e379; have hn379_0 : ad379.block ≠ gb363 := Kd.own_blk (Kd.R_ne HO_3.out BK363.out (by decide)); have hn379_1 : ad379.block ≠ gb363 := Kd.own_blk (Kd.R_ne HO_3.out BK363.out (by decide)); have hn379_2 : ad379.block ≠ gb363 := Kd.own_blk (Kd.R_ne HO_3.out BK363.out (by decide)); have hn379_3 : ad379.block ≠ gb363 := Kd.own_blk (Kd.R_ne HO_3.out BK363.out (by decide)); replace hx379_0 := (cell_far (p := ⟨gb363, 0, none⟩) (by first | (rw [add_block]; exact hn379_0) | (show (Addr.add _ _).block ≠ _; rw [add_block]; exact hn379_0) | exact hn379_0) (.int .i64 ((rd_T110 l0 x4_1).f0))).trans hx379_0; replace hx379_0 := (cell_far (p := ⟨gb363, 1, none⟩) (by first | (rw [add_block]; exact hn379_1) | (show (Addr.add _ _).block ≠ _; rw [add_block]; exact hn379_1) | exact hn379_1) (.string ((rd_T110 l0 x4_1).f1))).trans hx379_0; replace hx379_0 := (cell_far (p := ⟨gb363, 2, none⟩) (by first | (rw [add_block]; exact hn379_2) | (show (Addr.add _ _).block ≠ _; rw [add_block]; exact hn379_2) | exact hn379_2) (.int .i64 ((rd_T110 l0 x4_1).f2))).trans hx379_0; replace hx379_0 := (cell_far (p := ⟨gb363, 3, none⟩) (by first | (rw [add_block]; exact hn379_3) | (show (Addr.add _ _).block ≠ _; rw [add_block]; exact hn379_3) | exact hn379_3) (.int .i64 ((rd_T110 l0 x4_1).f3))).trans hx379_0; clear hn379_0 hn379_1 hn379_2 hn379_3; replace p379 := eq_true p379; replace q379 := eq_true q379) | ((with_reducible refine gate_builtin (b := .append) (xs := #[.tmp 22, .tmp 29]) rfl ?_); at_builtin; refine Kd.R_append (Kd.int .i64) (w0 := w) w.heap.size rfl (.tmp 22) (.tmp 29) 45 3 (.int .i64 0) 8 rfl Try.underlying45 info3 rfl (by decide) (by omega) (.slice (some ad379) x3_1.length co45) x3_1 (wrap64 (1 + (rd x3_1 ((rd_T110 l0 x4_1).f2)))) [.int .i64 (wrap64 (1 + (rd x3_1 ((rd_T110 l0 x4_1).f2))))] (fun _ => True) (fun _ => False) rfl (by first | (go_simp; done) | (go_simp; rfl)) ?aP (fun _ hk => hk.elim) ?aF ?aO ?aB ?aS ?aL ?_; (case aP => exact rfl); (case aB => exact BL); (case aF => exact (fun _ _ => trivial)); (case aO => exact (by (with_reducible repeat (first | apply Kd.R_alloc | apply Kd.R_drewN | apply Kd.R_drew)); exact Kd.R_mono (Kd.R_far (p := ⟨gb363, 3, none⟩) (Kd.R_far (p := ⟨gb363, 2, none⟩) (Kd.R_far (p := ⟨gb363, 1, none⟩) (Kd.R_far (p := ⟨gb363, 0, none⟩) (Kd.R_types HO_3.out BK363.out (by decide)) (fun _ hk => hk.2) (.int .i64 ((rd_T110 l0 x4_1).f0))) (fun _ hk => hk.2) (.string ((rd_T110 l0 x4_1).f1))) (fun _ hk => hk.2) (.int .i64 ((rd_T110 l0 x4_1).f2))) (fun _ hk => hk.2) (.int .i64 ((rd_T110 l0 x4_1).f3))) (fun _ hk => trivial))); (case aS => exact (below_size BL)); (case aL => have := LMc42.out; omega); intro v381 w46 ho hb hg hat; rw [← Ny380.out] at ho; have n0_ := Aside0.mk (blk_grown (g := gb363) (o := .cells #[.int .i64 ((rd_T110 l0 x4_1).f0), .string ((rd_T110 l0 x4_1).f1), .int .i64 ((rd_T110 l0 x4_1).f2), .int .i64 ((rd_T110 l0 x4_1).f3)] 110 (0, 0)) (by (with_reducible repeat (first | refine blk_drewN ?_ _ | refine blk_drew ?_ | refine blk_alloc ?_ _)); refine blk_put (cs := #[.int .i64 ((rd_T110 l0 x4_1).f0), .string ((rd_T110 l0 x4_1).f1), .int .i64 ((rd_T110 l0 x4_1).f2), .int .i64 0]) ?_ 3 _ rfl; (with_reducible repeat (first | refine blk_drewN ?_ _ | refine blk_drew ?_ | refine blk_alloc ?_ _)); refine blk_put (cs := #[.int .i64 ((rd_T110 l0 x4_1).f0), .string ((rd_T110 l0 x4_1).f1), .int .i64 0, .int .i64 0]) ?_ 2 _ rfl; (with_reducible repeat (first | refine blk_drewN ?_ _ | refine blk_drew ?_ | refine blk_alloc ?_ _)); refine blk_put (cs := #[.int .i64 ((rd_T110 l0 x4_1).f0), .string (⟨#[]⟩ : ByteArray), .int .i64 0, .int .i64 0]) ?_ 1 _ rfl; (with_reducible repeat (first | refine blk_drewN ?_ _ | refine blk_drew ?_ | refine blk_alloc ?_ _)); refine blk_put (cs := #[.int .i64 0, .string (⟨#[]⟩ : ByteArray), .int .i64 0, .int .i64 0]) ?_ 0 _ rfl; (with_reducible repeat (first | refine blk_drewN ?_ _ | refine blk_drew ?_ | refine blk_alloc ?_ _)); exact BK363.out) hg (Kd.R_ne HO_3.out BK363.out (by decide))); have n1_ := Aside0.mk (hb); have n2_ := Aside0.mk (ho); clear BK363 HB HO_3; have BK363 := n0_; have HB := n1_; have HO382 := n2_; clear n0_ n1_ n2_; clear ho hb hg hat))
            go_roundg k1
            case measure => have := HK1.out; omega
            case rel => exact ⟨(y380), (wrap64 (x4_1 + 1)), EQ, H', ⟨by have := HK1.out; omega⟩, ⟨(RR HO382)⟩, ⟨BL⟩⟩
           ·rw [if_neg c42] at H
            exact absurd H (by simp)
          ·rw [if_neg c41] at H
           exact absurd H (by simp)
         ·rw [if_neg c40] at H
          exact absurd H (by simp)
     ·rw [if_neg c8] at H
      exact absurd H (by simp)
    ·rw [if_neg c7] at H
     have c7b0 : decide (x4_1 < (l0.length : Int)) = false := decide_eq_false c7
     clear c7
     obtain ⟨ji47, hji47⟩ : ∃ j_ : Int, (wrap64 ((x3_1.length : Int) - 1)) = j_ := ⟨_, rfl⟩
     replace H : (if 0 ≤ (ji47) then (if (ji47) < (x3_1.length : Int) then (some (rd x3_1 (ji47))) else (none)) else (none)) = some r := by first | (rw [hji47] at H; exact H) | (simp only [hji47] at H ⊢; exact H)
     have hji47w : (IntKind.i64.wrap ((x3_1.length : Int) - 1)) = ji47 := (i64_w _).trans hji47
     by_cases c48 : 0 ≤ (ji47)
     ·rw [if_pos c48] at H
      have c48b0 : decide (0 ≤ (ji47)) = true := decide_eq_true c48
      clear c48
      by_cases c49 : (ji47) < (x3_1.length : Int)
      ·rw [if_pos c49] at H
       have c49b0 : decide ((ji47) < (x3_1.length : Int)) = true := decide_eq_true c49
       clear c49
       obtain rfl := Option.some.inj H
       obtain ⟨Ao50, co50, eo50⟩ := Kd.R_slice HO_3.out
       subst eo50
       have p361 : 0 ≤ ((ji47) : Int) := OD
       have q361 : (ji47) < (x3_1.length : Int) := OD
       obtain ⟨ad361, e361, hx361_0⟩ := Kd.at_int (Kd.R_reads' HO_3.out).2.2 (ji47) p361 q361
       cases e361
       replace p361 := eq_true p361
       replace q361 := eq_true q361
       go_wp2
       go_ret
       exact ⟨by first | rfl | (simp [errW_none, errW_some] <;> rfl) | (simp only [← hji47]; first | rfl | (simp [errW_none, errW_some] <;> rfl)) | (simp [*, errW_none, errW_some] <;> rfl), BL⟩
      ·rw [if_neg c49] at H
       exact absurd H (by simp)
     ·rw [if_neg c48] at H
      exact absurd H (by simp)
 ·replace c3 := Bool.eq_false_iff.mpr c3
  subst c3
  rw [if_neg Bool.false_ne_true] at H
  obtain rfl := Option.some.inj H
  go_enter Try.func98, Try.ntmps98
  go_wp2_with (first | ((with_reducible refine gate_callee (f := 76) rfl ?_); refine goesS (some 7) Try.func76 #[.slice A0 l0.length c0] ?_; (with_reducible refine (spec_IsPlay.calls k _ _ l0 false _ ?side1 ?side2 A2.out).mono ?_); (case side1 => repeat (first | exact HR0.out | (with_reducible refine Kd.C_alloc ?_ _) | (with_reducible refine Kd.C_drewN ?_ _) | (with_reducible refine Kd.C_drew ?_))); (case side2 => exact HC0.out); rintro e w51 ⟨rfl, hb⟩; refine ⟨_, rfl, ?_⟩; replace HB := BS (w := w) hb; (try clear hb)))
  go_ret
  exact ⟨EWW, BL⟩
def spec_HardOf.l0 : Nat → Int → Int → Int → Int → ByteArray → List (S116) → List Int → Int → Option (Int)
 | 0, _, _, _, _, _, _, _, _ => none
 | k + 1, x3, x4, x384000, x384001, x384002, x384003, x384004, x384005 => if x4 < (x384003.length : Int) then (if 0 ≤ x4 then ((spec_DepthOf.f k ((rd_T116 x384003 x4).f1)).bind fun t386 => (spec_HardOf.l0 k (wrap64 (x3 + t386)) (wrap64 (x4 + 1)) x384000 x384001 x384002 x384003 x384004 x384005)) else (none)) else (some x3)
def spec_HardOf.f (k : Nat) (a0_0 : Int) (a0_1 : Int) (a0_2 : ByteArray) (l0_3 : List (S116)) (l0_4 : List Int) (a0_5 : Int) : Option (Int) := (spec_IsPuzzle.f k a0_0 a0_1 a0_2 l0_3 l0_4 a0_5).bind fun t384 => (if t384 = true then (spec_HardOf.l0 k 0 0 a0_0 a0_1 a0_2 l0_3 l0_4 a0_5) else (some (-1)))
set_option maxHeartbeats 8000000 in
set_option maxRecDepth 100000 in
theorem spec_HardOf.calls (k : Nat) (a0_0 : Int) (a0_1 : Int) (a0_2 : ByteArray) (A0_3 : Option Addr) (c0_3 : Nat) (l0_3 : List (S116)) (A0_4 : Option Addr) (c0_4 : Nat) (l0_4 : List Int) (a0_5 : Int) (r : Int) (w : World) (hr0_3 : Kd.C k116 w A0_3 l0_3.length l0_3) (hc0_3 : l0_3.length ≤ c0_3) (hr0_4 : Kd.C (Kd.int .i64) w A0_4 l0_4.length l0_4) (hc0_4 : l0_4.length ≤ c0_4) (h : spec_HardOf.f k a0_0 a0_1 a0_2 l0_3 l0_4 a0_5 = some r) :
  Calls Try.prog 40 #[.agg #[.int .i64 a0_0, .int .i64 a0_1, .string a0_2, .slice A0_3 l0_3.length c0_3, .slice A0_4 l0_4.length c0_4, .int .i64 a0_5]] w fun e w' => e = .returned (.int .i64 r) ∧ Below w.heap.size w w' := by
 have hu69 := Try.underlying69
 have HR0_3 := Aside0.mk hr0_3
 have HC0_3 := Aside0.mk hc0_3
 clear hr0_3 hc0_3
 have HR0_4 := Aside0.mk hr0_4
 have HC0_4 := Aside0.mk hc0_4
 clear hr0_4 hc0_4
 have HB := Aside0.mk (Below.refl w.heap.size w)
 have H : ((spec_IsPuzzle.f k a0_0 a0_1 a0_2 l0_3 l0_4 a0_5).bind fun t384 => (if t384 = true then (spec_HardOf.l0 k 0 0 a0_0 a0_1 a0_2 l0_3 l0_4 a0_5) else (some (-1)))) = some r := h
 clear h
 obtain ⟨t384, A2, H⟩ := be H
 replace H := Aside0.mk H
 go_enter Try.func40, Try.ntmps40
 go_wp2_with (first | ((with_reducible refine gate_dst (N := 1) rfl ?_); refine box_ev (N := 1) (cs := #[.int .i64 a0_0, .int .i64 a0_1, .string a0_2, .slice A0_3 l0_3.length c0_3, .slice A0_4 l0_4.length c0_4, .int .i64 a0_5]) (t := 69) ?_; intro gb383 hg w9000 hbox hb; have n0_ := BS (w := w) hb; have n1_ := Aside0.mk (hbox); have n2_ := SZ (w := w) hg; have n3_ := SZ (w := w) hg; clear HB; have HB := n0_; have BK383 := n1_; have GW383 := n2_; have GE383 := n3_; clear n0_ n1_ n2_ n3_; clear hb hbox hg; obtain ⟨hcz9001_0, hcz9001_1, hcz9001_2, hcz9001_3, hcz9001_4, hcz9001_5, hfz9001_0, hfz9001_1, hfz9001_2, hfz9001_3, hfz9001_4, hfz9001_5⟩ := cz6 BK383.out) | ((with_reducible refine gate_callee (f := 36) rfl ?_); refine goesS (some 6) Try.func36 #[.agg #[.int .i64 a0_0, .int .i64 a0_1, .string a0_2, .slice A0_3 l0_3.length c0_3, .slice A0_4 l0_4.length c0_4, .int .i64 a0_5]] ?_; (with_reducible refine (spec_IsPuzzle.calls k a0_0 a0_1 a0_2 _ _ l0_3 _ _ l0_4 a0_5 _ _ ?side1 ?side2 ?side3 ?side4 A2.out).mono ?_); (case side1 => exact CB HR0_3); (case side2 => exact HC0_3.out); (case side3 => exact CB HR0_4); (case side4 => exact HC0_4.out); rintro e w9002 ⟨rfl, hb⟩; refine ⟨_, rfl, ?_⟩; replace BK383 := KB BK383 hb; replace HB := BS (w := w) hb; (try clear hb); refine stop_ ?_))
 refine Hide.mk ?_
 replace H := H.out
 by_cases c3 : t384 = true
 ·subst c3
  rw [if_pos rfl] at H
  have H' := Aside0.mk H
  clear H
  try go_wp2
  go_loopg [3, 4] k (fun kq v3 v4 w' => ∃ (x3_1 : Int) (x4_1 : Int), v3 = .int .i64 x3_1 ∧ v4 = .int .i64 x4_1 ∧ Aside0 (spec_HardOf.l0 kq x3_1 x4_1 a0_0 a0_1 a0_2 l0_3 l0_4 a0_5 = some r) ∧ Aside0 (kq ≤ k) ∧ Aside0 (w'.heap[gb383]? = some (.cells #[.int .i64 a0_0, .int .i64 a0_1, .string a0_2, (.slice A0_3 l0_3.length c0_3), (.slice A0_4 l0_4.length c0_4), .int .i64 a0_5] 69 (0, 0))) ∧ Aside0 (Below w.heap.size w w'))
  case atStart => exact ⟨(0), (0), EQ, EQ, H', ⟨Nat.le_refl _⟩, ⟨BK⟩, ⟨BL⟩⟩
  case round =>
   clear H'
   try clear c3
   try clear hcz9001_0
   try clear hcz9001_1
   try clear hcz9001_2
   try clear hcz9001_3
   try clear hcz9001_4
   try clear hcz9001_5
   try clear hfz9001_0
   try clear hfz9001_1
   try clear hfz9001_2
   try clear hfz9001_3
   try clear hfz9001_4
   try clear hfz9001_5
   obtain ⟨x3_1, x4_1, rfl, rfl, HA, HK1, BK383, HB⟩ := hrel
   cases gk with
   | zero => exact absurd HA.out (by simp [spec_HardOf.l0])
   | succ k1 =>
    have H := HA.out
    clear HA
    simp only [spec_HardOf.l0] at H
    obtain ⟨hcz9003_0, hcz9003_1, hcz9003_2, hcz9003_3, hcz9003_4, hcz9003_5, hfz9003_0, hfz9003_1, hfz9003_2, hfz9003_3, hfz9003_4, hfz9003_5⟩ := cz6 BK383.out
    by_cases c7 : x4_1 < (l0_3.length : Int)
    ·rw [if_pos c7] at H
     have c7b0 : decide (x4_1 < (l0_3.length : Int)) = true := decide_eq_true c7
     clear c7
     by_cases c8 : 0 ≤ x4_1
     ·rw [if_pos c8] at H
      have c8b0 : decide (0 ≤ x4_1) = true := decide_eq_true c8
      clear c8
      obtain ⟨t386, A9, H⟩ := be H
      have H' := Aside0.mk H
      clear H
      have p385 : 0 ≤ (x4_1 : Int) := OD
      have q385 : x4_1 < (l0_3.length : Int) := OD
      obtain ⟨ad385, A385_1, c385_1, e385, hx385_0, hx385_1, hl385_1, hi385_1⟩ := at_T116 HR0_3.out x4_1 p385 q385
      cases e385
      try replace hx385_0 := (HB.out.cell (World.block_lt_of_cell? w _ hx385_0)).trans hx385_0
      try replace hx385_1 := (HB.out.cell (World.block_lt_of_cell? w _ hx385_1)).trans hx385_1
      have HR385_1 := Aside0.mk hi385_1
      have HC385_1 := Aside0.mk hl385_1
      clear hi385_1 hl385_1
      replace p385 := eq_true p385
      replace q385 := eq_true q385
      go_wp2_with (first | ((with_reducible refine gate_callee (f := 98) rfl ?_); refine goesS (some 22) Try.func98 #[.slice A385_1 ((rd_T116 l0_3 x4_1).f1).length c385_1] ?_; (with_reducible refine (spec_DepthOf.calls k1 _ _ ((rd_T116 l0_3 x4_1).f1) t386 _ ?side1 ?side2 A9.out).mono ?_); (case side1 => exact CB HR385_1); (case side2 => exact HC385_1.out); rintro e w9004 ⟨rfl, hb⟩; refine ⟨_, rfl, ?_⟩; replace BK383 := KB BK383 hb; replace HB := BS (w := w) hb; (try clear hb)))
      go_roundg k1
      case measure => have := HK1.out; omega
      case rel => exact ⟨(wrap64 (x3_1 + t386)), (wrap64 (x4_1 + 1)), EQ, EQ, H', ⟨by have := HK1.out; omega⟩, ⟨BK⟩, ⟨BL⟩⟩
     ·rw [if_neg c8] at H
      exact absurd H (by simp)
    ·rw [if_neg c7] at H
     have c7b0 : decide (x4_1 < (l0_3.length : Int)) = false := decide_eq_false c7
     clear c7
     obtain rfl := Option.some.inj H
     go_wp2
     go_ret
     exact ⟨EWW, BL⟩
 ·replace c3 := Bool.eq_false_iff.mpr c3
  subst c3
  rw [if_neg Bool.false_ne_true] at H
  obtain rfl := Option.some.inj H
  try go_wp2
  go_ret
  exact ⟨EWW, BL⟩
def impl_InRange.f (a0 : Int) (a1 : Int) (a2 : Int) : Option (Bool) := if a1 ≤ a0 then (some (decide (a0 ≤ a2))) else (some false)
set_option maxHeartbeats 8000000 in
set_option maxRecDepth 100000 in
theorem impl_InRange.calls (a0 : Int) (a1 : Int) (a2 : Int) (r : Bool) (w : World) (h : impl_InRange.f a0 a1 a2 = some r) :
  Calls Try.prog 65 #[.int .i64 a0, .int .i64 a1, .int .i64 a2] w fun e w' => e = .returned (.bool r) ∧ Drawn0 w w' := by
 have H : (if a1 ≤ a0 then (some (decide (a0 ≤ a2))) else (some false)) = some r := h
 clear h
 replace H := Aside0.mk H
 go_enter Try.func65, Try.ntmps65
 replace H := H.out
 by_cases c4 : a1 ≤ a0
 ·rw [if_pos c4] at H
  have c4b0 : decide (a1 ≤ a0) = true := decide_eq_true c4
  clear c4
  obtain rfl := Option.some.inj H
  try go_wp2
  go_ret
  exact ⟨by first | rfl | (simp; done) | (simp [*]; done), by repeat (first | exact Drawn0.refl _ | apply Drawn0.step)⟩
 ·rw [if_neg c4] at H
  have c4b0 : decide (a1 ≤ a0) = false := decide_eq_false c4
  clear c4
  obtain rfl := Option.some.inj H
  try go_wp2
  go_ret
  exact ⟨by first | rfl | (simp; done) | (simp [*]; done), by repeat (first | exact Drawn0.refl _ | apply Drawn0.step)⟩
end Go.Proofs.Ythjcicmmbmagbaa.PFnExactHardOf
