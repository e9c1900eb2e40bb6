/- Walks of functions: what each computes. -/
import Derived.Test.YthjcicmmbmagbaaZIsSolvedP0
import Derived.Test.YthjcicmmbmagbaaZIsSolvedP17
import Derived.Test.YthjcicmmbmagbaaZIsSolvedP18
import Derived.Test.YthjcicmmbmagbaaZIsSolvedP19
import Derived.Test.YthjcicmmbmagbaaZIsSolvedP20
import Derived.Test.YthjcicmmbmagbaaZIsSolvedW
import Derived.Test.YthjcicmmbmagbaaZIsSolvedShelf
import Derived.Test.YthjcicmmbmagbaaZIsSolvedHandSort
import Derived.Test.YthjcicmmbmagbaaZIsSolvedHandForm
import Derived.Test.YthjcicmmbmagbaaZIsSolvedHandAlone
import Derived.Test.YthjcicmmbmagbaaZIsSolvedHandReach
namespace Go.Proofs.Ythjcicmmbmagbaa.PFnExactIsSolved
open Go.RowKit Go.Proofs.YthjcicmmbmagbaaW.PrintWords Go.Proofs.YthjcicmmbmagbaaW.PrintLast Go.Proofs.YthjcicmmbmagbaaW.PrintMore Go.Proofs.Ythjcicmmbmagbaa.Sq
attribute [local go_sem] max2_int min2_int max_two min_two max_three min_three max_four min_four
set_option linter.unusedVariables false
set_option linter.unusedSimpArgs false
mutual
def impl_FormOf.l0 : Nat → List (S153) → List (S153) → Int → Int → Int → Int → ByteArray → Option (Int)
 | 0, _, _, _, _, _, _, _ => none
 | k + 1, x3, x22, x23, x24, x486000, x486001, x486002 => if x24 < x23 then (if 0 ≤ x24 then (if x24 < (x22.length : Int) then (if ((rd_T153 x22 x24).f3) < 3 then (some 4) else (impl_FormOf.l0 k x3 x22 x23 (wrap64 (x24 + 1)) x486000 x486001 x486002)) else (none)) else (none)) else (impl_FormOf.l1 k x3 (x3.length : Int) 0 x486000 x486001 x486002)
def impl_FormOf.l1 : Nat → List (S153) → Int → Int → Int → Int → ByteArray → Option (Int)
 | 0, _, _, _, _, _, _ => none
 | k + 1, x32, x33, x34, x486000, x486001, x486002 => if x34 < x33 then (if 0 ≤ x34 then (if x34 < (x32.length : Int) then ((impl_UncheckedIn.f k x486000 x486001 x486002 x34).bind fun t496 => (if (wrap64 (2 * t496)) > ((rd_T153 x32 x34).f3) then (some 5) else (impl_FormOf.l1 k x32 x33 (wrap64 (x34 + 1)) x486000 x486001 x486002))) else (none)) else (none)) else ((impl_alone.f k x486000 x486001 x486002 x486002).bind fun t497 => (if t497 = true then (some 5) else (some 0)))
end
def impl_FormOf.f (k : Nat) (a0_0 : Int) (a0_1 : Int) (a0_2 : ByteArray) : Option (Int) := (impl_IsGrid.f k a0_0 a0_1 a0_2).bind fun t486 => (if t486 = true then ((impl_IsSymmetric.f k a0_0 a0_1 a0_2).bind fun t487 => (if t487 = true then ((impl_IsConnected.f k a0_0 a0_1 a0_2).bind fun t488 => (if t488 = true then ((impl_SlotsOf.f k a0_0 a0_1 a0_2).bind fun t489 => (impl_FormOf.l0 k t489 t489 (t489.length : Int) 0 a0_0 a0_1 a0_2)) else (some 3))) else (some 2))) else (some 1))
set_option maxHeartbeats 8000000 in
set_option maxRecDepth 100000 in
theorem impl_FormOf.calls (k : Nat) (a0_0 : Int) (a0_1 : Int) (a0_2 : ByteArray) (r : Int) (w : World) (h : impl_FormOf.f k a0_0 a0_1 a0_2 = some r) :
  Calls Try.prog 90 #[.agg #[.int .i64 a0_0, .int .i64 a0_1, .string a0_2]] w fun e w' => e = .returned (.int .i64 r) ∧ Below w.heap.size w w' := by
 have hu66 := Try.underlying66
 have hu153 := Try.underlying153
 have HB := Aside0.mk (Below.refl w.heap.size w)
 have H : ((impl_IsGrid.f k a0_0 a0_1 a0_2).bind fun t486 => (if t486 = true then ((impl_IsSymmetric.f k a0_0 a0_1 a0_2).bind fun t487 => (if t487 = true then ((impl_IsConnected.f k a0_0 a0_1 a0_2).bind fun t488 => (if t488 = true then ((impl_SlotsOf.f k a0_0 a0_1 a0_2).bind fun t489 => (impl_FormOf.l0 k t489 t489 (t489.length : Int) 0 a0_0 a0_1 a0_2)) else (some 3))) else (some 2))) else (some 1))) = some r := h
 clear h
 replace H := be H; obtain ⟨t486, A2, H⟩ := H
 replace H := Aside0.mk H
 go_enter Try.func90, Try.ntmps90
 go_wp2_with (first | ((with_reducible refine gate_dst (N := 1) rfl ?_); refine box_ev (N := 1) (cs := #[.int .i64 a0_0, .int .i64 a0_1, .string a0_2]) (t := 66) ?_; intro gb485 hg w9000 hbox hb; have n0_ := BS (w := w) hb; have n1_ := Aside0.mk (hbox); have n2_ := SZ (w := w) hg; have n3_ := SZ (w := w) hg; clear HB; have HB := n0_; have BK485 := n1_; have GW485 := n2_; have GE485 := n3_; clear n0_ n1_ n2_ n3_; clear hb hbox hg; obtain ⟨hcz9001_0, hcz9001_1, hcz9001_2, hfz9001_0, hfz9001_1, hfz9001_2⟩ := cz3 BK485.out) | ((with_reducible refine gate_callee (f := 138) rfl ?_); refine goesS (some 10) Try.func138 #[.agg #[.int .i64 a0_0, .int .i64 a0_1, .string a0_2]] ?_; (with_reducible refine (impl_IsGrid.calls k a0_0 a0_1 a0_2 _ _ A2.out).mono ?_); rintro e w9002 ⟨rfl, hb⟩; refine ⟨_, rfl, ?_⟩; replace BK485 := KB BK485 hb; replace HB := BS (w := w) hb; (try clear hb); obtain ⟨hcz9003_0, hcz9003_1, hcz9003_2, hfz9003_0, hfz9003_1, hfz9003_2⟩ := cz3 BK485.out; refine stop_ ?_))
 refine Hide.mk ?_
 replace H := H.out
 replace H := ifB H; rcases H with ⟨rfl, H⟩ | ⟨rfl, H⟩
 ·replace H := be H; obtain ⟨t487, A4, H⟩ := H
  replace H := Aside0.mk H
  go_wp2_with (first | ((with_reducible refine gate_callee (f := 139) rfl ?_); refine goesS (some 14) Try.func139 #[.agg #[.int .i64 a0_0, .int .i64 a0_1, .string a0_2]] ?_; (with_reducible refine (impl_IsSymmetric.calls k a0_0 a0_1 a0_2 _ _ A4.out).mono ?_); rintro e w9004 ⟨rfl, hb⟩; refine ⟨_, rfl, ?_⟩; replace BK485 := KB BK485 hb; replace HB := BS (w := w) hb; (try clear hb); obtain ⟨hcz9005_0, hcz9005_1, hcz9005_2, hfz9005_0, hfz9005_1, hfz9005_2⟩ := cz3 BK485.out; refine stop_ ?_))
  refine Hide.mk ?_
  replace H := H.out
  replace H := ifB H; rcases H with ⟨rfl, H⟩ | ⟨rfl, H⟩
  ·replace H := be H; obtain ⟨t488, A6, H⟩ := H
   replace H := Aside0.mk H
   go_wp2_with (first | ((with_reducible refine gate_callee (f := 140) rfl ?_); refine goesS (some 18) Try.func140 #[.agg #[.int .i64 a0_0, .int .i64 a0_1, .string a0_2]] ?_; (with_reducible refine (impl_IsConnected.calls k a0_0 a0_1 a0_2 _ _ A6.out).mono ?_); rintro e w9006 ⟨rfl, hb⟩; refine ⟨_, rfl, ?_⟩; replace BK485 := KB BK485 hb; replace HB := BS (w := w) hb; (try clear hb); obtain ⟨hcz9007_0, hcz9007_1, hcz9007_2, hfz9007_0, hfz9007_1, hfz9007_2⟩ := cz3 BK485.out; refine stop_ ?_))
   refine Hide.mk ?_
   replace H := H.out
   replace H := ifB H; rcases H with ⟨rfl, H⟩ | ⟨rfl, H⟩
   ·replace H := be H; obtain ⟨t489, A8, H⟩ := H
    have H' := Aside0.mk H
    clear H
    try go_wp2_with (first | ((with_reducible refine gate_callee (f := 91) rfl ?_); refine goesS (some 21) Try.func91 #[.agg #[.int .i64 a0_0, .int .i64 a0_1, .string a0_2]] ?_; (with_reducible refine (impl_SlotsOf.calls k a0_0 a0_1 a0_2 t489 _ A8.out).mono ?_); rintro e w9008 ⟨v490, rfl, ho0, hb⟩; refine ⟨_, rfl, ?_⟩; have n0_ := Aside0.mk (Kd.R_lower ho0 (below_size BL)); replace BK485 := KB BK485 hb; replace HB := BS (w := w) hb; have HO491 := n0_; clear n0_; (try clear hb); (try clear ho0); obtain ⟨Ao9009, co9009, eo9009⟩ := Kd.R_slice HO491.out; subst eo9009))
    go_loopg [24] k (fun kq v24 w' => ∃ (x24_1 : Int), v24 = .int .i64 x24_1 ∧ Aside0 (impl_FormOf.l0 kq t489 t489 (t489.length : Int) x24_1 a0_0 a0_1 a0_2 = some r) ∧ Aside0 (kq ≤ k) ∧ Aside0 (Kd.R k153 153 w' w.heap.size (fun _ => True) (.slice Ao9009 t489.length co9009) t489) ∧ Aside0 (Kd.R k153 153 w' w.heap.size (fun _ => True) (.slice Ao9009 t489.length co9009) t489) ∧ Aside0 (w'.heap[gb485]? = some (.cells #[.int .i64 a0_0, .int .i64 a0_1, .string a0_2] 66 (0, 0))) ∧ Aside0 (Below w.heap.size w w'))
    case atStart => exact ⟨(0), EQ, H', ⟨Nat.le_refl _⟩, ⟨(RR HO491)⟩, ⟨(RR HO491)⟩, ⟨BK⟩, ⟨BL⟩⟩
    case round =>
     clear H'
     try clear c3
     try clear c5
     try clear c7
     try clear hcz9001_0
     try clear hcz9001_1
     try clear hcz9001_2
     try clear hcz9003_0
     try clear hcz9003_1
     try clear hcz9003_2
     try clear hcz9005_0
     try clear hcz9005_1
     try clear hcz9005_2
     try clear hcz9007_0
     try clear hcz9007_1
     try clear hcz9007_2
     try clear hfz9001_0
     try clear hfz9001_1
     try clear hfz9001_2
     try clear hfz9003_0
     try clear hfz9003_1
     try clear hfz9003_2
     try clear hfz9005_0
     try clear hfz9005_1
     try clear hfz9005_2
     try clear hfz9007_0
     try clear hfz9007_1
     try clear hfz9007_2
     obtain ⟨x24_1, rfl, HA, HK1, HO_3, HO_22, BK485, HB⟩ := hrel
     cases gk with
     | zero => exact absurd HA.out (by simp [impl_FormOf.l0])
     | succ k1 =>
      have H := HA.out
      clear HA
      simp only [impl_FormOf.l0] at H
      replace H := ifD H; rcases H with ⟨c19b0, H⟩ | ⟨c19b0, H⟩
      ·replace H := ifN H; obtain ⟨c20b0, H⟩ := H
       replace H := ifN H; obtain ⟨c21b0, H⟩ := H
       have p492 : 0 ≤ (x24_1 : Int) := OD
       have q492 : x24_1 < (t489.length : Int) := OD
       obtain ⟨ad492, e492, hx492_0, hx492_1, hx492_2, hx492_3⟩ := at_T153 (Kd.R_reads' HO_22.out).2.2 x24_1 p492 q492
       cases e492
       replace p492 := eq_true p492
       replace q492 := eq_true q492
       replace H := Aside0.mk H
       go_wp2_with (first | ((with_reducible refine gate_dst (N := 5) rfl ?_); refine box_ev (N := 5) (cs := #[.int .i64 0, .bool false, .int .i64 0, .int .i64 0]) (t := 153) ?_; intro gb493 hg w9010 hbox hb; have n0_ := Aside0.mk (Kd.R_below (Kd.R_elderB (RR HO_3) gb493 (Nat.le_of_eq hg.symm)) hb); have n1_ := Aside0.mk (Kd.R_below (Kd.R_elderB (RR HO_22) gb493 (Nat.le_of_eq hg.symm)) hb); have n2_ := KB BK485 hb; have n3_ := BS (w := w) hb; have n4_ := Aside0.mk (hbox); have n5_ := SZ (w := w) hg; have n6_ := SZ (w := w) hg; have n7_ := NL BK485 hg; have n8_ := NG BK485 hg; clear HO_3 HO_22 BK485 HB; have HO_3 := n0_; have HO_22 := n1_; have BK485 := n2_; have HB := n3_; have BK493 := n4_; have GW493 := n5_; have GE493 := n6_; have NB485_493 := n7_; have NB493_485 := n8_; clear n0_ n1_ n2_ n3_ n4_ n5_ n6_ n7_ n8_; clear hb hbox hg; have hnb9011 := NB493_485.out; have hnc9011 := NB485_493.out; obtain ⟨hcz9012_0, hcz9012_1, hcz9012_2, hcz9012_3, hfz9012_0, hfz9012_1, hfz9012_2, hfz9012_3⟩ := cz4 BK493.out; refine stop_ ?_))
       refine Hide.mk ?_
       replace H := H.out
       replace H := ifD H; rcases H with ⟨c22b0, H⟩ | ⟨c22b0, H⟩
       ·obtain rfl := Option.some.inj H
        try go_wp2
        go_ret
        exact ⟨EWW, BL⟩
       ·have H' := Aside0.mk H
        clear H
        try go_wp2
        go_roundg k1
        case measure => have := HK1.out; omega
        case rel => exact ⟨(wrap64 (x24_1 + 1)), EQ, H', ⟨by have := HK1.out; omega⟩, ⟨by (with_reducible repeat (first | apply Kd.R_alloc | apply Kd.R_drewN | apply Kd.R_drew)); exact Kd.R_mono (Kd.R_far (p := ⟨gb493, 3, none⟩) (Kd.R_far (p := ⟨gb493, 2, none⟩) (Kd.R_far (p := ⟨gb493, 1, none⟩) (Kd.R_far (p := ⟨gb493, 0, none⟩) (Kd.R_mono HO_3.out (fun k_ hk => (⟨hk, hk.2⟩ : _ ∧ k_ ≠ gb493))) (fun _ hk => hk.2) (.int .i64 ((rd_T153 t489 x24_1).f0))) (fun _ hk => hk.2) (.bool ((rd_T153 t489 x24_1).f1))) (fun _ hk => hk.2) (.int .i64 ((rd_T153 t489 x24_1).f2))) (fun _ hk => hk.2) (.int .i64 ((rd_T153 t489 x24_1).f3))) (fun _ hk => trivial)⟩, ⟨by (with_reducible repeat (first | apply Kd.R_alloc | apply Kd.R_drewN | apply Kd.R_drew)); exact Kd.R_mono (Kd.R_far (p := ⟨gb493, 3, none⟩) (Kd.R_far (p := ⟨gb493, 2, none⟩) (Kd.R_far (p := ⟨gb493, 1, none⟩) (Kd.R_far (p := ⟨gb493, 0, none⟩) (Kd.R_mono HO_22.out (fun k_ hk => (⟨hk, hk.2⟩ : _ ∧ k_ ≠ gb493))) (fun _ hk => hk.2) (.int .i64 ((rd_T153 t489 x24_1).f0))) (fun _ hk => hk.2) (.bool ((rd_T153 t489 x24_1).f1))) (fun _ hk => hk.2) (.int .i64 ((rd_T153 t489 x24_1).f2))) (fun _ hk => hk.2) (.int .i64 ((rd_T153 t489 x24_1).f3))) (fun _ hk => trivial)⟩, ⟨by (with_reducible repeat (first | refine blk_drewN ?_ _ | refine blk_drew ?_ | refine blk_alloc ?_ _)); refine blk_far ?_ NB485_493.out _; (with_reducible repeat (first | refine blk_drewN ?_ _ | refine blk_drew ?_ | refine blk_alloc ?_ _)); refine blk_far ?_ NB485_493.out _; (with_reducible repeat (first | refine blk_drewN ?_ _ | refine blk_drew ?_ | refine blk_alloc ?_ _)); refine blk_far ?_ NB485_493.out _; (with_reducible repeat (first | refine blk_drewN ?_ _ | refine blk_drew ?_ | refine blk_alloc ?_ _)); refine blk_far ?_ NB485_493.out _; (with_reducible repeat (first | refine blk_drewN ?_ _ | refine blk_drew ?_ | refine blk_alloc ?_ _)); exact BK485.out⟩, ⟨BL⟩⟩
      ·have H' := Aside0.mk H
       clear H
       go_wp2
       go_loopg [34] k1 (fun kq v34 w' => ∃ (x34_2 : Int), v34 = .int .i64 x34_2 ∧ Aside0 (impl_FormOf.l1 kq t489 (t489.length : Int) x34_2 a0_0 a0_1 a0_2 = some r) ∧ Aside0 (kq ≤ k1) ∧ Aside0 (Kd.R k153 153 w' w.heap.size (fun _ => True) (.slice Ao9009 t489.length co9009) t489) ∧ Aside0 (w'.heap[gb485]? = some (.cells #[.int .i64 a0_0, .int .i64 a0_1, .string a0_2] 66 (0, 0))) ∧ Aside0 (Below w.heap.size w w'))
       case atStart => exact ⟨(0), EQ, H', ⟨Nat.le_refl _⟩, ⟨(RR HO_3)⟩, ⟨BK⟩, ⟨BL⟩⟩
       case round =>
        clear H'
        try clear c3
        try clear c5
        try clear c7
        try clear c19
        try clear c19b0
        try clear hcz9001_0
        try clear hcz9001_1
        try clear hcz9001_2
        try clear hcz9003_0
        try clear hcz9003_1
        try clear hcz9003_2
        try clear hcz9005_0
        try clear hcz9005_1
        try clear hcz9005_2
        try clear hcz9007_0
        try clear hcz9007_1
        try clear hcz9007_2
        try clear hfz9001_0
        try clear hfz9001_1
        try clear hfz9001_2
        try clear hfz9003_0
        try clear hfz9003_1
        try clear hfz9003_2
        try clear hfz9005_0
        try clear hfz9005_1
        try clear hfz9005_2
        try clear hfz9007_0
        try clear hfz9007_1
        try clear hfz9007_2
        obtain ⟨x34_2, rfl, HA, HK2, HO_32, BK485, HB⟩ := hrel
        cases gk with
        | zero => exact absurd HA.out (by simp [impl_FormOf.l1])
        | succ k2 =>
         have H := HA.out
         clear HA
         simp only [impl_FormOf.l1] at H
         replace H := ifD H; rcases H with ⟨c29b0, H⟩ | ⟨c29b0, H⟩
         ·replace H := ifN H; obtain ⟨c30b0, H⟩ := H
          replace H := ifN H; obtain ⟨c31b0, H⟩ := H
          replace H := be H; obtain ⟨t496, A32, H⟩ := H
          have p494 : 0 ≤ (x34_2 : Int) := OD
          have q494 : x34_2 < (t489.length : Int) := OD
          obtain ⟨ad494, e494, hx494_0, hx494_1, hx494_2, hx494_3⟩ := at_T153 (Kd.R_reads' HO_32.out).2.2 x34_2 p494 q494
          cases e494
          replace p494 := eq_true p494
          replace q494 := eq_true q494
          replace H := Aside0.mk H
          try go_wp2_with (first | ((with_reducible refine gate_dst (N := 7) rfl ?_); refine box_ev (N := 7) (cs := #[.int .i64 0, .bool false, .int .i64 0, .int .i64 0]) (t := 153) ?_; intro gb495 hg w9010 hbox hb; have n0_ := Aside0.mk (Kd.R_below (Kd.R_elderB (RR HO_32) gb495 (Nat.le_of_eq hg.symm)) hb); have n1_ := KB BK485 hb; have n2_ := BS (w := w) hb; have n3_ := Aside0.mk (hbox); have n4_ := SZ (w := w) hg; have n5_ := SZ (w := w) hg; have n6_ := NL BK485 hg; have n7_ := NG BK485 hg; clear HO_32 BK485 HB; have HO_32 := n0_; have BK485 := n1_; have HB := n2_; have BK495 := n3_; have GW495 := n4_; have GE495 := n5_; have NB485_495 := n6_; have NB495_485 := n7_; clear n0_ n1_ n2_ n3_ n4_ n5_ n6_ n7_; clear hb hbox hg; have hnb9011 := NB495_485.out; have hnc9011 := NB485_495.out; obtain ⟨hcz9012_0, hcz9012_1, hcz9012_2, hcz9012_3, hfz9012_0, hfz9012_1, hfz9012_2, hfz9012_3⟩ := cz4 BK495.out))
          have n0_ : Aside0 (Kd.R k153 153 ((((w9010.setCell ⟨gb495, 0, none⟩ (.int .i64 ((rd_T153 t489 x34_2).f0))).setCell ⟨gb495, 1, none⟩ (.bool ((rd_T153 t489 x34_2).f1))).setCell ⟨gb495, 2, none⟩ (.int .i64 ((rd_T153 t489 x34_2).f2))).setCell ⟨gb495, 3, none⟩ (.int .i64 ((rd_T153 t489 x34_2).f3))) w.heap.size (fun k_ => k_ ≠ gb495) (.slice (some ad494) t489.length co9009) t489) := ⟨by (with_reducible repeat (first | apply Kd.R_alloc | apply Kd.R_drewN | apply Kd.R_drew)); exact Kd.R_mono (Kd.R_far (p := ⟨gb495, 3, none⟩) (Kd.R_far (p := ⟨gb495, 2, none⟩) (Kd.R_far (p := ⟨gb495, 1, none⟩) (Kd.R_far (p := ⟨gb495, 0, none⟩) (Kd.R_mono HO_32.out (fun k_ hk => (⟨hk, hk.2⟩ : _ ∧ k_ ≠ gb495))) (fun _ hk => hk.2) (.int .i64 ((rd_T153 t489 x34_2).f0))) (fun _ hk => hk.2) (.bool ((rd_T153 t489 x34_2).f1))) (fun _ hk => hk.2) (.int .i64 ((rd_T153 t489 x34_2).f2))) (fun _ hk => hk.2) (.int .i64 ((rd_T153 t489 x34_2).f3))) (fun _ hk => hk.1.2)⟩
          have n1_ : Aside0 (((((w9010.setCell ⟨gb495, 0, none⟩ (.int .i64 ((rd_T153 t489 x34_2).f0))).setCell ⟨gb495, 1, none⟩ (.bool ((rd_T153 t489 x34_2).f1))).setCell ⟨gb495, 2, none⟩ (.int .i64 ((rd_T153 t489 x34_2).f2))).setCell ⟨gb495, 3, none⟩ (.int .i64 ((rd_T153 t489 x34_2).f3))).heap[gb485]? = some (.cells #[.int .i64 a0_0, .int .i64 a0_1, .string a0_2] 66 (0, 0))) := ⟨by (with_reducible repeat (first | refine blk_drewN ?_ _ | refine blk_drew ?_ | refine blk_alloc ?_ _)); refine blk_far ?_ NB485_495.out _; (with_reducible repeat (first | refine blk_drewN ?_ _ | refine blk_drew ?_ | refine blk_alloc ?_ _)); refine blk_far ?_ NB485_495.out _; (with_reducible repeat (first | refine blk_drewN ?_ _ | refine blk_drew ?_ | refine blk_alloc ?_ _)); refine blk_far ?_ NB485_495.out _; (with_reducible repeat (first | refine blk_drewN ?_ _ | refine blk_drew ?_ | refine blk_alloc ?_ _)); refine blk_far ?_ NB485_495.out _; (with_reducible repeat (first | refine blk_drewN ?_ _ | refine blk_drew ?_ | refine blk_alloc ?_ _)); exact BK485.out⟩
          have n2_ : Aside0 (((((w9010.setCell ⟨gb495, 0, none⟩ (.int .i64 ((rd_T153 t489 x34_2).f0))).setCell ⟨gb495, 1, none⟩ (.bool ((rd_T153 t489 x34_2).f1))).setCell ⟨gb495, 2, none⟩ (.int .i64 ((rd_T153 t489 x34_2).f2))).setCell ⟨gb495, 3, none⟩ (.int .i64 ((rd_T153 t489 x34_2).f3))).heap[gb495]? = some (.cells #[.int .i64 ((rd_T153 t489 x34_2).f0), .bool ((rd_T153 t489 x34_2).f1), .int .i64 ((rd_T153 t489 x34_2).f2), .int .i64 ((rd_T153 t489 x34_2).f3)] 153 (0, 0))) := ⟨by (with_reducible repeat (first | refine blk_drewN ?_ _ | refine blk_drew ?_ | refine blk_alloc ?_ _)); refine blk_put (cs := #[.int .i64 ((rd_T153 t489 x34_2).f0), .bool ((rd_T153 t489 x34_2).f1), .int .i64 ((rd_T153 t489 x34_2).f2), .int .i64 0]) ?_ 3 _ rfl; (with_reducible repeat (first | refine blk_drewN ?_ _ | refine blk_drew ?_ | refine blk_alloc ?_ _)); refine blk_put (cs := #[.int .i64 ((rd_T153 t489 x34_2).f0), .bool ((rd_T153 t489 x34_2).f1), .int .i64 0, .int .i64 0]) ?_ 2 _ rfl; (with_reducible repeat (first | refine blk_drewN ?_ _ | refine blk_drew ?_ | refine blk_alloc ?_ _)); refine blk_put (cs := #[.int .i64 ((rd_T153 t489 x34_2).f0), .bool false, .int .i64 0, .int .i64 0]) ?_ 1 _ rfl; (with_reducible repeat (first | refine blk_drewN ?_ _ | refine blk_drew ?_ | refine blk_alloc ?_ _)); refine blk_put (cs := #[.int .i64 0, .bool false, .int .i64 0, .int .i64 0]) ?_ 0 _ rfl; (with_reducible repeat (first | refine blk_drewN ?_ _ | refine blk_drew ?_ | refine blk_alloc ?_ _)); exact BK495.out⟩
          have n3_ : Aside0 (Below w.heap.size w ((((w9010.setCell ⟨gb495, 0, none⟩ (.int .i64 ((rd_T153 t489 x34_2).f0))).setCell ⟨gb495, 1, none⟩ (.bool ((rd_T153 t489 x34_2).f1))).setCell ⟨gb495, 2, none⟩ (.int .i64 ((rd_T153 t489 x34_2).f2))).setCell ⟨gb495, 3, none⟩ (.int .i64 ((rd_T153 t489 x34_2).f3)))) := ⟨BL⟩
          (try clear HO_32)
          (try clear BK485)
          (try clear BK495)
          (try clear HB)
          generalize ((((w9010.setCell ⟨gb495, 0, none⟩ (.int .i64 ((rd_T153 t489 x34_2).f0))).setCell ⟨gb495, 1, none⟩ (.bool ((rd_T153 t489 x34_2).f1))).setCell ⟨gb495, 2, none⟩ (.int .i64 ((rd_T153 t489 x34_2).f2))).setCell ⟨gb495, 3, none⟩ (.int .i64 ((rd_T153 t489 x34_2).f3))) = w9013 at n0_ n1_ n2_ n3_ ⊢
          have HO_32 := n0_
          have BK485 := n1_
          have BK495 := n2_
          have HB := n3_
          clear n0_ n1_ n2_ n3_
          replace HO_32 := Aside0.mk (Kd.R_drew HO_32.out)
          replace BK485 := Aside0.mk (blk_drew BK485.out)
          replace BK495 := Aside0.mk (blk_drew BK495.out)
          replace HB := Aside0.mk (below_drew1 HB.out)
          refine start_ (n := 7) (S := fun w' => w'.cell? ⟨gb485, 0, none⟩ = some (.int .i64 a0_0) ∧ w'.cell? ⟨gb485, 1, none⟩ = some (.int .i64 a0_1) ∧ w'.cell? ⟨gb485, 2, none⟩ = some (.string a0_2) ∧ w'.cell? ⟨gb495, 0, none⟩ = some (.int .i64 ((rd_T153 t489 x34_2).f0)) ∧ w'.cell? ⟨gb495, 1, none⟩ = some (.bool ((rd_T153 t489 x34_2).f1)) ∧ w'.cell? ⟨gb495, 2, none⟩ = some (.int .i64 ((rd_T153 t489 x34_2).f2)) ∧ w'.cell? ⟨gb495, 3, none⟩ = some (.int .i64 ((rd_T153 t489 x34_2).f3))) (ds := []) #[false, false, false, false, false, false, false] (by kernel_rfl) rfl rfl ⟨(blk_cell BK485.out 0).trans rfl, (blk_cell BK485.out 1).trans rfl, (blk_cell BK485.out 2).trans rfl, (blk_cell BK495.out 0).trans rfl, (blk_cell BK495.out 1).trans rfl, (blk_cell BK495.out 2).trans rfl, (blk_cell BK495.out 3).trans rfl⟩ (fun hHeld => ?_)
          generalize w9013.drew = w9014 at HO_32 BK485 BK495 HB hHeld ⊢
          refine puS (i := 1) (N := some 40) #[false, true, false, false, false, false, false] (by kernel_rfl) ?_
          refine puS (i := 4) (N := some 43) #[false, true, false, false, true, false, false] (by kernel_rfl) ?_
          refine taS (i := 0) (N := some 39) #[true, true, false, false, true, false, false] (by kernel_rfl) hHeld ?_
          refine taS (i := 5) (N := some 44) #[true, true, false, false, true, true, false] (by kernel_rfl) hHeld ?_
          refine one_ (i := 2) (N := some 41) #[true, true, true, false, true, true, false] rfl rfl (by kernel_rfl) (by decide) (fun K hK => ?_)
          refine goesR Try.func141 #[.agg #[.int .i64 a0_0, .int .i64 a0_1, .string a0_2], .int .i64 x34_2] ?_
          with_reducible refine (impl_UncheckedIn.calls k2 a0_0 a0_1 a0_2 x34_2 t496 _ A32.out).mono ?_
          rintro e w9015 ⟨rfl, hb⟩
          refine ⟨_, rfl, ?_⟩
          replace HO_32 := RB HO_32 hb
          replace BK485 := KB BK485 hb
          replace BK495 := KB BK495 hb
          replace HB := BS (w := w) hb
          (try clear hb)
          refine hK.out _ _ ⟨(blk_cell BK485.out 0).trans rfl, (blk_cell BK485.out 1).trans rfl, (blk_cell BK485.out 2).trans rfl, (blk_cell BK495.out 0).trans rfl, (blk_cell BK495.out 1).trans rfl, (blk_cell BK495.out 2).trans rfl, (blk_cell BK495.out 3).trans rfl⟩ (fun hHeld => ?_)
          clear hK K
          refine nrm (some 41) ?_
          replace H := H.out
          by_cases c33 : (wrap64 (2 * t496)) > ((rd_T153 t489 x34_2).f3)
          ·rw [if_pos c33] at H
           have c33b0 : decide (((rd_T153 t489 x34_2).f3) < (wrap64 (2 * t496))) = true := decide_eq_true c33
           clear c33
           obtain rfl := Option.some.inj H
           refine puS (i := 3) (N := some 42) #[true, true, true, true, true, true, false] (by kernel_rfl) ?_
           refine puS (i := 6) (N := some 45) #[true, true, true, true, true, true, true] (by kernel_rfl) ?_
           refine done_ (by kernel_rfl) ?_
           try go_wp2
           go_ret
           exact ⟨EWW, BL⟩
          ·rw [if_neg c33] at H
           have c33b0 : decide (((rd_T153 t489 x34_2).f3) < (wrap64 (2 * t496))) = false := decide_eq_false c33
           clear c33
           have H' := Aside0.mk H
           clear H
           refine puS (i := 3) (N := some 42) #[true, true, true, true, true, true, false] (by kernel_rfl) ?_
           refine puS (i := 6) (N := some 45) #[true, true, true, true, true, true, true] (by kernel_rfl) ?_
           refine done_ (by kernel_rfl) ?_
           try go_wp2
           go_roundg k2
           case measure => have := HK1.out; have := HK2.out; omega
           case rel => exact ⟨(wrap64 (x34_2 + 1)), EQ, H', ⟨by have := HK1.out; have := HK2.out; omega⟩, ⟨by (with_reducible repeat (first | apply Kd.R_alloc | apply Kd.R_drewN | apply Kd.R_drew)); exact Kd.R_mono HO_32.out (fun _ hk => trivial)⟩, ⟨BK⟩, ⟨BL⟩⟩
         ·replace H := be H; obtain ⟨t497, A46, H⟩ := H
          obtain ⟨hcz9010_0, hcz9010_1, hcz9010_2, hfz9010_0, hfz9010_1, hfz9010_2⟩ := cz3 BK485.out
          replace H := Aside0.mk H
          go_wp2_with (first | ((with_reducible refine gate_callee (f := 142) rfl ?_); refine goesS (some 50) Try.func142 #[.agg #[.int .i64 a0_0, .int .i64 a0_1, .string a0_2], .string a0_2] ?_; (with_reducible refine (impl_alone.calls k2 a0_0 a0_1 a0_2 a0_2 _ _ A46.out).mono ?_); rintro e w9011 ⟨rfl, hb⟩; refine ⟨_, rfl, ?_⟩; replace HO_32 := RB HO_32 hb; replace BK485 := KB BK485 hb; replace HB := BS (w := w) hb; (try clear hb); refine stop_ ?_))
          refine Hide.mk ?_
          replace H := H.out
          replace H := ifB H; rcases H with ⟨rfl, H⟩ | ⟨rfl, H⟩
          ·obtain rfl := Option.some.inj H
           try go_wp2
           go_ret
           exact ⟨EWW, BL⟩
          ·obtain rfl := Option.some.inj H
           try go_wp2
           go_ret
           exact ⟨EWW, BL⟩
   ·obtain rfl := Option.some.inj H
    try go_wp2
    go_ret
    exact ⟨EWW, BL⟩
  ·obtain rfl := Option.some.inj H
   try go_wp2
   go_ret
   exact ⟨EWW, BL⟩
 ·obtain rfl := Option.some.inj H
  try go_wp2
  go_ret
  exact ⟨EWW, BL⟩
def impl_IsWord.l0 : Nat → ByteArray → Int → Int → Option (Bool)
 | 0, _, _, _ => none
 | k + 1, x0, x9, x10 => if x10 < x9 then (if 0 ≤ x10 then (if x10 < (x0.size : Int) then ((impl_isLetter.f (bt x0 x10)).bind fun t499 => (if t499 = true then (impl_IsWord.l0 k x0 x9 (wrap64 (x10 + 1))) else (some false))) else (none)) else (none)) else (some true)
def impl_IsWord.f (k : Nat) (a0 : ByteArray) : Option (Bool) := (impl_InRange.f (a0.size : Int) 1 8).bind fun t498 => (if t498 = true then (impl_IsWord.l0 k a0 (a0.size : Int) 0) else (some false))
set_option maxHeartbeats 8000000 in
set_option maxRecDepth 100000 in
theorem impl_IsWord.calls (k : Nat) (a0 : ByteArray) (r : Bool) (w : World) (h : impl_IsWord.f k a0 = some r) :
  Calls Try.prog 64 #[.string a0] w fun e w' => e = .returned (.bool r) ∧ Drawn0 w w' := by
 have H : ((impl_InRange.f (a0.size : Int) 1 8).bind fun t498 => (if t498 = true then (impl_IsWord.l0 k a0 (a0.size : Int) 0) else (some false))) = some r := h
 clear h
 replace H := be H; obtain ⟨t498, A2, H⟩ := H
 replace H := Aside0.mk H
 go_enter Try.func64, Try.ntmps64
 go_wp2_with (first | ((with_reducible refine gate_callee (f := 65) rfl ?_); refine goesS (some 6) Try.func65 #[.int .i64 (a0.size : Int), .int .i64 1, .int .i64 8] ?_; (with_reducible refine (impl_InRange.calls (a0.size : Int) 1 8 _ _ A2.out).mono ?_); rintro e w' ⟨rfl, ⟨nd, rfl⟩⟩; refine ⟨_, rfl, ?_⟩; refine stop_ ?_))
 refine Hide.mk ?_
 replace H := H.out
 replace H := ifB H; rcases H with ⟨rfl, H⟩ | ⟨rfl, H⟩
 ·have H' := Aside0.mk H
  clear H
  try go_wp2
  go_loopg [10] k (fun kq v10 w' => ∃ (x10_1 : Int), v10 = .int .i64 x10_1 ∧ Aside0 (impl_IsWord.l0 kq a0 (a0.size : Int) x10_1 = some r) ∧ Aside0 (kq ≤ k) ∧ Drawn0 w w')
  case atStart => exact ⟨(0), EQ, H', ⟨Nat.le_refl _⟩, by repeat (first | exact Drawn0.refl _ | apply Drawn0.step)⟩
  case round =>
   clear H'
   try clear c3
   obtain ⟨x10_1, rfl, HA, HK1, ⟨m1, rfl⟩⟩ := hrel
   cases gk with
   | zero => exact absurd HA.out (by simp [impl_IsWord.l0])
   | succ k1 =>
    have H := HA.out
    clear HA
    simp only [impl_IsWord.l0] at H
    replace H := ifD H; rcases H with ⟨c4b0, H⟩ | ⟨c4b0, H⟩
    ·replace H := ifN H; obtain ⟨c5b0, H⟩ := H
     replace H := ifN H; obtain ⟨c6b0, H⟩ := H
     replace H := be H; obtain ⟨t499, A8, H⟩ := H
     have p7 : (0 ≤ (x10_1 : Int)) = True := OT
     have q7 : (x10_1 < (a0.size : Int)) = True := OT
     have hx7 := bt_at a0 x10_1
     replace H := Aside0.mk H
     go_wp2_with (first | ((with_reducible refine gate_callee (f := 122) rfl ?_); refine goesS (some 16) Try.func122 #[.int .u8 (bt a0 x10_1)] ?_; (with_reducible refine (impl_isLetter.calls (bt a0 x10_1) _ _ A8.out).mono ?_); rintro e w' ⟨rfl, ⟨nd, rfl⟩⟩; refine ⟨_, rfl, ?_⟩; refine stop_ ?_))
     refine Hide.mk ?_
     replace H := H.out
     replace H := ifB H; rcases H with ⟨rfl, H⟩ | ⟨rfl, H⟩
     ·have H' := Aside0.mk H
      clear H
      try go_wp2
      go_roundg k1
      case measure => have := HK1.out; omega
      case rel => exact ⟨(wrap64 (x10_1 + 1)), EQ, H', ⟨by have := HK1.out; omega⟩, by repeat (first | exact Drawn0.refl _ | apply Drawn0.step)⟩
     ·obtain rfl := Option.some.inj H
      try go_wp2
      go_ret
      exact ⟨by first | rfl | (simp; done) | (simp [*]; done), by repeat (first | exact Drawn0.refl _ | apply Drawn0.step)⟩
    ·obtain rfl := Option.some.inj H
     go_wp2
     go_ret
     exact ⟨by first | rfl | (simp; done) | (simp [*]; done), by repeat (first | exact Drawn0.refl _ | apply Drawn0.step)⟩
 ·obtain rfl := Option.some.inj H
  try go_wp2
  go_ret
  exact ⟨by first | rfl | (simp; done) | (simp [*]; done), by repeat (first | exact Drawn0.refl _ | apply Drawn0.step)⟩
def impl_isPair.f (a0 : Int) : Option (Bool) := if a0 = 4 then (some true) else (some (a0 == 5))
set_option maxHeartbeats 8000000 in
set_option maxRecDepth 100000 in
theorem impl_isPair.calls (a0 : Int) (r : Bool) (w : World) (h : impl_isPair.f a0 = some r) :
  Calls Try.prog 107 #[.int .i64 a0] w fun e w' => e = .returned (.bool r) ∧ Drawn0 w w' := by
 have H : (if a0 = 4 then (some true) else (some (a0 == 5))) = some r := h
 clear h
 replace H := Aside0.mk H
 go_enter Try.func107, Try.ntmps107
 replace H := H.out
 replace H := ifE H; rcases H with ⟨c2b0, c2b1, H⟩ | ⟨c2, c2b0, c2b1, H⟩
 ·obtain rfl := Option.some.inj H
  try go_wp2
  go_ret
  exact ⟨by first | rfl | (simp; done) | (simp [*]; done), by repeat (first | exact Drawn0.refl _ | apply Drawn0.step)⟩
 ·obtain rfl := Option.some.inj H
  try go_wp2
  go_ret
  exact ⟨by first | rfl | (simp; done) | (simp [*]; done), by repeat (first | exact Drawn0.refl _ | apply Drawn0.step)⟩
def impl_needsWord.f (a0 : Int) : Option (Bool) := if a0 = 3 then (some true) else (some (decide (a0 ≥ 6)))
set_option maxHeartbeats 8000000 in
set_option maxRecDepth 100000 in
theorem impl_needsWord.calls (a0 : Int) (r : Bool) (w : World) (h : impl_needsWord.f a0 = some r) :
  Calls Try.prog 110 #[.int .i64 a0] w fun e w' => e = .returned (.bool r) ∧ Drawn0 w w' := by
 have H : (if a0 = 3 then (some true) else (some (decide (a0 ≥ 6)))) = some r := h
 clear h
 replace H := Aside0.mk H
 go_enter Try.func110, Try.ntmps110
 replace H := H.out
 replace H := ifE H; rcases H with ⟨c2b0, c2b1, H⟩ | ⟨c2, c2b0, c2b1, H⟩
 ·obtain rfl := Option.some.inj H
  try go_wp2
  go_ret
  exact ⟨by first | rfl | (simp; done) | (simp [*]; done), by repeat (first | exact Drawn0.refl _ | apply Drawn0.step)⟩
 ·obtain rfl := Option.some.inj H
  try go_wp2
  go_ret
  exact ⟨by first | rfl | (simp; done) | (simp [*]; done), by repeat (first | exact Drawn0.refl _ | apply Drawn0.step)⟩
end Go.Proofs.Ythjcicmmbmagbaa.PFnExactIsSolved
