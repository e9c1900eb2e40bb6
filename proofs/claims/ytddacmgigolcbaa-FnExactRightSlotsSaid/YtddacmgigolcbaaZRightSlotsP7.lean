/- Walks of functions: what each computes. -/
import Derived.Test.YtddacmgigolcbaaZRightSlotsP0
import Derived.Test.YtddacmgigolcbaaZRightSlotsP1
import Derived.Test.YtddacmgigolcbaaZRightSlotsP2
import Derived.Test.YtddacmgigolcbaaZRightSlotsP3
import Derived.Test.YtddacmgigolcbaaZRightSlotsP4
namespace Go.Proofs.Ytddacmgigolcbaa.PFnExactRightSlots
open Go.RowKit Go.Proofs.YtddacmgigolcbaaW.PrintWords Go.Proofs.YtddacmgigolcbaaW.PrintLast Go.Proofs.YtddacmgigolcbaaW.PrintMore Go.Proofs.Ytddacmgigolcbaa.Sq
attribute [local go_sem] max2_int min2_int max_two min_two max_three min_three max_four min_four
set_option linter.unusedVariables false
set_option linter.unusedSimpArgs false
attribute [local go_sem high] eqA125
mutual
def spec_CellsOf.l0 : Nat → List Int → List (S125) → Int → Int → Int → ByteArray → Int → Bool → Int → Int → Option (List Int)
 | 0, _, _, _, _, _, _, _, _, _, _ => none
 | k + 1, x5, x6, x7, x150000, x150001, x150002, x151000, x151001, x151002, x151003 => if x7 < (x6.length : Int) then (if 0 ≤ x7 then (if (!(((rd_T125 x6 x7).f0) == x151000) || (!(((rd_T125 x6 x7).f1) == x151001) || (!(((rd_T125 x6 x7).f2) == x151002) || (!(((rd_T125 x6 x7).f3) == x151003))))) = true then (spec_CellsOf.l0 k x5 x6 (wrap64 (x7 + 1)) x150000 x150001 x150002 x151000 x151001 x151002 x151003) else (spec_CellsOf.l1 k x5 x6 x7 0 x150000 x150001 x150002 x151000 x151001 x151002 x151003)) else (none)) else (some x5)
def spec_CellsOf.l1 : Nat → List Int → List (S125) → Int → Int → Int → Int → ByteArray → Int → Bool → Int → Int → Option (List Int)
 | 0, _, _, _, _, _, _, _, _, _, _, _ => none
 | k + 1, x5, x6, x7, x8, x150000, x150001, x150002, x151000, x151001, x151002, x151003 => if x8 < x151003 then (if x151001 = true then (if x5.length < 17592186044416 then (spec_CellsOf.l1 k (x5 ++ [wrap64 (x151002 + (wrap64 (x8 * x150001)))]) x6 x7 (wrap64 (x8 + 1)) x150000 x150001 x150002 x151000 x151001 x151002 x151003) else (none)) else (if x5.length < 17592186044416 then (spec_CellsOf.l1 k (x5 ++ [wrap64 (x151002 + x8)]) x6 x7 (wrap64 (x8 + 1)) x150000 x150001 x150002 x151000 x151001 x151002 x151003) else (none))) else (spec_CellsOf.l0 k x5 x6 (wrap64 (x7 + 1)) x150000 x150001 x150002 x151000 x151001 x151002 x151003)
end
def spec_CellsOf.f (k : Nat) (a0_0 : Int) (a0_1 : Int) (a0_2 : ByteArray) (a1_0 : Int) (a1_1 : Bool) (a1_2 : Int) (a1_3 : Int) : Option (List Int) := (spec_SlotsOf.f k a0_0 a0_1 a0_2).bind fun t154 => (spec_CellsOf.l0 k (([] : List Int)) t154 0 a0_0 a0_1 a0_2 a1_0 a1_1 a1_2 a1_3)
set_option maxHeartbeats 8000000 in
set_option maxRecDepth 100000 in
theorem spec_CellsOf.calls (k : Nat) (a0_0 : Int) (a0_1 : Int) (a0_2 : ByteArray) (a1_0 : Int) (a1_1 : Bool) (a1_2 : Int) (a1_3 : Int) (r : List Int) (w : World) (h : spec_CellsOf.f k a0_0 a0_1 a0_2 a1_0 a1_1 a1_2 a1_3 = some r) :
  Calls Try.prog 115 #[.agg #[.int .i64 a0_0, .int .i64 a0_1, .string a0_2], .agg #[.int .i64 a1_0, .bool a1_1, .int .i64 a1_2, .int .i64 a1_3]] w fun e w' => ∃ v0_ : Value, e = .returned (v0_) ∧ Kd.R (Kd.int .i64) 3 w' w.heap.size (fun _ => True) v0_ r ∧ Below w.heap.size w w' := by
 have hu30 := Try.underlying30
 have hu125 := Try.underlying125
 have HB := Aside0.mk (Below.refl w.heap.size w)
 have H : ((spec_SlotsOf.f k a0_0 a0_1 a0_2).bind fun t154 => (spec_CellsOf.l0 k (([] : List Int)) t154 0 a0_0 a0_1 a0_2 a1_0 a1_1 a1_2 a1_3)) = some r := h
 clear h
 obtain ⟨y151, hy151⟩ : ∃ y_ : List Int, y_ = (([] : List Int)) := ⟨_, rfl⟩
 replace H : ((spec_SlotsOf.f k a0_0 a0_1 a0_2).bind fun t154 => (spec_CellsOf.l0 k y151 t154 0 a0_0 a0_1 a0_2 a1_0 a1_1 a1_2 a1_3)) = some r := by first | (rw [hy151]; with_reducible exact H) | (have H2_ := (Option.bind_some _ _).symm.trans H; rw [hy151]; with_reducible exact H2_) | (have H2_ := (Option.bind_some _ _).symm.trans H; with_reducible exact H2_) | with_reducible exact H | (rw [hy151]; exact H) | exact H
 have Ny151 := Aside0.mk hy151
 clear hy151
 replace H := Option.bind_eq_some_iff.mp H
 obtain ⟨t154, A30, H⟩ := H
 replace H : (spec_CellsOf.l0 k y151 t154 0 a0_0 a0_1 a0_2 a1_0 a1_1 a1_2 a1_3) = some r := H
 have A3 := Aside0.mk A30
 clear A30
 have H' := Aside0.mk H
 clear H
 go_enter Try.func115, Try.ntmps115
 go_wp2_with (first | ((with_reducible refine gate_dst (N := 2) rfl ?_); refine box_ev (N := 2) (cs := #[.int .i64 a0_0, .int .i64 a0_1, .string a0_2]) (t := 30) ?_; intro gb149 hg w4 hbox hb; have n0_ := Aside0.mk (below_step BL hb); have n1_ := Aside0.mk (hbox); have n2_ := Aside0.mk ((by rw [hg]; exact (below_size BL) : w.heap.size ≤ gb149)); have n3_ := Aside0.mk ((by rw [hg]; exact (below_size BL) : w.heap.size ≤ gb149)); clear HB; have HB := n0_; have BK149 := n1_; have GW149 := n2_; have GE149 := n3_; clear n0_ n1_ n2_ n3_; clear hb hbox hg) | ((with_reducible refine gate_dst (N := 3) rfl ?_); refine box_ev (N := 3) (cs := #[.int .i64 a1_0, .bool a1_1, .int .i64 a1_2, .int .i64 a1_3]) (t := 125) ?_; intro gb150 hg w5 hbox hb; have n0_ := KB BK149 hb; have n1_ := Aside0.mk (below_step BL hb); have n2_ := Aside0.mk (hbox); have n3_ := Aside0.mk ((by rw [hg]; exact (below_size BL) : w.heap.size ≤ gb150)); have n4_ := Aside0.mk ((by rw [hg]; exact (below_size BL) : w.heap.size ≤ gb150)); have n5_ := Aside0.mk ((by rw [hg]; exact Nat.ne_of_lt (blk_lt (g := gb149) (o := .cells #[.int .i64 a0_0, .int .i64 a0_1, .string a0_2] 30 (0, 0)) BK) : gb149 ≠ gb150)); have n6_ := Aside0.mk ((by rw [hg]; exact Nat.ne_of_gt (blk_lt (g := gb149) (o := .cells #[.int .i64 a0_0, .int .i64 a0_1, .string a0_2] 30 (0, 0)) BK) : gb150 ≠ gb149)); clear BK149; clear HB; have BK149 := n0_; have HB := n1_; have BK150 := n2_; have GW150 := n3_; have GE150 := n4_; have NB149_150 := n5_; have NB150_149 := n6_; clear n0_ n1_ n2_ n3_ n4_ n5_ n6_; clear hb hbox hg) | ((with_reducible refine gate_dst (N := 9) rfl ?_); refine Kd.R_lit (Kd.int .i64) _ 3 ?hg (N := 9) ?hd (xs := ([] : List Int)) (inner := []) (ok := fun _ => True) (okp := fun _ => True) ?hr ?hp (fun _ hk => hk) trivial (Below.refl _ _) (Nat.le_refl _) (by simp) ?_; (case hd => rfl); (case hg => rfl); (case hr => first | (go_simp; done) | (go_simp; rfl)); (case hp => exact (Reps.none _ _)); intro v152 w6 ho7 hb hg_ hnew_; clear hg_ hnew_; (first | rw [← Ny151.out] at ho7 | (simp only [Int.reduceToNat] at ho7; rw [← Ny151.out] at ho7)); have n0_ := Aside0.mk (Kd.R_lower ho7 (below_size BL)); have n1_ := KB BK149 hb; have n2_ := KB BK150 hb; have n3_ := Aside0.mk (below_step BL hb); clear BK149; clear BK150; clear HB; have HO153 := n0_; have BK149 := n1_; have BK150 := n2_; have HB := n3_; clear n0_ n1_ n2_ n3_; clear hb ho7; have hnb8 := NB149_150.out; have hnc8 := NB150_149.out; obtain ⟨hcz9_0, hcz9_1, hcz9_2, hfz9_0, hfz9_1, hfz9_2⟩ := cz3 BK149.out) | (go_at_call 72; (with_reducible refine (spec_SlotsOf.calls k a0_0 a0_1 a0_2 t154 _ A3.out).mono ?_); rintro e w10 ⟨v155, rfl, ho0, hb⟩; have n0_ := Aside0.mk (Kd.R_below (RR HO153) hb); have n1_ := Aside0.mk (Kd.R_lower (Kd.R_newB ho0 (g := gb150) (o := .cells #[.int .i64 a1_0, .bool a1_1, .int .i64 a1_2, .int .i64 a1_3] 125 (0, 0)) BK) (below_size BL)); have n2_ := KB BK149 hb; have n3_ := KB BK150 hb; have n4_ := Aside0.mk (below_step BL hb); clear HO153; clear BK149; clear BK150; clear HB; have HO153 := n0_; have HO156 := n1_; have BK149 := n2_; have BK150 := n3_; have HB := n4_; clear n0_ n1_ n2_ n3_ n4_; (try clear hb); (try clear hk); (try clear ho0)))
 repeat (go_quiet (first | ((with_reducible refine gate_dst (N := 2) rfl ?_); refine box_ev (N := 2) (cs := #[.int .i64 a0_0, .int .i64 a0_1, .string a0_2]) (t := 30) ?_; intro gb149 hg w4 hbox hb; have n0_ := Aside0.mk (below_step BL hb); have n1_ := Aside0.mk (hbox); have n2_ := Aside0.mk ((by rw [hg]; exact (below_size BL) : w.heap.size ≤ gb149)); have n3_ := Aside0.mk ((by rw [hg]; exact (below_size BL) : w.heap.size ≤ gb149)); clear HB; have HB := n0_; have BK149 := n1_; have GW149 := n2_; have GE149 := n3_; clear n0_ n1_ n2_ n3_; clear hb hbox hg) | ((with_reducible refine gate_dst (N := 3) rfl ?_); refine box_ev (N := 3) (cs := #[.int .i64 a1_0, .bool a1_1, .int .i64 a1_2, .int .i64 a1_3]) (t := 125) ?_; intro gb150 hg w5 hbox hb; have n0_ := KB BK149 hb; have n1_ := Aside0.mk (below_step BL hb); have n2_ := Aside0.mk (hbox); have n3_ := Aside0.mk ((by rw [hg]; exact (below_size BL) : w.heap.size ≤ gb150)); have n4_ := Aside0.mk ((by rw [hg]; exact (below_size BL) : w.heap.size ≤ gb150)); have n5_ := Aside0.mk ((by rw [hg]; exact Nat.ne_of_lt (blk_lt (g := gb149) (o := .cells #[.int .i64 a0_0, .int .i64 a0_1, .string a0_2] 30 (0, 0)) BK) : gb149 ≠ gb150)); have n6_ := Aside0.mk ((by rw [hg]; exact Nat.ne_of_gt (blk_lt (g := gb149) (o := .cells #[.int .i64 a0_0, .int .i64 a0_1, .string a0_2] 30 (0, 0)) BK) : gb150 ≠ gb149)); clear BK149; clear HB; have BK149 := n0_; have HB := n1_; have BK150 := n2_; have GW150 := n3_; have GE150 := n4_; have NB149_150 := n5_; have NB150_149 := n6_; clear n0_ n1_ n2_ n3_ n4_ n5_ n6_; clear hb hbox hg) | ((with_reducible refine gate_dst (N := 9) rfl ?_); refine Kd.R_lit (Kd.int .i64) _ 3 ?hg (N := 9) ?hd (xs := ([] : List Int)) (inner := []) (ok := fun _ => True) (okp := fun _ => True) ?hr ?hp (fun _ hk => hk) trivial (Below.refl _ _) (Nat.le_refl _) (by simp) ?_; (case hd => rfl); (case hg => rfl); (case hr => first | (go_simp; done) | (go_simp; rfl)); (case hp => exact (Reps.none _ _)); intro v152 w6 ho7 hb hg_ hnew_; clear hg_ hnew_; (first | rw [← Ny151.out] at ho7 | (simp only [Int.reduceToNat] at ho7; rw [← Ny151.out] at ho7)); have n0_ := Aside0.mk (Kd.R_lower ho7 (below_size BL)); have n1_ := KB BK149 hb; have n2_ := KB BK150 hb; have n3_ := Aside0.mk (below_step BL hb); clear BK149; clear BK150; clear HB; have HO153 := n0_; have BK149 := n1_; have BK150 := n2_; have HB := n3_; clear n0_ n1_ n2_ n3_; clear hb ho7; have hnb8 := NB149_150.out; have hnc8 := NB150_149.out; obtain ⟨hcz9_0, hcz9_1, hcz9_2, hfz9_0, hfz9_1, hfz9_2⟩ := cz3 BK149.out) | (go_at_call 72; (with_reducible refine (spec_SlotsOf.calls k a0_0 a0_1 a0_2 t154 _ A3.out).mono ?_); rintro e w10 ⟨v155, rfl, ho0, hb⟩; have n0_ := Aside0.mk (Kd.R_below (RR HO153) hb); have n1_ := Aside0.mk (Kd.R_lower (Kd.R_newB ho0 (g := gb150) (o := .cells #[.int .i64 a1_0, .bool a1_1, .int .i64 a1_2, .int .i64 a1_3] 125 (0, 0)) BK) (below_size BL)); have n2_ := KB BK149 hb; have n3_ := KB BK150 hb; have n4_ := Aside0.mk (below_step BL hb); clear HO153; clear BK149; clear BK150; clear HB; have HO153 := n0_; have HO156 := n1_; have BK149 := n2_; have BK150 := n3_; have HB := n4_; clear n0_ n1_ n2_ n3_ n4_; (try clear hb); (try clear hk); (try clear ho0))); try go_wp2_with (first | ((with_reducible refine gate_dst (N := 2) rfl ?_); refine box_ev (N := 2) (cs := #[.int .i64 a0_0, .int .i64 a0_1, .string a0_2]) (t := 30) ?_; intro gb149 hg w4 hbox hb; have n0_ := Aside0.mk (below_step BL hb); have n1_ := Aside0.mk (hbox); have n2_ := Aside0.mk ((by rw [hg]; exact (below_size BL) : w.heap.size ≤ gb149)); have n3_ := Aside0.mk ((by rw [hg]; exact (below_size BL) : w.heap.size ≤ gb149)); clear HB; have HB := n0_; have BK149 := n1_; have GW149 := n2_; have GE149 := n3_; clear n0_ n1_ n2_ n3_; clear hb hbox hg) | ((with_reducible refine gate_dst (N := 3) rfl ?_); refine box_ev (N := 3) (cs := #[.int .i64 a1_0, .bool a1_1, .int .i64 a1_2, .int .i64 a1_3]) (t := 125) ?_; intro gb150 hg w5 hbox hb; have n0_ := KB BK149 hb; have n1_ := Aside0.mk (below_step BL hb); have n2_ := Aside0.mk (hbox); have n3_ := Aside0.mk ((by rw [hg]; exact (below_size BL) : w.heap.size ≤ gb150)); have n4_ := Aside0.mk ((by rw [hg]; exact (below_size BL) : w.heap.size ≤ gb150)); have n5_ := Aside0.mk ((by rw [hg]; exact Nat.ne_of_lt (blk_lt (g := gb149) (o := .cells #[.int .i64 a0_0, .int .i64 a0_1, .string a0_2] 30 (0, 0)) BK) : gb149 ≠ gb150)); have n6_ := Aside0.mk ((by rw [hg]; exact Nat.ne_of_gt (blk_lt (g := gb149) (o := .cells #[.int .i64 a0_0, .int .i64 a0_1, .string a0_2] 30 (0, 0)) BK) : gb150 ≠ gb149)); clear BK149; clear HB; have BK149 := n0_; have HB := n1_; have BK150 := n2_; have GW150 := n3_; have GE150 := n4_; have NB149_150 := n5_; have NB150_149 := n6_; clear n0_ n1_ n2_ n3_ n4_ n5_ n6_; clear hb hbox hg) | ((with_reducible refine gate_dst (N := 9) rfl ?_); refine Kd.R_lit (Kd.int .i64) _ 3 ?hg (N := 9) ?hd (xs := ([] : List Int)) (inner := []) (ok := fun _ => True) (okp := fun _ => True) ?hr ?hp (fun _ hk => hk) trivial (Below.refl _ _) (Nat.le_refl _) (by simp) ?_; (case hd => rfl); (case hg => rfl); (case hr => first | (go_simp; done) | (go_simp; rfl)); (case hp => exact (Reps.none _ _)); intro v152 w6 ho7 hb hg_ hnew_; clear hg_ hnew_; (first | rw [← Ny151.out] at ho7 | (simp only [Int.reduceToNat] at ho7; rw [← Ny151.out] at ho7)); have n0_ := Aside0.mk (Kd.R_lower ho7 (below_size BL)); have n1_ := KB BK149 hb; have n2_ := KB BK150 hb; have n3_ := Aside0.mk (below_step BL hb); clear BK149; clear BK150; clear HB; have HO153 := n0_; have BK149 := n1_; have BK150 := n2_; have HB := n3_; clear n0_ n1_ n2_ n3_; clear hb ho7; have hnb8 := NB149_150.out; have hnc8 := NB150_149.out; obtain ⟨hcz9_0, hcz9_1, hcz9_2, hfz9_0, hfz9_1, hfz9_2⟩ := cz3 BK149.out) | (go_at_call 72; (with_reducible refine (spec_SlotsOf.calls k a0_0 a0_1 a0_2 t154 _ A3.out).mono ?_); rintro e w10 ⟨v155, rfl, ho0, hb⟩; have n0_ := Aside0.mk (Kd.R_below (RR HO153) hb); have n1_ := Aside0.mk (Kd.R_lower (Kd.R_newB ho0 (g := gb150) (o := .cells #[.int .i64 a1_0, .bool a1_1, .int .i64 a1_2, .int .i64 a1_3] 125 (0, 0)) BK) (below_size BL)); have n2_ := KB BK149 hb; have n3_ := KB BK150 hb; have n4_ := Aside0.mk (below_step BL hb); clear HO153; clear BK149; clear BK150; clear HB; have HO153 := n0_; have HO156 := n1_; have BK149 := n2_; have BK150 := n3_; have HB := n4_; clear n0_ n1_ n2_ n3_ n4_; (try clear hb); (try clear hk); (try clear ho0))))
 go_loopg [5, 7] k (fun kq v5 v7 w' => ∃ (x5_1 : List Int) (x7_1 : Int), v7 = .int .i64 x7_1 ∧ Aside0 (spec_CellsOf.l0 kq x5_1 t154 x7_1 a0_0 a0_1 a0_2 a1_0 a1_1 a1_2 a1_3 = some r) ∧ Aside0 (kq ≤ k) ∧ Aside0 (Kd.R (Kd.int .i64) 3 w' w.heap.size (fun _ => True) v5 x5_1) ∧ Aside0 (Kd.R k125 125 w' w.heap.size (fun k_ => k_ ≠ gb150) v155 t154) ∧ Aside0 (w'.heap[gb149]? = some (.cells #[.int .i64 a0_0, .int .i64 a0_1, .string a0_2] 30 (0, 0))) ∧ Aside0 (w'.heap[gb150]? = some (.cells #[.int .i64 a1_0, .bool a1_1, .int .i64 a1_2, .int .i64 a1_3] 125 (0, 0))) ∧ Aside0 (Below w.heap.size w w'))
 case atStart => exact ⟨(y151), (0), EQ, H', ⟨Nat.le_refl _⟩, ⟨(RR HO153)⟩, ⟨by (with_reducible repeat (first | apply Kd.R_alloc | apply Kd.R_drewN | apply Kd.R_drew)); exact Kd.R_mono HO156.out (fun _ hk => hk.2)⟩, ⟨BK⟩, ⟨BK⟩, ⟨BL⟩⟩
 case round =>
  clear H'
  try clear hcz9_0
  try clear hcz9_1
  try clear hcz9_2
  try clear hfz9_0
  try clear hfz9_1
  try clear hfz9_2
  obtain ⟨x5_1, x7_1, rfl, HA, HK1, HO_5, HO_6, BK149, BK150, HB⟩ := hrel
  cases gk with
  | zero => exact absurd HA.out (by simp [spec_CellsOf.l0])
  | succ k1 =>
   have H := HA.out
   clear HA
   simp only [spec_CellsOf.l0] at H
   by_cases c11 : x7_1 < (t154.length : Int)
   ·rw [if_pos c11] at H
    have c11b0 : decide (x7_1 < (t154.length : Int)) = true := decide_eq_true c11
    clear c11
    by_cases c12 : 0 ≤ x7_1
    ·rw [if_pos c12] at H
     have c12b0 : decide (0 ≤ x7_1) = true := decide_eq_true c12
     clear c12
     by_cases c13 : (!(((rd_T125 t154 x7_1).f0) == a1_0) || (!(((rd_T125 t154 x7_1).f1) == a1_1) || (!(((rd_T125 t154 x7_1).f2) == a1_2) || (!(((rd_T125 t154 x7_1).f3) == a1_3))))) = true
     ·rw [if_pos c13] at H
      have c13b0 : (!(((rd_T125 t154 x7_1).f0) == a1_0) || (!(((rd_T125 t154 x7_1).f1) == a1_1) || (!(((rd_T125 t154 x7_1).f2) == a1_2) || (!(((rd_T125 t154 x7_1).f3) == a1_3))))) = true := c13
      clear c13
      have H' := Aside0.mk H
      clear H
      obtain ⟨Ao14, co14, eo14⟩ := Kd.R_slice HO_6.out
      subst eo14
      have p157 : 0 ≤ (x7_1 : Int) := OD
      have q157 : x7_1 < (t154.length : Int) := OD
      obtain ⟨ad157, e157, hx157_0, hx157_1, hx157_2, hx157_3⟩ := at_T125 (Kd.R_reads' HO_6.out).2.2 x7_1 p157 q157
      cases e157
      replace p157 := eq_true p157
      replace q157 := eq_true q157
      have hnb15 := NB150_149.out
      have hnc15 := NB149_150.out
      obtain ⟨hcz16_0, hcz16_1, hcz16_2, hcz16_3, hfz16_0, hfz16_1, hfz16_2, hfz16_3⟩ := cz4 BK150.out
      go_wp2
      repeat (go_quiet (fail); try go_wp2)
      go_roundg k1
      case measure => have := HK1.out; omega
      case rel => exact ⟨(x5_1), (wrap64 (x7_1 + 1)), EQ, H', ⟨by have := HK1.out; omega⟩, ⟨(RR HO_5)⟩, ⟨(RR HO_6)⟩, ⟨BK⟩, ⟨BK⟩, ⟨BL⟩⟩
     ·rw [if_neg c13] at H
      have c13b0 : (!(((rd_T125 t154 x7_1).f0) == a1_0) || (!(((rd_T125 t154 x7_1).f1) == a1_1) || (!(((rd_T125 t154 x7_1).f2) == a1_2) || (!(((rd_T125 t154 x7_1).f3) == a1_3))))) = false := by simpa using c13
      clear c13
      have H' := Aside0.mk H
      clear H
      obtain ⟨Ao17, co17, eo17⟩ := Kd.R_slice HO_6.out
      subst eo17
      have p157 : 0 ≤ (x7_1 : Int) := OD
      have q157 : x7_1 < (t154.length : Int) := OD
      obtain ⟨ad157, e157, hx157_0, hx157_1, hx157_2, hx157_3⟩ := at_T125 (Kd.R_reads' HO_6.out).2.2 x7_1 p157 q157
      cases e157
      replace p157 := eq_true p157
      replace q157 := eq_true q157
      have hnb18 := NB150_149.out
      have hnc18 := NB149_150.out
      obtain ⟨hcz19_0, hcz19_1, hcz19_2, hcz19_3, hfz19_0, hfz19_1, hfz19_2, hfz19_3⟩ := cz4 BK150.out
      go_wp2
      repeat (go_quiet (fail); try go_wp2)
      go_loopg [5, 8] k1 (fun kq v5 v8 w' => ∃ (x5_2 : List Int) (x8_2 : Int), v8 = .int .i64 x8_2 ∧ Aside0 (spec_CellsOf.l1 kq x5_2 t154 x7_1 x8_2 a0_0 a0_1 a0_2 a1_0 a1_1 a1_2 a1_3 = some r) ∧ Aside0 (kq ≤ k1) ∧ Aside0 (Kd.R (Kd.int .i64) 3 w' w.heap.size (fun _ => True) v5 x5_2) ∧ Aside0 (Kd.R k125 125 w' w.heap.size (fun k_ => k_ ≠ gb150) (.slice (some ad157) t154.length co17) t154) ∧ Aside0 (w'.heap[gb149]? = some (.cells #[.int .i64 a0_0, .int .i64 a0_1, .string a0_2] 30 (0, 0))) ∧ Aside0 (w'.heap[gb150]? = some (.cells #[.int .i64 a1_0, .bool a1_1, .int .i64 a1_2, .int .i64 a1_3] 125 (0, 0))) ∧ Aside0 (Below w.heap.size w w'))
      case atStart => exact ⟨(x5_1), (0), EQ, H', ⟨Nat.le_refl _⟩, ⟨(RR HO_5)⟩, ⟨(RR HO_6)⟩, ⟨BK⟩, ⟨BK⟩, ⟨BL⟩⟩
      case round =>
       clear H'
       try clear c11
       try clear c11b0
       try clear c12
       try clear c12b0
       try clear c13
       try clear c13b0
       try clear hcz19_0
       try clear hcz19_1
       try clear hcz19_2
       try clear hcz19_3
       try clear hcz9_0
       try clear hcz9_1
       try clear hcz9_2
       try clear hfz19_0
       try clear hfz19_1
       try clear hfz19_2
       try clear hfz19_3
       try clear hfz9_0
       try clear hfz9_1
       try clear hfz9_2
       try clear hx157_0
       try clear hx157_1
       try clear hx157_2
       try clear hx157_3
       try clear p157
       try clear q157
       obtain ⟨x5_2, x8_2, rfl, HA, HK2, HO_5, HO_6, BK149, BK150, HB⟩ := hrel
       cases gk with
       | zero => exact absurd HA.out (by simp [spec_CellsOf.l1])
       | succ k2 =>
        have H := HA.out
        clear HA
        simp only [spec_CellsOf.l1] at H
        by_cases c20 : x8_2 < a1_3
        ·rw [if_pos c20] at H
         have c20b0 : decide (x8_2 < a1_3) = true := decide_eq_true c20
         clear c20
         by_cases c21 : a1_1 = true
         ·subst c21
          have H1 : (if x5_2.length < 17592186044416 then (spec_CellsOf.l1 k2 (x5_2 ++ [wrap64 (a1_2 + (wrap64 (x8_2 * a0_1)))]) t154 x7_1 (wrap64 (x8_2 + 1)) a0_0 a0_1 a0_2 a1_0 true a1_2 a1_3) else (none)) = some r := by rw [if_pos rfl] at H; exact H
          clear H
          have H := H1
          clear H1
          by_cases c22 : x5_2.length < 17592186044416
          ·rw [if_pos c22] at H
           have LMc22 := Aside0.mk c22
           clear c22
           obtain ⟨y158, hy158⟩ : ∃ y_ : List Int, y_ = (x5_2 ++ [wrap64 (a1_2 + (wrap64 (x8_2 * a0_1)))]) := ⟨_, rfl⟩
           replace H : (spec_CellsOf.l1 k2 y158 t154 x7_1 (wrap64 (x8_2 + 1)) a0_0 a0_1 a0_2 a1_0 true a1_2 a1_3) = some r := by first | (rw [hy158]; with_reducible exact H) | (have H2_ := (Option.bind_some _ _).symm.trans H; rw [hy158]; with_reducible exact H2_) | (have H2_ := (Option.bind_some _ _).symm.trans H; with_reducible exact H2_) | with_reducible exact H | (rw [hy158]; exact H) | exact H
           have Ny158 := Aside0.mk hy158
           clear hy158
           have H' := Aside0.mk H
           clear H
           have hnb23 := NB150_149.out
           have hnc23 := NB149_150.out
           obtain ⟨hcz24_0, hcz24_1, hcz24_2, hcz24_3, hfz24_0, hfz24_1, hfz24_2, hfz24_3⟩ := cz4 BK150.out
           obtain ⟨hcz25_0, hcz25_1, hcz25_2, hfz25_0, hfz25_1, hfz25_2⟩ := cz3 BK149.out
           go_wp2_with (first | ((with_reducible refine gate_builtin (b := .append) (xs := #[.tmp 32, .tmp 40]) rfl ?_); at_builtin; refine Kd.R_append (Kd.int .i64) (w0 := w) w.heap.size rfl (.tmp 32) (.tmp 40) 25 3 (.int .i64 0) 8 rfl Try.underlying25 info3 rfl (by decide) (by omega) u5 x5_2 (wrap64 (a1_2 + (wrap64 (x8_2 * a0_1)))) [.int .i64 (wrap64 (a1_2 + (wrap64 (x8_2 * a0_1))))] (fun _ => True) (fun _ => False) rfl rfl ?aP (fun _ hk => hk.elim) ?aF ?aO ?aB ?aS ?aL ?_; (case aP => exact rfl); (case aB => exact BL); (case aF => exact (fun _ _ => trivial)); (case aO => exact (RR HO_5)); (case aS => exact (below_size BL)); (case aL => have := LMc22.out; omega); intro v159 w26 ho hb hg hat; rw [← Ny158.out] at ho; have n0_ := Aside0.mk (Kd.R_over' (RR HO_6) (Kd.R_typed (RR HO_5)) (by decide) hg); have n1_ := Aside0.mk (blk_grown (g := gb149) (o := .cells #[.int .i64 a0_0, .int .i64 a0_1, .string a0_2] 30 (0, 0)) BK hg (Kd.R_ne HO_5.out BK149.out (by decide))); have n2_ := Aside0.mk (blk_grown (g := gb150) (o := .cells #[.int .i64 a1_0, .bool true, .int .i64 a1_2, .int .i64 a1_3] 125 (0, 0)) BK hg (Kd.R_ne HO_5.out BK150.out (by decide))); have n3_ := Aside0.mk (hb); have n4_ := Aside0.mk (ho); clear HO_6; clear BK149; clear BK150; clear HB; clear HO_5; have HO_6 := n0_; have BK149 := n1_; have BK150 := n2_; have HB := n3_; have HO160 := n4_; clear n0_ n1_ n2_ n3_ n4_; clear ho hb hg hat))
           repeat (go_quiet (first | ((with_reducible refine gate_builtin (b := .append) (xs := #[.tmp 32, .tmp 40]) rfl ?_); at_builtin; refine Kd.R_append (Kd.int .i64) (w0 := w) w.heap.size rfl (.tmp 32) (.tmp 40) 25 3 (.int .i64 0) 8 rfl Try.underlying25 info3 rfl (by decide) (by omega) u5 x5_2 (wrap64 (a1_2 + (wrap64 (x8_2 * a0_1)))) [.int .i64 (wrap64 (a1_2 + (wrap64 (x8_2 * a0_1))))] (fun _ => True) (fun _ => False) rfl rfl ?aP (fun _ hk => hk.elim) ?aF ?aO ?aB ?aS ?aL ?_; (case aP => exact rfl); (case aB => exact BL); (case aF => exact (fun _ _ => trivial)); (case aO => exact (RR HO_5)); (case aS => exact (below_size BL)); (case aL => have := LMc22.out; omega); intro v159 w26 ho hb hg hat; rw [← Ny158.out] at ho; have n0_ := Aside0.mk (Kd.R_over' (RR HO_6) (Kd.R_typed (RR HO_5)) (by decide) hg); have n1_ := Aside0.mk (blk_grown (g := gb149) (o := .cells #[.int .i64 a0_0, .int .i64 a0_1, .string a0_2] 30 (0, 0)) BK hg (Kd.R_ne HO_5.out BK149.out (by decide))); have n2_ := Aside0.mk (blk_grown (g := gb150) (o := .cells #[.int .i64 a1_0, .bool true, .int .i64 a1_2, .int .i64 a1_3] 125 (0, 0)) BK hg (Kd.R_ne HO_5.out BK150.out (by decide))); have n3_ := Aside0.mk (hb); have n4_ := Aside0.mk (ho); clear HO_6; clear BK149; clear BK150; clear HB; clear HO_5; have HO_6 := n0_; have BK149 := n1_; have BK150 := n2_; have HB := n3_; have HO160 := n4_; clear n0_ n1_ n2_ n3_ n4_; clear ho hb hg hat)); try go_wp2_with (first | ((with_reducible refine gate_builtin (b := .append) (xs := #[.tmp 32, .tmp 40]) rfl ?_); at_builtin; refine Kd.R_append (Kd.int .i64) (w0 := w) w.heap.size rfl (.tmp 32) (.tmp 40) 25 3 (.int .i64 0) 8 rfl Try.underlying25 info3 rfl (by decide) (by omega) u5 x5_2 (wrap64 (a1_2 + (wrap64 (x8_2 * a0_1)))) [.int .i64 (wrap64 (a1_2 + (wrap64 (x8_2 * a0_1))))] (fun _ => True) (fun _ => False) rfl rfl ?aP (fun _ hk => hk.elim) ?aF ?aO ?aB ?aS ?aL ?_; (case aP => exact rfl); (case aB => exact BL); (case aF => exact (fun _ _ => trivial)); (case aO => exact (RR HO_5)); (case aS => exact (below_size BL)); (case aL => have := LMc22.out; omega); intro v159 w26 ho hb hg hat; rw [← Ny158.out] at ho; have n0_ := Aside0.mk (Kd.R_over' (RR HO_6) (Kd.R_typed (RR HO_5)) (by decide) hg); have n1_ := Aside0.mk (blk_grown (g := gb149) (o := .cells #[.int .i64 a0_0, .int .i64 a0_1, .string a0_2] 30 (0, 0)) BK hg (Kd.R_ne HO_5.out BK149.out (by decide))); have n2_ := Aside0.mk (blk_grown (g := gb150) (o := .cells #[.int .i64 a1_0, .bool true, .int .i64 a1_2, .int .i64 a1_3] 125 (0, 0)) BK hg (Kd.R_ne HO_5.out BK150.out (by decide))); have n3_ := Aside0.mk (hb); have n4_ := Aside0.mk (ho); clear HO_6; clear BK149; clear BK150; clear HB; clear HO_5; have HO_6 := n0_; have BK149 := n1_; have BK150 := n2_; have HB := n3_; have HO160 := n4_; clear n0_ n1_ n2_ n3_ n4_; clear ho hb hg hat)))
           go_roundg k2
           case measure => have := HK1.out; have := HK2.out; omega
           case rel => exact ⟨(y158), (wrap64 (x8_2 + 1)), EQ, H', ⟨by have := HK1.out; have := HK2.out; omega⟩, ⟨(RR HO160)⟩, ⟨(RR HO_6)⟩, ⟨BK⟩, ⟨BK⟩, ⟨BL⟩⟩
          ·rw [if_neg c22] at H
           exact absurd H (by simp)
         ·replace c21 := Bool.eq_false_iff.mpr c21
          subst c21
          have H1 : (if x5_2.length < 17592186044416 then (spec_CellsOf.l1 k2 (x5_2 ++ [wrap64 (a1_2 + x8_2)]) t154 x7_1 (wrap64 (x8_2 + 1)) a0_0 a0_1 a0_2 a1_0 false a1_2 a1_3) else (none)) = some r := by rw [if_neg (show ¬ (false = true) by decide)] at H; exact H
          clear H
          have H := H1
          clear H1
          by_cases c27 : x5_2.length < 17592186044416
          ·rw [if_pos c27] at H
           have LMc27 := Aside0.mk c27
           clear c27
           obtain ⟨y161, hy161⟩ : ∃ y_ : List Int, y_ = (x5_2 ++ [wrap64 (a1_2 + x8_2)]) := ⟨_, rfl⟩
           replace H : (spec_CellsOf.l1 k2 y161 t154 x7_1 (wrap64 (x8_2 + 1)) a0_0 a0_1 a0_2 a1_0 false a1_2 a1_3) = some r := by first | (rw [hy161]; with_reducible exact H) | (have H2_ := (Option.bind_some _ _).symm.trans H; rw [hy161]; with_reducible exact H2_) | (have H2_ := (Option.bind_some _ _).symm.trans H; with_reducible exact H2_) | with_reducible exact H | (rw [hy161]; exact H) | exact H
           have Ny161 := Aside0.mk hy161
           clear hy161
           have H' := Aside0.mk H
           clear H
           have hnb28 := NB150_149.out
           have hnc28 := NB149_150.out
           obtain ⟨hcz29_0, hcz29_1, hcz29_2, hcz29_3, hfz29_0, hfz29_1, hfz29_2, hfz29_3⟩ := cz4 BK150.out
           go_wp2_with (first | ((with_reducible refine gate_builtin (b := .append) (xs := #[.tmp 42, .tmp 47]) rfl ?_); at_builtin; refine Kd.R_append (Kd.int .i64) (w0 := w) w.heap.size rfl (.tmp 42) (.tmp 47) 25 3 (.int .i64 0) 8 rfl Try.underlying25 info3 rfl (by decide) (by omega) u5 x5_2 (wrap64 (a1_2 + x8_2)) [.int .i64 (wrap64 (a1_2 + x8_2))] (fun _ => True) (fun _ => False) rfl rfl ?aP (fun _ hk => hk.elim) ?aF ?aO ?aB ?aS ?aL ?_; (case aP => exact rfl); (case aB => exact BL); (case aF => exact (fun _ _ => trivial)); (case aO => exact (RR HO_5)); (case aS => exact (below_size BL)); (case aL => have := LMc27.out; omega); intro v162 w30 ho hb hg hat; rw [← Ny161.out] at ho; have n0_ := Aside0.mk (Kd.R_over' (RR HO_6) (Kd.R_typed (RR HO_5)) (by decide) hg); have n1_ := Aside0.mk (blk_grown (g := gb149) (o := .cells #[.int .i64 a0_0, .int .i64 a0_1, .string a0_2] 30 (0, 0)) BK hg (Kd.R_ne HO_5.out BK149.out (by decide))); have n2_ := Aside0.mk (blk_grown (g := gb150) (o := .cells #[.int .i64 a1_0, .bool false, .int .i64 a1_2, .int .i64 a1_3] 125 (0, 0)) BK hg (Kd.R_ne HO_5.out BK150.out (by decide))); have n3_ := Aside0.mk (hb); have n4_ := Aside0.mk (ho); clear HO_6; clear BK149; clear BK150; clear HB; clear HO_5; have HO_6 := n0_; have BK149 := n1_; have BK150 := n2_; have HB := n3_; have HO163 := n4_; clear n0_ n1_ n2_ n3_ n4_; clear ho hb hg hat))
           repeat (go_quiet (first | ((with_reducible refine gate_builtin (b := .append) (xs := #[.tmp 42, .tmp 47]) rfl ?_); at_builtin; refine Kd.R_append (Kd.int .i64) (w0 := w) w.heap.size rfl (.tmp 42) (.tmp 47) 25 3 (.int .i64 0) 8 rfl Try.underlying25 info3 rfl (by decide) (by omega) u5 x5_2 (wrap64 (a1_2 + x8_2)) [.int .i64 (wrap64 (a1_2 + x8_2))] (fun _ => True) (fun _ => False) rfl rfl ?aP (fun _ hk => hk.elim) ?aF ?aO ?aB ?aS ?aL ?_; (case aP => exact rfl); (case aB => exact BL); (case aF => exact (fun _ _ => trivial)); (case aO => exact (RR HO_5)); (case aS => exact (below_size BL)); (case aL => have := LMc27.out; omega); intro v162 w30 ho hb hg hat; rw [← Ny161.out] at ho; have n0_ := Aside0.mk (Kd.R_over' (RR HO_6) (Kd.R_typed (RR HO_5)) (by decide) hg); have n1_ := Aside0.mk (blk_grown (g := gb149) (o := .cells #[.int .i64 a0_0, .int .i64 a0_1, .string a0_2] 30 (0, 0)) BK hg (Kd.R_ne HO_5.out BK149.out (by decide))); have n2_ := Aside0.mk (blk_grown (g := gb150) (o := .cells #[.int .i64 a1_0, .bool false, .int .i64 a1_2, .int .i64 a1_3] 125 (0, 0)) BK hg (Kd.R_ne HO_5.out BK150.out (by decide))); have n3_ := Aside0.mk (hb); have n4_ := Aside0.mk (ho); clear HO_6; clear BK149; clear BK150; clear HB; clear HO_5; have HO_6 := n0_; have BK149 := n1_; have BK150 := n2_; have HB := n3_; have HO163 := n4_; clear n0_ n1_ n2_ n3_ n4_; clear ho hb hg hat)); try go_wp2_with (first | ((with_reducible refine gate_builtin (b := .append) (xs := #[.tmp 42, .tmp 47]) rfl ?_); at_builtin; refine Kd.R_append (Kd.int .i64) (w0 := w) w.heap.size rfl (.tmp 42) (.tmp 47) 25 3 (.int .i64 0) 8 rfl Try.underlying25 info3 rfl (by decide) (by omega) u5 x5_2 (wrap64 (a1_2 + x8_2)) [.int .i64 (wrap64 (a1_2 + x8_2))] (fun _ => True) (fun _ => False) rfl rfl ?aP (fun _ hk => hk.elim) ?aF ?aO ?aB ?aS ?aL ?_; (case aP => exact rfl); (case aB => exact BL); (case aF => exact (fun _ _ => trivial)); (case aO => exact (RR HO_5)); (case aS => exact (below_size BL)); (case aL => have := LMc27.out; omega); intro v162 w30 ho hb hg hat; rw [← Ny161.out] at ho; have n0_ := Aside0.mk (Kd.R_over' (RR HO_6) (Kd.R_typed (RR HO_5)) (by decide) hg); have n1_ := Aside0.mk (blk_grown (g := gb149) (o := .cells #[.int .i64 a0_0, .int .i64 a0_1, .string a0_2] 30 (0, 0)) BK hg (Kd.R_ne HO_5.out BK149.out (by decide))); have n2_ := Aside0.mk (blk_grown (g := gb150) (o := .cells #[.int .i64 a1_0, .bool false, .int .i64 a1_2, .int .i64 a1_3] 125 (0, 0)) BK hg (Kd.R_ne HO_5.out BK150.out (by decide))); have n3_ := Aside0.mk (hb); have n4_ := Aside0.mk (ho); clear HO_6; clear BK149; clear BK150; clear HB; clear HO_5; have HO_6 := n0_; have BK149 := n1_; have BK150 := n2_; have HB := n3_; have HO163 := n4_; clear n0_ n1_ n2_ n3_ n4_; clear ho hb hg hat)))
           go_roundg k2
           case measure => have := HK1.out; have := HK2.out; omega
           case rel => exact ⟨(y161), (wrap64 (x8_2 + 1)), EQ, H', ⟨by have := HK1.out; have := HK2.out; omega⟩, ⟨(RR HO163)⟩, ⟨(RR HO_6)⟩, ⟨BK⟩, ⟨BK⟩, ⟨BL⟩⟩
          ·rw [if_neg c27] at H
           exact absurd H (by simp)
        ·rw [if_neg c20] at H
         have c20b0 : decide (x8_2 < a1_3) = false := decide_eq_false c20
         clear c20
         have H' := Aside0.mk H
         clear H
         have hnb31 := NB150_149.out
         have hnc31 := NB149_150.out
         obtain ⟨hcz32_0, hcz32_1, hcz32_2, hcz32_3, hfz32_0, hfz32_1, hfz32_2, hfz32_3⟩ := cz4 BK150.out
         go_wp2
         repeat (go_quiet (fail); try go_wp2)
         go_roundg k2
         case measure => have := HK1.out; have := HK2.out; omega
         case rel => exact ⟨(x5_2), (wrap64 (x7_1 + 1)), EQ, H', ⟨by have := HK1.out; have := HK2.out; omega⟩, ⟨(RR HO_5)⟩, ⟨(RR HO_6)⟩, ⟨BK⟩, ⟨BK⟩, ⟨BL⟩⟩
    ·rw [if_neg c12] at H
     exact absurd H (by simp)
   ·rw [if_neg c11] at H
    have c11b0 : decide (x7_1 < (t154.length : Int)) = false := decide_eq_false c11
    clear c11
    obtain rfl := Option.some.inj H
    obtain ⟨Ao33, co33, eo33⟩ := Kd.R_slice HO_6.out
    subst eo33
    go_wp2
    repeat (go_quiet (fail); try go_wp2)
    go_ret
    exact ⟨_, by first | rfl | (simp [errW_none, errW_some] <;> rfl) | (simp [*, errW_none, errW_some] <;> rfl), (RR HO_5), BL⟩
mutual
def spec_SlotPattern.j0 : Nat → ByteArray → Int → List (S125) → Bool → Int → Int → ByteArray → Option (ByteArray)
 | 0, _, _, _, _, _, _, _ => none
 | k + 1, x1, x2, x7, x24, x165000, x165001, x165002 => if x24 = true then (some (⟨#[]⟩ : ByteArray)) else (if 0 ≤ x2 then (if x2 < (x7.length : Int) then ((spec_CellsOf.f k x165000 x165001 x165002 ((rd_T125 x7 x2).f0) ((rd_T125 x7 x2).f1) ((rd_T125 x7 x2).f2) ((rd_T125 x7 x2).f3)).bind fun t171 => (spec_SlotPattern.l0 k x1 (⟨#[]⟩ : ByteArray) t171 0)) else (none)) else (none))
def spec_SlotPattern.l0 : Nat → ByteArray → ByteArray → List Int → Int → Option (ByteArray)
 | 0, _, _, _, _ => none
 | k + 1, x1, x8, x9, x10 => if x10 < (x9.length : Int) then (if 0 ≤ x10 then (if 0 ≤ (rd x9 x10) then (if (rd x9 x10) ≤ (wrap64 ((rd x9 x10) + 1)) then (if (wrap64 ((rd x9 x10) + 1)) ≤ (x1.size : Int) then (if x8.size + (x1.extract ((rd x9 x10) : Int).toNat ((wrap64 ((rd x9 x10) + 1)) : Int).toNat).size ≤ 9223372036854775807 then (spec_SlotPattern.l0 k x1 (x8 ++ (x1.extract ((rd x9 x10) : Int).toNat ((wrap64 ((rd x9 x10) + 1)) : Int).toNat)) x9 (wrap64 (x10 + 1))) else (none)) else (none)) else (none)) else (none)) else (none)) else (some x8)
end
def spec_SlotPattern.f (k : Nat) (a0_0 : Int) (a0_1 : Int) (a0_2 : ByteArray) (a1 : ByteArray) (a2 : Int) : Option (ByteArray) := (spec_SlotsOf.f k a0_0 a0_1 a0_2).bind fun t165 => ((spec_IsFill.f k a0_0 a0_1 a0_2 a1).bind fun t168 => (if t168 = true then ((spec_l1In.f a2 0 (wrap64 ((t165.length : Int) - 1))).bind fun t169 => (spec_SlotPattern.j0 k a1 a2 t165 (!t169) a0_0 a0_1 a0_2)) else (spec_SlotPattern.j0 k a1 a2 t165 true a0_0 a0_1 a0_2)))
def spec_SlotPattern.T9 : Bool × List (List Nat × List Nat) := (true, [([], []), ([], []), ([], []), ([], []), ([2, 3], [2, 3]), ([4], [4]), ([], []), ([], []), ([6, 7], [6, 7]), ([8], [8]), ([9], [9]), ([1, 5, 10], [1, 5, 10]), ([0, 11], [0, 11]), ([12, 0, 1, 2, 3, 4, 5, 6, 7, 8, 9, 10, 11, 12], [0, 12])])
def spec_SlotPattern.B9 : List Nat := [0, 0, 0, 0, 12, 28, 0, 0, 192, 448, 960, 2046, 4095, 8191]
theorem spec_SlotPattern.tab9 : rtab .any (opsOf Try.f75 9) = spec_SlotPattern.T9 := by kernel_rfl
theorem spec_SlotPattern.bits9 : waitsOk spec_SlotPattern.T9.2 spec_SlotPattern.B9 = true := by kernel_rfl
set_option maxHeartbeats 8000000 in
set_option maxRecDepth 100000 in
theorem spec_SlotPattern.calls (k : Nat) (a0_0 : Int) (a0_1 : Int) (a0_2 : ByteArray) (a1 : ByteArray) (a2 : Int) (r : ByteArray) (w : World) (h : spec_SlotPattern.f k a0_0 a0_1 a0_2 a1 a2 = some r) :
  Calls Try.prog 75 #[.agg #[.int .i64 a0_0, .int .i64 a0_1, .string a0_2], .string a1, .int .i64 a2] w fun e w' => e = .returned (.string r) ∧ Below w.heap.size w w' := by
 have hu30 := Try.underlying30
 have hu125 := Try.underlying125
 have HB := Aside0.mk (Below.refl w.heap.size w)
 have H : ((spec_SlotsOf.f k a0_0 a0_1 a0_2).bind fun t165 => ((spec_IsFill.f k a0_0 a0_1 a0_2 a1).bind fun t168 => (if t168 = true then ((spec_l1In.f a2 0 (wrap64 ((t165.length : Int) - 1))).bind fun t169 => (spec_SlotPattern.j0 k a1 a2 t165 (!t169) a0_0 a0_1 a0_2)) else (spec_SlotPattern.j0 k a1 a2 t165 true a0_0 a0_1 a0_2)))) = some r := h
 clear h
 replace H := Option.bind_eq_some_iff.mp H
 obtain ⟨t165, A40, H⟩ := H
 replace H : ((spec_IsFill.f k a0_0 a0_1 a0_2 a1).bind fun t168 => (if t168 = true then ((spec_l1In.f a2 0 (wrap64 ((t165.length : Int) - 1))).bind fun t169 => (spec_SlotPattern.j0 k a1 a2 t165 (!t169) a0_0 a0_1 a0_2)) else (spec_SlotPattern.j0 k a1 a2 t165 true a0_0 a0_1 a0_2))) = some r := H
 have A4 := Aside0.mk A40
 clear A40
 have HC5 := Aside0.mk H
 clear H
 go_enter Try.func75, Try.ntmps75
 go_upto_region 2 with (first | ((with_reducible refine gate_dst (N := 3) rfl ?_); (try (refine gate_guard (by rfl) ?_; dsimp only)); refine box_ev (N := 3) (cs := #[.int .i64 a0_0, .int .i64 a0_1, .string a0_2]) (t := 30) ?_; intro gb164 hg w6 hbox hb; have n0_ := Aside0.mk (below_step BL hb); have n1_ := Aside0.mk (hbox); have n2_ := Aside0.mk ((by rw [hg]; exact (below_size BL) : w.heap.size ≤ gb164)); have n3_ := Aside0.mk ((by rw [hg]; exact (below_size BL) : w.heap.size ≤ gb164)); clear HB; have HB := n0_; have BK164 := n1_; have GW164 := n2_; have GE164 := n3_; clear n0_ n1_ n2_ n3_; clear hb hbox hg; obtain ⟨hcz7_0, hcz7_1, hcz7_2, hfz7_0, hfz7_1, hfz7_2⟩ := cz3 BK164.out) | ((with_reducible refine gate_callee (f := 72) rfl ?_); refine goesS (some 12) Try.func72 #[.agg #[.int .i64 a0_0, .int .i64 a0_1, .string a0_2]] ?_; (with_reducible refine (spec_SlotsOf.calls k a0_0 a0_1 a0_2 t165 _ A4.out).mono ?_); rintro e w8 ⟨v166, rfl, ho0, hb⟩; refine ⟨_, rfl, ?_⟩; have n0_ := Aside0.mk (Kd.R_lower ho0 (below_size BL)); have n1_ := KB BK164 hb; have n2_ := Aside0.mk (below_step BL hb); clear BK164; clear HB; have HO167 := n0_; have BK164 := n1_; have HB := n2_; clear n0_ n1_ n2_; (try clear hb); (try clear ho0)))
 (try simp only [Act.put, List.setIfInBounds_toArray, List.set_cons_zero, List.set_cons_succ])
 go_cut [24] (fun v24 wc => ∃ (kq : Nat) (x24_4 : Bool), v24 = .bool x24_4 ∧ Aside0 (spec_SlotPattern.j0 kq a1 a2 t165 x24_4 a0_0 a0_1 a0_2 = some r) ∧ Aside0 (kq ≤ k) ∧ Aside0 (Kd.R k125 125 wc w.heap.size (fun _ => True) v166 t165) ∧ Aside0 (wc.heap[gb164]? = some (.cells #[.int .i64 a0_0, .int .i64 a0_1, .string a0_2] 30 (0, 0))) ∧ Aside0 (Below w.heap.size w wc))
 case first =>
  have H := HC5.out
  clear HC5
  replace H := Option.bind_eq_some_iff.mp H
  obtain ⟨t168, A90, H⟩ := H
  replace H : (if t168 = true then ((spec_l1In.f a2 0 (wrap64 ((t165.length : Int) - 1))).bind fun t169 => (spec_SlotPattern.j0 k a1 a2 t165 (!t169) a0_0 a0_1 a0_2)) else (spec_SlotPattern.j0 k a1 a2 t165 true a0_0 a0_1 a0_2)) = some r := H
  have A9 := Aside0.mk A90
  clear A90
  by_cases c10 : t168 = true
  ·subst c10
   have H1 : ((spec_l1In.f a2 0 (wrap64 ((t165.length : Int) - 1))).bind fun t169 => (spec_SlotPattern.j0 k a1 a2 t165 (!t169) a0_0 a0_1 a0_2)) = some r := by rw [if_pos rfl] at H; exact H
   clear H
   have H := H1
   clear H1
   replace H := Option.bind_eq_some_iff.mp H
   obtain ⟨t169, A110, H⟩ := H
   replace H : (spec_SlotPattern.j0 k a1 a2 t165 (!t169) a0_0 a0_1 a0_2) = some r := H
   have A11 := Aside0.mk A110
   clear A110
   have H' := Aside0.mk H
   clear H
   obtain ⟨hcz12_0, hcz12_1, hcz12_2, hfz12_0, hfz12_1, hfz12_2⟩ := cz3 BK164.out
   go_wp2_with (first | ((with_reducible refine gate_callee (f := 73) rfl ?_); refine goesS (some 15) Try.func73 #[.agg #[.int .i64 a0_0, .int .i64 a0_1, .string a0_2], .string a1] ?_; (with_reducible refine (spec_IsFill.calls k a0_0 a0_1 a0_2 a1 true _ A9.out).mono ?_); rintro e w13 ⟨rfl, hb⟩; refine ⟨_, rfl, ?_⟩; have n0_ := Aside0.mk (Kd.R_below (RR HO167) hb); have n1_ := KB BK164 hb; have n2_ := Aside0.mk (below_step BL hb); clear HO167; clear BK164; clear HB; have HO167 := n0_; have BK164 := n1_; have HB := n2_; clear n0_ n1_ n2_; (try clear hb); obtain ⟨Ao14, co14, eo14⟩ := Kd.R_slice HO167.out; subst eo14) | (go_at_call 91; (with_reducible refine (spec_l1In.calls a2 0 (wrap64 ((t165.length : Int) - 1)) t169 _ A11.out).mono ?_); rintro e w' ⟨rfl, ⟨nd, rfl⟩⟩))
   go_meet
   case rel => exact ⟨_, (!t169), EQ, H', ⟨by first | omega | exact Nat.le_refl _⟩, ⟨(RR HO167)⟩, ⟨BK⟩, ⟨BL⟩⟩
  ·replace c10 := Bool.eq_false_iff.mpr c10
   subst c10
   have H1 : (spec_SlotPattern.j0 k a1 a2 t165 true a0_0 a0_1 a0_2) = some r := by rw [if_neg (show ¬ (false = true) by decide)] at H; exact H
   clear H
   have H := H1
   clear H1
   have H' := Aside0.mk H
   clear H
   obtain ⟨hcz15_0, hcz15_1, hcz15_2, hfz15_0, hfz15_1, hfz15_2⟩ := cz3 BK164.out
   go_wp2_with (first | ((with_reducible refine gate_callee (f := 73) rfl ?_); refine goesS (some 15) Try.func73 #[.agg #[.int .i64 a0_0, .int .i64 a0_1, .string a0_2], .string a1] ?_; (with_reducible refine (spec_IsFill.calls k a0_0 a0_1 a0_2 a1 false _ A9.out).mono ?_); rintro e w16 ⟨rfl, hb⟩; refine ⟨_, rfl, ?_⟩; have n0_ := Aside0.mk (Kd.R_below (RR HO167) hb); have n1_ := KB BK164 hb; have n2_ := Aside0.mk (below_step BL hb); clear HO167; clear BK164; clear HB; have HO167 := n0_; have BK164 := n1_; have HB := n2_; clear n0_ n1_ n2_; (try clear hb)))
   go_meet
   case rel => exact ⟨_, (true), EQ, H', ⟨by first | omega | exact Nat.le_refl _⟩, ⟨(RR HO167)⟩, ⟨BK⟩, ⟨BL⟩⟩
 case rest =>
  clear HC5
  try clear hcz7_0
  try clear hcz7_1
  try clear hcz7_2
  try clear hfz7_0
  try clear hfz7_1
  try clear hfz7_2
  obtain ⟨kq, x24_4, rfl, HA, HJ4, HO_7, BK164, HB⟩ := hcut
  cases kq with
  | zero => exact absurd HA.out (by simp [spec_SlotPattern.j0])
  | succ kj4 =>
   have H := HA.out
   clear HA
   simp only [spec_SlotPattern.j0] at H
   by_cases c17 : x24_4 = true
   ·subst c17
    have H1 : (some (⟨#[]⟩ : ByteArray)) = some r := by rw [if_pos rfl] at H; exact H
    clear H
    have H := H1
    clear H1
    obtain rfl := Option.some.inj H
    go_wp2
    go_ret
    exact ⟨by first | rfl | (simp [errW_none, errW_some] <;> rfl) | (simp [*, errW_none, errW_some] <;> rfl), BL⟩
   ·replace c17 := Bool.eq_false_iff.mpr c17
    subst c17
    have H1 : (if 0 ≤ a2 then (if a2 < (t165.length : Int) then ((spec_CellsOf.f kj4 a0_0 a0_1 a0_2 ((rd_T125 t165 a2).f0) ((rd_T125 t165 a2).f1) ((rd_T125 t165 a2).f2) ((rd_T125 t165 a2).f3)).bind fun t171 => (spec_SlotPattern.l0 kj4 a1 (⟨#[]⟩ : ByteArray) t171 0)) else (none)) else (none)) = some r := by rw [if_neg (show ¬ (false = true) by decide)] at H; exact H
    clear H
    have H := H1
    clear H1
    by_cases c18 : 0 ≤ a2
    ·rw [if_pos c18] at H
     have c18b0 : decide (0 ≤ a2) = true := decide_eq_true c18
     clear c18
     by_cases c19 : a2 < (t165.length : Int)
     ·rw [if_pos c19] at H
      have c19b0 : decide (a2 < (t165.length : Int)) = true := decide_eq_true c19
      clear c19
      replace H := Option.bind_eq_some_iff.mp H
      obtain ⟨t171, A200, H⟩ := H
      replace H : (spec_SlotPattern.l0 kj4 a1 (⟨#[]⟩ : ByteArray) t171 0) = some r := H
      have A20 := Aside0.mk A200
      clear A200
      have H' := Aside0.mk H
      clear H
      try go_wp2
      have n0_ := Aside0.mk (Kd.R_drew HO_7.out)
      have n1_ := Aside0.mk (blk_drew BK164.out)
      have n2_ := Aside0.mk (below_drew1 HB.out)
      clear HO_7
      clear BK164
      clear HB
      have HO_7 := n0_
      have BK164 := n1_
      have HB := n2_
      clear n0_ n1_ n2_
      obtain ⟨Ao22, co22, eo22⟩ := Kd.R_slice HO_7.out
      (first | subst eo22 | (injection eo22 with f1_ f2_ f3_; have f4_ := f1_.symm; have f5_ := f3_.symm; clear f1_ f2_ f3_; subst f4_; subst f5_))
      have p170 : 0 ≤ (a2 : Int) := OD
      have q170 : a2 < (t165.length : Int) := OD
      obtain ⟨ad170, e170, hx170_0, hx170_1, hx170_2, hx170_3⟩ := at_T125 (Kd.R_reads' HO_7.out).2.2 a2 p170 q170
      cases e170
      replace p170 := eq_true p170
      replace q170 := eq_true q170
      refine start_ (n := 7) (S := fun w' => w'.cell? ⟨gb164, 0, none⟩ = some (.int .i64 a0_0) ∧ w'.cell? ⟨gb164, 1, none⟩ = some (.int .i64 a0_1) ∧ w'.cell? ⟨gb164, 2, none⟩ = some (.string a0_2) ∧ w'.cell? (ad170.add ((a2).toNat * 4)) = some (.int .i64 ((rd_T125 t165 a2).f0)) ∧ w'.cell? ⟨(ad170.add ((a2).toNat * 4)).block, (ad170.add ((a2).toNat * 4)).off + 1, none⟩ = some (.bool ((rd_T125 t165 a2).f1)) ∧ w'.cell? ⟨(ad170.add ((a2).toNat * 4)).block, (ad170.add ((a2).toNat * 4)).off + 2, none⟩ = some (.int .i64 ((rd_T125 t165 a2).f2)) ∧ w'.cell? ⟨(ad170.add ((a2).toNat * 4)).block, (ad170.add ((a2).toNat * 4)).off + 3, none⟩ = some (.int .i64 ((rd_T125 t165 a2).f3))) (ds := []) #[false, false, false, false, false, false, false] (by kernel_rfl) rfl rfl ⟨(blk_cell BK164.out 0).trans rfl, (blk_cell BK164.out 1).trans rfl, (blk_cell BK164.out 2).trans rfl, hx170_0, hx170_1, hx170_2, hx170_3⟩ (fun hHeld => ?_)
      generalize wc.drew = w21 at HO_7 BK164 HB hx170_0 hx170_1 hx170_2 hx170_3 hHeld ⊢
      refine pure_ (i := 1) (N := some 26) (v := ?_) (a' := ?_) #[false, true, false, false, false, false, false] rfl rfl (by kernel_rfl) (fun _ _ _ h => h) (Or.inl ⟨by rfl, ?_⟩) ?_ ?_
      rotate_left
      ·intro w'
       go_simp
       with_reducible rfl
      rotate_left
      ·simp only [Act.put, List.setIfInBounds_toArray, List.set_cons_zero, List.set_cons_succ, i64_w, i32_w]
       rfl
      refine pure_ (i := 2) (N := some 27) (v := ?_) (a' := ?_) #[false, true, true, false, false, false, false] rfl rfl (by kernel_rfl) (fun _ _ _ h => h) (Or.inl ⟨by rfl, ?_⟩) ?_ ?_
      rotate_left
      ·intro w'
       go_simp
       with_reducible rfl
      rotate_left
      ·simp only [Act.put, List.setIfInBounds_toArray, List.set_cons_zero, List.set_cons_succ, i64_w, i32_w]
       rfl
      refine pure_ (i := 3) (N := some 28) (v := ?_) (a' := ?_) #[false, true, true, true, false, false, false] rfl rfl (by kernel_rfl) (fun _ _ _ h => h) (Or.inl ⟨by rfl, ?_⟩) ?_ ?_
      rotate_left
      ·intro w'
       go_simp
       with_reducible rfl
      rotate_left
      ·simp only [Act.put, List.setIfInBounds_toArray, List.set_cons_zero, List.set_cons_succ, i64_w, i32_w]
       rfl
      refine take_ (i := 0) (N := some 25) (v := ?_) (a' := ?_) #[true, true, true, true, false, false, false] rfl rfl (by kernel_rfl) (fun _ _ _ h => h) (Or.inl ⟨by rfl, ?_⟩) hHeld ?_ ?_
      rotate_left
      ·rintro w' ⟨s0, s1, s2, s3, s4, s5, s6⟩
       go_simp
       with_reducible rfl
      rotate_left
      ·simp only [Act.put, List.setIfInBounds_toArray, List.set_cons_zero, List.set_cons_succ, i64_w, i32_w]
       rfl
      refine take_ (i := 4) (N := some 29) (v := ?_) (a' := ?_) #[true, true, true, true, true, false, false] rfl rfl (by kernel_rfl) (fun _ _ _ h => h) (Or.inl ⟨by rfl, ?_⟩) hHeld ?_ ?_
      rotate_left
      ·rintro w' ⟨s0, s1, s2, s3, s4, s5, s6⟩
       go_simp
       with_reducible rfl
      rotate_left
      ·simp only [Act.put, List.setIfInBounds_toArray, List.set_cons_zero, List.set_cons_succ, i64_w, i32_w]
       rfl
      refine one_ (i := 5) (N := some 30) #[true, true, true, true, true, true, false] rfl rfl (by kernel_rfl) (by decide) (fun K hK => ?_)
      refine goes_ Try.func115 (by kernel_rfl) rfl #[.agg #[.int .i64 a0_0, .int .i64 a0_1, .string a0_2], .agg #[.int .i64 ((rd_T125 t165 a2).f0), .bool ((rd_T125 t165 a2).f1), .int .i64 ((rd_T125 t165 a2).f2), .int .i64 ((rd_T125 t165 a2).f3)]] (by rfl) rfl rfl (by (try simp only [List.map_toArray, List.map_cons, List.map_nil]); first | done | rfl | (simp only [List.length_drop, List.length_take]; rfl)) ?_
      with_reducible refine (spec_CellsOf.calls kj4 a0_0 a0_1 a0_2 ((rd_T125 t165 a2).f0) ((rd_T125 t165 a2).f1) ((rd_T125 t165 a2).f2) ((rd_T125 t165 a2).f3) t171 _ A20.out).mono ?_
      rintro e w23 ⟨v172, rfl, ho0, hb⟩
      have HS3_ := (hb.cell (World.block_lt_of_cell? _ _ (hHeld.2.2.2.1))).trans (hHeld.2.2.2.1)
      have HS4_ := (hb.cell (World.block_lt_of_cell? _ _ (hHeld.2.2.2.2.1))).trans (hHeld.2.2.2.2.1)
      have HS5_ := (hb.cell (World.block_lt_of_cell? _ _ (hHeld.2.2.2.2.2.1))).trans (hHeld.2.2.2.2.2.1)
      have HS6_ := (hb.cell (World.block_lt_of_cell? _ _ (hHeld.2.2.2.2.2.2))).trans (hHeld.2.2.2.2.2.2)
      refine ⟨_, rfl, ?_⟩
      have n0_ := Aside0.mk (Kd.R_below (RR HO_7) hb)
      have n1_ := Aside0.mk (Kd.R_lower ho0 (below_size BL))
      have n2_ := KB BK164 hb
      have n3_ := Aside0.mk (below_step BL hb)
      clear HO_7
      clear BK164
      clear HB
      have HO_7 := n0_
      have HO173 := n1_
      have BK164 := n2_
      have HB := n3_
      clear n0_ n1_ n2_ n3_
      (try clear hb)
      (try clear hb2)
      (try clear hk)
      (try clear hi)
      (try clear ho0)
      refine hK.out _ _ ⟨(blk_cell BK164.out 0).trans rfl, (blk_cell BK164.out 1).trans rfl, (blk_cell BK164.out 2).trans rfl, HS3_, HS4_, HS5_, HS6_⟩ (fun hHeld => ?_)
      clear hK K
      refine norm_ (a' := ?_) ?_ ?_
      rotate_left
      ·show Act.put _ (some 30) _ = _
       simp only [Act.put, List.setIfInBounds_toArray, List.set_cons_zero, List.set_cons_succ, i64_w, i32_w]
       rfl
      refine pure_ (i := 6) (N := some 9) (v := ?_) (a' := ?_) #[true, true, true, true, true, true, true] rfl rfl (by kernel_rfl) (fun _ _ _ h => h) (Or.inl ⟨by rfl, ?_⟩) ?_ ?_
      rotate_left
      ·intro w'
       go_simp
       with_reducible rfl
      rotate_left
      ·simp only [Act.put, List.setIfInBounds_toArray, List.set_cons_zero, List.set_cons_succ, i64_w, i32_w]
       rfl
      refine done_ (by kernel_rfl) ?_
      try go_wp2
      go_loopg [8, 10] kj4 (fun kq v8 v10 w' => ∃ (x8_2 : ByteArray) (x10_2 : Int), v8 = .string x8_2 ∧ v10 = .int .i64 x10_2 ∧ Aside0 (spec_SlotPattern.l0 kq a1 x8_2 t171 x10_2 = some r) ∧ Aside0 (kq ≤ kj4) ∧ Aside0 (Kd.R (Kd.int .i64) 3 w' w.heap.size (fun _ => True) v172 t171) ∧ Aside0 (w'.heap[gb164]? = some (.cells #[.int .i64 a0_0, .int .i64 a0_1, .string a0_2] 30 (0, 0))) ∧ Aside0 (Below w.heap.size w w'))
      case atStart => exact ⟨((⟨#[]⟩ : ByteArray)), (0), EQ, EQ, H', ⟨Nat.le_refl _⟩, ⟨(RR HO173)⟩, ⟨BK⟩, ⟨BL⟩⟩
      case round =>
       clear H'
       try clear c17
       try clear c18
       try clear c18b0
       try clear c19
       try clear c19b0
       try clear hcz7_0
       try clear hcz7_1
       try clear hcz7_2
       try clear hfz7_0
       try clear hfz7_1
       try clear hfz7_2
       try clear hx170_0
       try clear hx170_1
       try clear hx170_2
       try clear hx170_3
       try clear p170
       try clear q170
       obtain ⟨x8_2, x10_2, rfl, rfl, HA, HK2, HO_9, BK164, HB⟩ := hrel
       cases gk with
       | zero => exact absurd HA.out (by simp [spec_SlotPattern.l0])
       | succ k2 =>
        have H := HA.out
        clear HA
        simp only [spec_SlotPattern.l0] at H
        by_cases c24 : x10_2 < (t171.length : Int)
        ·rw [if_pos c24] at H
         have c24b0 : decide (x10_2 < (t171.length : Int)) = true := decide_eq_true c24
         clear c24
         by_cases c25 : 0 ≤ x10_2
         ·rw [if_pos c25] at H
          have c25b0 : decide (0 ≤ x10_2) = true := decide_eq_true c25
          clear c25
          by_cases c26 : 0 ≤ (rd t171 x10_2)
          ·rw [if_pos c26] at H
           have c26b0 := eq_true c26
           have c26b1 : decide (0 ≤ (rd t171 x10_2)) = true := decide_eq_true c26
           clear c26
           by_cases c27 : (rd t171 x10_2) ≤ (wrap64 ((rd t171 x10_2) + 1))
           ·rw [if_pos c27] at H
            have c27b0 := eq_true c27
            have c27b1 : decide ((rd t171 x10_2) ≤ (wrap64 ((rd t171 x10_2) + 1))) = true := decide_eq_true c27
            by_cases c28 : (wrap64 ((rd t171 x10_2) + 1)) ≤ (a1.size : Int)
            ·rw [if_pos c28] at H
             have c28b0 := eq_true c28
             have c28b1 : decide ((wrap64 ((rd t171 x10_2) + 1)) ≤ (a1.size : Int)) = true := decide_eq_true c28
             by_cases c29 : x8_2.size + (a1.extract ((rd t171 x10_2) : Int).toNat ((wrap64 ((rd t171 x10_2) + 1)) : Int).toNat).size ≤ 9223372036854775807
             ·rw [if_pos c29] at H
              have c29b0 := eq_true c29
              have c29b1 : decide (x8_2.size + (a1.extract ((rd t171 x10_2) : Int).toNat ((wrap64 ((rd t171 x10_2) + 1)) : Int).toNat).size ≤ 9223372036854775807) = true := decide_eq_true c29
              try have c29b2 : (9223372036854775807 < x8_2.size + (a1.extract ((rd t171 x10_2) : Int).toNat ((wrap64 ((rd t171 x10_2) + 1)) : Int).toNat).size) = False := eq_false (Nat.not_lt.2 c29)
              have c29b3c : (9223372036854775807 < x8_2.size + (((wrap64 ((rd t171 x10_2) + 1))).toNat - ((rd t171 x10_2)).toNat)) = False := by
               have hy_ : (wrap64 ((rd t171 x10_2) + 1)) ≤ (a1.size : Int) := OD
               have hs_ : (a1.extract ((rd t171 x10_2) : Int).toNat ((wrap64 ((rd t171 x10_2) + 1)) : Int).toNat).size = ((wrap64 ((rd t171 x10_2) + 1))).toNat - ((rd t171 x10_2)).toNat := by rw [ByteArray.size_extract]; omega
               rw [← hs_]; exact c29b2
              have H' := Aside0.mk H
              clear H
              obtain ⟨Ao30, co30, eo30⟩ := Kd.R_slice HO_9.out
              subst eo30
              try go_wp2
              have n0_ := Aside0.mk (Kd.R_drew HO_9.out)
              have n1_ := Aside0.mk (blk_drew BK164.out)
              have n2_ := Aside0.mk (below_drew1 HB.out)
              clear HO_9
              clear BK164
              clear HB
              have HO_9 := n0_
              have BK164 := n1_
              have HB := n2_
              clear n0_ n1_ n2_
              have p174 : 0 ≤ (x10_2 : Int) := OD
              have q174 : x10_2 < (t171.length : Int) := OD
              obtain ⟨ad174, e174, hx174_0⟩ := Kd.at_int (Kd.R_reads' HO_9.out).2.2 x10_2 p174 q174
              cases e174
              replace p174 := eq_true p174
              replace q174 := eq_true q174
              have p175 : 0 ≤ (x10_2 : Int) := OD
              have q175 : x10_2 < (t171.length : Int) := OD
              obtain ⟨ad175, e175, hx175_0⟩ := Kd.at_int (Kd.R_reads' HO_9.out).2.2 x10_2 p175 q175
              obtain rfl : ad174 = ad175 := (by injection e175)
              replace p175 := eq_true p175
              replace q175 := eq_true q175
              refine start_ (n := 14) (S := fun w' => w'.cell? (ad174.add (x10_2).toNat) = some (.int .i64 (rd t171 x10_2)) ∧ w'.cell? (ad174.add (x10_2).toNat) = some (.int .i64 (rd t171 x10_2))) (ds := []) #[false, false, false, false, false, false, false, false, false, false, false, false, false, false] (by kernel_rfl) rfl rfl ⟨hx174_0, hx175_0⟩ (fun hHeld => ?_); refine with_tabW spec_SlotPattern.tab9 spec_SlotPattern.bits9 (fun HT_ HW_ => ?_)
              generalize wr.drew = w31 at HO_9 BK164 HB hx174_0 hx175_0 hHeld ⊢
              refine pure_ (i := 0) (N := some 37) (v := ?_) (a' := ?_) #[true, false, false, false, false, false, false, false, false, false, false, false, false, false] rfl rfl (any_of HT_.out (by kernel_rfl)) (fun _ _ _ h => h) (Or.inl ⟨by rfl, ?_⟩) ?_ ?_
              rotate_left
              ·intro w'
               go_simp
               with_reducible rfl
              rotate_left
              ·simp only [Act.put, List.setIfInBounds_toArray, List.set_cons_zero, List.set_cons_succ, i64_w, i32_w]
               rfl
              refine pure_ (i := 1) (N := some 38) (v := ?_) (a' := ?_) #[true, true, false, false, false, false, false, false, false, false, false, false, false, false] rfl rfl (any_of HT_.out (by kernel_rfl)) (fun _ _ _ h => h) (Or.inl ⟨by rfl, ?_⟩) ?_ ?_
              rotate_left
              ·intro w'
               go_simp
               with_reducible rfl
              rotate_left
              ·simp only [Act.put, List.setIfInBounds_toArray, List.set_cons_zero, List.set_cons_succ, i64_w, i32_w]
               rfl
              refine pure_ (i := 2) (N := some 39) (v := ?_) (a' := ?_) #[true, true, true, false, false, false, false, false, false, false, false, false, false, false] rfl rfl (any_of HT_.out (by kernel_rfl)) (fun _ _ _ h => h) (Or.inl ⟨by rfl, ?_⟩) ?_ ?_
              rotate_left
              ·intro w'
               go_simp
               with_reducible rfl
              rotate_left
              ·simp only [Act.put, List.setIfInBounds_toArray, List.set_cons_zero, List.set_cons_succ, i64_w, i32_w]
               rfl
              refine pure_ (i := 3) (N := some 40) (v := ?_) (a' := ?_) #[true, true, true, true, false, false, false, false, false, false, false, false, false, false] rfl rfl (any_of HT_.out (by kernel_rfl)) (fun _ _ _ h => h) (Or.inl ⟨by rfl, ?_⟩) ?_ ?_
              rotate_left
              ·intro w'
               go_simp
               with_reducible rfl
              rotate_left
              ·simp only [Act.put, List.setIfInBounds_toArray, List.set_cons_zero, List.set_cons_succ, i64_w, i32_w]
               rfl
              refine pure_ (i := 4) (N := some 41) (v := ?_) (a' := ?_) #[true, true, true, true, true, false, false, false, false, false, false, false, false, false] rfl rfl (any_of HT_.out (by kernel_rfl)) (fun _ _ _ h => h) (Or.inl ⟨by rfl, ?_⟩) ?_ ?_
              rotate_left
              ·intro w'
               go_simp
               with_reducible rfl
              rotate_left
              ·simp only [Act.put, List.setIfInBounds_toArray, List.set_cons_zero, List.set_cons_succ, i64_w, i32_w]
               rfl
              refine pure_ (i := 6) (N := some 43) (v := ?_) (a' := ?_) #[true, true, true, true, true, false, true, false, false, false, false, false, false, false] rfl rfl (any_of HT_.out (by kernel_rfl)) (fun _ _ _ h => h) (Or.inl ⟨by rfl, ?_⟩) ?_ ?_
              rotate_left
              ·intro w'
               go_simp
               with_reducible rfl
              rotate_left
              ·simp only [Act.put, List.setIfInBounds_toArray, List.set_cons_zero, List.set_cons_succ, i64_w, i32_w]
               rfl
              refine pure_ (i := 7) (N := some 44) (v := ?_) (a' := ?_) #[true, true, true, true, true, false, true, true, false, false, false, false, false, false] rfl rfl (any_of HT_.out (by kernel_rfl)) (fun _ _ _ h => h) (Or.inl ⟨by rfl, ?_⟩) ?_ ?_
              rotate_left
              ·intro w'
               go_simp
               with_reducible rfl
              rotate_left
              ·simp only [Act.put, List.setIfInBounds_toArray, List.set_cons_zero, List.set_cons_succ, i64_w, i32_w]
               rfl
              refine pure_ (i := 8) (N := some 45) (v := ?_) (a' := ?_) #[true, true, true, true, true, false, true, true, true, false, false, false, false, false] rfl rfl (any_of HT_.out (by kernel_rfl)) (fun _ _ _ h => h) (Or.inl ⟨by rfl, ?_⟩) ?_ ?_
              rotate_left
              ·intro w'
               go_simp
               with_reducible rfl
              rotate_left
              ·simp only [Act.put, List.setIfInBounds_toArray, List.set_cons_zero, List.set_cons_succ, i64_w, i32_w]
               rfl
              refine take_ (i := 5) (N := some 42) (v := ?_) (a' := ?_) #[true, true, true, true, true, true, true, true, true, false, false, false, false, false] rfl rfl (take_ofW HT_.out HW_.out (by kernel_rfl)) (fun _ _ _ h => h) (Or.inl ⟨by rfl, ?_⟩) hHeld ?_ ?_
              rotate_left
              ·rintro w' ⟨s0, s1⟩
               go_simp
               with_reducible rfl
              rotate_left
              ·simp only [Act.put, List.setIfInBounds_toArray, List.set_cons_zero, List.set_cons_succ, i64_w, i32_w]
               rfl
              refine take_ (i := 9) (N := some 46) (v := ?_) (a' := ?_) #[true, true, true, true, true, true, true, true, true, true, false, false, false, false] rfl rfl (take_ofW HT_.out HW_.out (by kernel_rfl)) (fun _ _ _ h => h) (Or.inl ⟨by rfl, ?_⟩) hHeld ?_ ?_
              rotate_left
              ·rintro w' ⟨s0, s1⟩
               go_simp
               with_reducible rfl
              rotate_left
              ·simp only [Act.put, List.setIfInBounds_toArray, List.set_cons_zero, List.set_cons_succ, i64_w, i32_w]
               rfl
              refine pure_ (i := 10) (N := some 47) (v := ?_) (a' := ?_) #[true, true, true, true, true, true, true, true, true, true, true, false, false, false] rfl rfl (any_of HT_.out (by kernel_rfl)) (fun _ _ _ h => h) (Or.inl ⟨by rfl, ?_⟩) ?_ ?_
              rotate_left
              ·intro w'
               go_simp
               with_reducible rfl
              rotate_left
              ·simp only [Act.put, List.setIfInBounds_toArray, List.set_cons_zero, List.set_cons_succ, i64_w, i32_w]
               rfl
              refine pure_ (i := 11) (N := some 48) (v := ?_) (a' := ?_) #[true, true, true, true, true, true, true, true, true, true, true, true, false, false] rfl rfl (any_of HT_.out (by kernel_rfl)) (fun _ _ _ h => h) (Or.inl ⟨by rfl, ?_⟩) ?_ ?_
              rotate_left
              ·intro w'
               go_simp
               with_reducible rfl
              rotate_left
              ·simp only [Act.put, List.setIfInBounds_toArray, List.set_cons_zero, List.set_cons_succ, i64_w, i32_w]
               rfl
              refine pure_ (i := 12) (N := some 49) (v := ?_) (a' := ?_) #[true, true, true, true, true, true, true, true, true, true, true, true, true, false] rfl rfl (any_of HT_.out (by kernel_rfl)) (fun _ _ _ h => h) (Or.inl ⟨by rfl, ?_⟩) ?_ ?_
              rotate_left
              ·intro w'
               go_simp
               with_reducible rfl
              rotate_left
              ·simp only [Act.put, List.setIfInBounds_toArray, List.set_cons_zero, List.set_cons_succ, i64_w, i32_w]
               rfl
              refine pure_ (i := 13) (N := some 8) (v := ?_) (a' := ?_) #[true, true, true, true, true, true, true, true, true, true, true, true, true, true] rfl rfl (any_of HT_.out (by kernel_rfl)) (fun _ _ _ h => h) (Or.inl ⟨by rfl, ?_⟩) ?_ ?_
              rotate_left
              ·intro w'
               go_simp
               with_reducible rfl
              rotate_left
              ·simp only [Act.put, List.setIfInBounds_toArray, List.set_cons_zero, List.set_cons_succ, i64_w, i32_w]
               rfl
              refine done_ (done_of HT_.out (by kernel_rfl)) ?_
              try go_wp2
              go_roundg k2
              case measure => have := HJ4.out; have := HK2.out; omega
              case rel => exact ⟨(x8_2 ++ (a1.extract ((rd t171 x10_2) : Int).toNat ((wrap64 ((rd t171 x10_2) + 1)) : Int).toNat)), (wrap64 (x10_2 + 1)), EQ, EQ, H', ⟨by have := HJ4.out; have := HK2.out; omega⟩, ⟨(RR HO_9)⟩, ⟨BK⟩, ⟨BL⟩⟩
             ·rw [if_neg c29] at H
              exact absurd H (by simp)
            ·rw [if_neg c28] at H
             exact absurd H (by simp)
           ·rw [if_neg c27] at H
            exact absurd H (by simp)
          ·rw [if_neg c26] at H
           exact absurd H (by simp)
         ·rw [if_neg c25] at H
          exact absurd H (by simp)
        ·rw [if_neg c24] at H
         have c24b0 : decide (x10_2 < (t171.length : Int)) = false := decide_eq_false c24
         clear c24
         obtain rfl := Option.some.inj H
         obtain ⟨Ao32, co32, eo32⟩ := Kd.R_slice HO_9.out
         subst eo32
         go_wp2
         go_ret
         exact ⟨by first | rfl | (simp [errW_none, errW_some] <;> rfl) | (simp [*, errW_none, errW_some] <;> rfl), BL⟩
     ·rw [if_neg c19] at H
      exact absurd H (by simp)
    ·rw [if_neg c18] at H
     exact absurd H (by simp)
end Go.Proofs.Ytddacmgigolcbaa.PFnExactRightSlots
