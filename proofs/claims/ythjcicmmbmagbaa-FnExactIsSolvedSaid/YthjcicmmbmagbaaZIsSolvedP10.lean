/- Walks of functions: what each computes. -/
import Derived.Test.YthjcicmmbmagbaaZIsSolvedP0
import Derived.Test.YthjcicmmbmagbaaZIsSolvedP8
import Derived.Test.YthjcicmmbmagbaaZIsSolvedP2
import Derived.Test.YthjcicmmbmagbaaZIsSolvedW
import Derived.Test.YthjcicmmbmagbaaZIsSolvedShelf
import Derived.Test.YthjcicmmbmagbaaZIsSolvedHandSort
import Derived.Test.YthjcicmmbmagbaaZIsSolvedHandForm
import Derived.Test.YthjcicmmbmagbaaZIsSolvedHandAlone
import Derived.Test.YthjcicmmbmagbaaZIsSolvedHandReach
namespace Go.Proofs.Ythjcicmmbmagbaa.PFnExactIsSolved
open Go.RowKit Go.Proofs.YthjcicmmbmagbaaW.PrintWords Go.Proofs.YthjcicmmbmagbaaW.PrintLast Go.Proofs.YthjcicmmbmagbaaW.PrintMore Go.Proofs.Ythjcicmmbmagbaa.Sq
attribute [local go_sem] max2_int min2_int max_two min_two max_three min_three max_four min_four
set_option linter.unusedVariables false
set_option linter.unusedSimpArgs false
attribute [local go_sem high] eqA153
mutual
def spec_CellsOf.l0 : Nat → List Int → List (S153) → Int → Int → Int → ByteArray → Int → Bool → Int → Int → Option (List Int)
 | 0, _, _, _, _, _, _, _, _, _, _ => none
 | k + 1, x5, x6, x7, x285000, x285001, x285002, x286000, x286001, x286002, x286003 => if x7 < (x6.length : Int) then (if 0 ≤ x7 then (if (!(((rd_T153 x6 x7).f0) == x286000) || (!(((rd_T153 x6 x7).f1) == x286001) || (!(((rd_T153 x6 x7).f2) == x286002) || (!(((rd_T153 x6 x7).f3) == x286003))))) = true then (spec_CellsOf.l0 k x5 x6 (wrap64 (x7 + 1)) x285000 x285001 x285002 x286000 x286001 x286002 x286003) else (spec_CellsOf.l1 k x5 x6 x7 0 x285000 x285001 x285002 x286000 x286001 x286002 x286003)) else (none)) else (some x5)
def spec_CellsOf.l1 : Nat → List Int → List (S153) → Int → Int → Int → Int → ByteArray → Int → Bool → Int → Int → Option (List Int)
 | 0, _, _, _, _, _, _, _, _, _, _, _ => none
 | k + 1, x5, x6, x7, x8, x285000, x285001, x285002, x286000, x286001, x286002, x286003 => if x8 < x286003 then (if x286001 = true then (if x5.length < 17592186044416 then (spec_CellsOf.l1 k (x5 ++ [wrap64 (x286002 + (wrap64 (x8 * x285001)))]) x6 x7 (wrap64 (x8 + 1)) x285000 x285001 x285002 x286000 x286001 x286002 x286003) else (none)) else (if x5.length < 17592186044416 then (spec_CellsOf.l1 k (x5 ++ [wrap64 (x286002 + x8)]) x6 x7 (wrap64 (x8 + 1)) x285000 x285001 x285002 x286000 x286001 x286002 x286003) else (none))) else (spec_CellsOf.l0 k x5 x6 (wrap64 (x7 + 1)) x285000 x285001 x285002 x286000 x286001 x286002 x286003)
end
def spec_CellsOf.f (k : Nat) (a0_0 : Int) (a0_1 : Int) (a0_2 : ByteArray) (a1_0 : Int) (a1_1 : Bool) (a1_2 : Int) (a1_3 : Int) : Option (List Int) := (spec_SlotsOf.f k a0_0 a0_1 a0_2).bind fun t289 => (spec_CellsOf.l0 k (([] : List Int)) t289 0 a0_0 a0_1 a0_2 a1_0 a1_1 a1_2 a1_3)
set_option maxHeartbeats 8000000 in
set_option maxRecDepth 100000 in
theorem spec_CellsOf.calls (k : Nat) (a0_0 : Int) (a0_1 : Int) (a0_2 : ByteArray) (a1_0 : Int) (a1_1 : Bool) (a1_2 : Int) (a1_3 : Int) (r : List Int) (w : World) (h : spec_CellsOf.f k a0_0 a0_1 a0_2 a1_0 a1_1 a1_2 a1_3 = some r) :
  Calls Try.prog 181 #[.agg #[.int .i64 a0_0, .int .i64 a0_1, .string a0_2], .agg #[.int .i64 a1_0, .bool a1_1, .int .i64 a1_2, .int .i64 a1_3]] w fun e w' => ∃ v0_ : Value, e = .returned (v0_) ∧ Kd.R (Kd.int .i64) 3 w' w.heap.size (fun _ => True) v0_ r ∧ Below w.heap.size w w' := by
 have hu66 := Try.underlying66
 have hu153 := Try.underlying153
 have HB := Aside0.mk (Below.refl w.heap.size w)
 have H : ((spec_SlotsOf.f k a0_0 a0_1 a0_2).bind fun t289 => (spec_CellsOf.l0 k (([] : List Int)) t289 0 a0_0 a0_1 a0_2 a1_0 a1_1 a1_2 a1_3)) = some r := h
 clear h
 obtain ⟨y286, hy286⟩ : ∃ y_ : List Int, y_ = (([] : List Int)) := ⟨_, rfl⟩
 replace H : ((spec_SlotsOf.f k a0_0 a0_1 a0_2).bind fun t289 => (spec_CellsOf.l0 k y286 t289 0 a0_0 a0_1 a0_2 a1_0 a1_1 a1_2 a1_3)) = some r := by first | (rw [hy286]; with_reducible exact H) | (have H2_ := (Option.bind_some _ _).symm.trans H; rw [hy286]; with_reducible exact H2_) | (have H2_ := (Option.bind_some _ _).symm.trans H; with_reducible exact H2_) | with_reducible exact H | (rw [hy286]; exact H) | exact H
 have Ny286 := Aside0.mk hy286
 clear hy286
 replace H := be H; obtain ⟨t289, A3, H⟩ := H
 have H' := Aside0.mk H
 clear H
 go_enter Try.func181, Try.ntmps181
 go_wp2_with (first | ((with_reducible refine gate_dst (N := 2) rfl ?_); refine box_ev (N := 2) (cs := #[.int .i64 a0_0, .int .i64 a0_1, .string a0_2]) (t := 66) ?_; intro gb284 hg w4 hbox hb; have n0_ := BS (w := w) hb; have n1_ := Aside0.mk (hbox); have n2_ := SZ (w := w) hg; have n3_ := SZ (w := w) hg; clear HB; have HB := n0_; have BK284 := n1_; have GW284 := n2_; have GE284 := n3_; clear n0_ n1_ n2_ n3_; clear hb hbox hg) | ((with_reducible refine gate_dst (N := 3) rfl ?_); refine box_ev (N := 3) (cs := #[.int .i64 a1_0, .bool a1_1, .int .i64 a1_2, .int .i64 a1_3]) (t := 153) ?_; intro gb285 hg w5 hbox hb; have n0_ := KB BK284 hb; have n1_ := BS (w := w) hb; have n2_ := Aside0.mk (hbox); have n3_ := SZ (w := w) hg; have n4_ := SZ (w := w) hg; have n5_ := NL BK284 hg; have n6_ := NG BK284 hg; clear BK284 HB; have BK284 := n0_; have HB := n1_; have BK285 := n2_; have GW285 := n3_; have GE285 := n4_; have NB284_285 := n5_; have NB285_284 := n6_; clear n0_ n1_ n2_ n3_ n4_ n5_ n6_; clear hb hbox hg) | ((with_reducible refine gate_dst (N := 9) rfl ?_); refine Kd.R_lit (Kd.int .i64) _ 3 ?hg (N := 9) ?hd (xs := ([] : List Int)) (inner := []) (ok := fun _ => True) (okp := fun _ => True) ?hr ?hp (fun _ hk => hk) trivial (Below.refl _ _) (Nat.le_refl _) (by simp) ?_; (case hd => rfl); (case hg => rfl); (case hr => first | (go_simp; done) | (go_simp; rfl)); (case hp => exact (Reps.none _ _)); intro v287 w6 ho7 hb hg_ hnew_; clear hg_ hnew_; (first | rw [← Ny286.out] at ho7 | (simp only [Int.reduceToNat] at ho7; rw [← Ny286.out] at ho7)); have n0_ := Aside0.mk (Kd.R_lower ho7 (below_size BL)); replace BK284 := KB BK284 hb; replace BK285 := KB BK285 hb; replace HB := BS (w := w) hb; have HO288 := n0_; clear n0_; clear hb ho7; have hnb8 := NB284_285.out; have hnc8 := NB285_284.out; obtain ⟨hcz9_0, hcz9_1, hcz9_2, hfz9_0, hfz9_1, hfz9_2⟩ := cz3 BK284.out) | (go_at_call 84; (with_reducible refine (spec_SlotsOf.calls k a0_0 a0_1 a0_2 t289 _ A3.out).mono ?_); rintro e w10 ⟨v290, rfl, ho0, hb⟩; have n1_ := Aside0.mk (Kd.R_lower (Kd.R_newB ho0 (g := gb285) (o := .cells #[.int .i64 a1_0, .bool a1_1, .int .i64 a1_2, .int .i64 a1_3] 153 (0, 0)) BK) (below_size BL)); replace HO288 := RB HO288 hb; replace BK284 := KB BK284 hb; replace BK285 := KB BK285 hb; replace HB := BS (w := w) hb; have HO291 := n1_; clear n1_; (try clear hb); (try clear hk); (try clear ho0)))
 repeat (go_quiet (first | ((with_reducible refine gate_dst (N := 2) rfl ?_); refine box_ev (N := 2) (cs := #[.int .i64 a0_0, .int .i64 a0_1, .string a0_2]) (t := 66) ?_; intro gb284 hg w4 hbox hb; have n0_ := BS (w := w) hb; have n1_ := Aside0.mk (hbox); have n2_ := SZ (w := w) hg; have n3_ := SZ (w := w) hg; clear HB; have HB := n0_; have BK284 := n1_; have GW284 := n2_; have GE284 := n3_; clear n0_ n1_ n2_ n3_; clear hb hbox hg) | ((with_reducible refine gate_dst (N := 3) rfl ?_); refine box_ev (N := 3) (cs := #[.int .i64 a1_0, .bool a1_1, .int .i64 a1_2, .int .i64 a1_3]) (t := 153) ?_; intro gb285 hg w5 hbox hb; have n0_ := KB BK284 hb; have n1_ := BS (w := w) hb; have n2_ := Aside0.mk (hbox); have n3_ := SZ (w := w) hg; have n4_ := SZ (w := w) hg; have n5_ := NL BK284 hg; have n6_ := NG BK284 hg; clear BK284 HB; have BK284 := n0_; have HB := n1_; have BK285 := n2_; have GW285 := n3_; have GE285 := n4_; have NB284_285 := n5_; have NB285_284 := n6_; clear n0_ n1_ n2_ n3_ n4_ n5_ n6_; clear hb hbox hg) | ((with_reducible refine gate_dst (N := 9) rfl ?_); refine Kd.R_lit (Kd.int .i64) _ 3 ?hg (N := 9) ?hd (xs := ([] : List Int)) (inner := []) (ok := fun _ => True) (okp := fun _ => True) ?hr ?hp (fun _ hk => hk) trivial (Below.refl _ _) (Nat.le_refl _) (by simp) ?_; (case hd => rfl); (case hg => rfl); (case hr => first | (go_simp; done) | (go_simp; rfl)); (case hp => exact (Reps.none _ _)); intro v287 w6 ho7 hb hg_ hnew_; clear hg_ hnew_; (first | rw [← Ny286.out] at ho7 | (simp only [Int.reduceToNat] at ho7; rw [← Ny286.out] at ho7)); have n0_ := Aside0.mk (Kd.R_lower ho7 (below_size BL)); replace BK284 := KB BK284 hb; replace BK285 := KB BK285 hb; replace HB := BS (w := w) hb; have HO288 := n0_; clear n0_; clear hb ho7; have hnb8 := NB284_285.out; have hnc8 := NB285_284.out; obtain ⟨hcz9_0, hcz9_1, hcz9_2, hfz9_0, hfz9_1, hfz9_2⟩ := cz3 BK284.out) | (go_at_call 84; (with_reducible refine (spec_SlotsOf.calls k a0_0 a0_1 a0_2 t289 _ A3.out).mono ?_); rintro e w10 ⟨v290, rfl, ho0, hb⟩; have n1_ := Aside0.mk (Kd.R_lower (Kd.R_newB ho0 (g := gb285) (o := .cells #[.int .i64 a1_0, .bool a1_1, .int .i64 a1_2, .int .i64 a1_3] 153 (0, 0)) BK) (below_size BL)); replace HO288 := RB HO288 hb; replace BK284 := KB BK284 hb; replace BK285 := KB BK285 hb; replace HB := BS (w := w) hb; have HO291 := n1_; clear n1_; (try clear hb); (try clear hk); (try clear ho0))); try go_wp2_with (first | ((with_reducible refine gate_dst (N := 2) rfl ?_); refine box_ev (N := 2) (cs := #[.int .i64 a0_0, .int .i64 a0_1, .string a0_2]) (t := 66) ?_; intro gb284 hg w4 hbox hb; have n0_ := BS (w := w) hb; have n1_ := Aside0.mk (hbox); have n2_ := SZ (w := w) hg; have n3_ := SZ (w := w) hg; clear HB; have HB := n0_; have BK284 := n1_; have GW284 := n2_; have GE284 := n3_; clear n0_ n1_ n2_ n3_; clear hb hbox hg) | ((with_reducible refine gate_dst (N := 3) rfl ?_); refine box_ev (N := 3) (cs := #[.int .i64 a1_0, .bool a1_1, .int .i64 a1_2, .int .i64 a1_3]) (t := 153) ?_; intro gb285 hg w5 hbox hb; have n0_ := KB BK284 hb; have n1_ := BS (w := w) hb; have n2_ := Aside0.mk (hbox); have n3_ := SZ (w := w) hg; have n4_ := SZ (w := w) hg; have n5_ := NL BK284 hg; have n6_ := NG BK284 hg; clear BK284 HB; have BK284 := n0_; have HB := n1_; have BK285 := n2_; have GW285 := n3_; have GE285 := n4_; have NB284_285 := n5_; have NB285_284 := n6_; clear n0_ n1_ n2_ n3_ n4_ n5_ n6_; clear hb hbox hg) | ((with_reducible refine gate_dst (N := 9) rfl ?_); refine Kd.R_lit (Kd.int .i64) _ 3 ?hg (N := 9) ?hd (xs := ([] : List Int)) (inner := []) (ok := fun _ => True) (okp := fun _ => True) ?hr ?hp (fun _ hk => hk) trivial (Below.refl _ _) (Nat.le_refl _) (by simp) ?_; (case hd => rfl); (case hg => rfl); (case hr => first | (go_simp; done) | (go_simp; rfl)); (case hp => exact (Reps.none _ _)); intro v287 w6 ho7 hb hg_ hnew_; clear hg_ hnew_; (first | rw [← Ny286.out] at ho7 | (simp only [Int.reduceToNat] at ho7; rw [← Ny286.out] at ho7)); have n0_ := Aside0.mk (Kd.R_lower ho7 (below_size BL)); replace BK284 := KB BK284 hb; replace BK285 := KB BK285 hb; replace HB := BS (w := w) hb; have HO288 := n0_; clear n0_; clear hb ho7; have hnb8 := NB284_285.out; have hnc8 := NB285_284.out; obtain ⟨hcz9_0, hcz9_1, hcz9_2, hfz9_0, hfz9_1, hfz9_2⟩ := cz3 BK284.out) | (go_at_call 84; (with_reducible refine (spec_SlotsOf.calls k a0_0 a0_1 a0_2 t289 _ A3.out).mono ?_); rintro e w10 ⟨v290, rfl, ho0, hb⟩; have n1_ := Aside0.mk (Kd.R_lower (Kd.R_newB ho0 (g := gb285) (o := .cells #[.int .i64 a1_0, .bool a1_1, .int .i64 a1_2, .int .i64 a1_3] 153 (0, 0)) BK) (below_size BL)); replace HO288 := RB HO288 hb; replace BK284 := KB BK284 hb; replace BK285 := KB BK285 hb; replace HB := BS (w := w) hb; have HO291 := n1_; clear n1_; (try clear hb); (try clear hk); (try clear ho0))))
 go_loopg [5, 7] k (fun kq v5 v7 w' => ∃ (x5_1 : List Int) (x7_1 : Int), v7 = .int .i64 x7_1 ∧ Aside0 (spec_CellsOf.l0 kq x5_1 t289 x7_1 a0_0 a0_1 a0_2 a1_0 a1_1 a1_2 a1_3 = some r) ∧ Aside0 (kq ≤ k) ∧ Aside0 (Kd.R (Kd.int .i64) 3 w' w.heap.size (fun _ => True) v5 x5_1) ∧ Aside0 (Kd.R k153 153 w' w.heap.size (fun k_ => k_ ≠ gb285) v290 t289) ∧ Aside0 (w'.heap[gb284]? = some (.cells #[.int .i64 a0_0, .int .i64 a0_1, .string a0_2] 66 (0, 0))) ∧ Aside0 (w'.heap[gb285]? = some (.cells #[.int .i64 a1_0, .bool a1_1, .int .i64 a1_2, .int .i64 a1_3] 153 (0, 0))) ∧ Aside0 (Below w.heap.size w w'))
 case atStart => exact ⟨(y286), (0), EQ, H', ⟨Nat.le_refl _⟩, ⟨(RR HO288)⟩, ⟨by (with_reducible repeat (first | apply Kd.R_alloc | apply Kd.R_drewN | apply Kd.R_drew)); exact Kd.R_mono HO291.out (fun _ hk => hk.2)⟩, ⟨BK⟩, ⟨BK⟩, ⟨BL⟩⟩
 case round =>
  clear H'
  try clear hcz9_0
  try clear hcz9_1
  try clear hcz9_2
  try clear hfz9_0
  try clear hfz9_1
  try clear hfz9_2
  obtain ⟨x5_1, x7_1, rfl, HA, HK1, HO_5, HO_6, BK284, BK285, HB⟩ := hrel
  cases gk with
  | zero => exact absurd HA.out (by simp [spec_CellsOf.l0])
  | succ k1 =>
   have H := HA.out
   clear HA
   simp only [spec_CellsOf.l0] at H
   obtain ⟨Ao7000, co7000, eo7000⟩ := Kd.R_slice HO_6.out
   subst eo7000
   replace H := ifD H; rcases H with ⟨c11b0, H⟩ | ⟨c11b0, H⟩
   ·replace H := ifN H; obtain ⟨c12b0, H⟩ := H
    have p292 : 0 ≤ (x7_1 : Int) := OD
    have q292 : x7_1 < (t289.length : Int) := OD
    obtain ⟨ad292, e292, hx292_0, hx292_1, hx292_2, hx292_3⟩ := at_T153 (Kd.R_reads' HO_6.out).2.2 x7_1 p292 q292
    cases e292
    replace p292 := eq_true p292
    replace q292 := eq_true q292
    have hnb7001 := NB285_284.out
    have hnc7001 := NB284_285.out
    obtain ⟨hcz7002_0, hcz7002_1, hcz7002_2, hcz7002_3, hfz7002_0, hfz7002_1, hfz7002_2, hfz7002_3⟩ := cz4 BK285.out
    by_cases c13 : (!(((rd_T153 t289 x7_1).f0) == a1_0) || (!(((rd_T153 t289 x7_1).f1) == a1_1) || (!(((rd_T153 t289 x7_1).f2) == a1_2) || (!(((rd_T153 t289 x7_1).f3) == a1_3))))) = true
    ·rw [if_pos c13] at H
     have c13b0 : (!(((rd_T153 t289 x7_1).f0) == a1_0) || (!(((rd_T153 t289 x7_1).f1) == a1_1) || (!(((rd_T153 t289 x7_1).f2) == a1_2) || (!(((rd_T153 t289 x7_1).f3) == a1_3))))) = true := c13
     clear c13
     have H' := Aside0.mk H
     clear H
     go_wp2
     repeat (go_quiet (fail); try go_wp2)
     go_roundg k1
     case measure => have := HK1.out; omega
     case rel => exact ⟨(x5_1), (wrap64 (x7_1 + 1)), EQ, H', ⟨by have := HK1.out; omega⟩, ⟨(RR HO_5)⟩, ⟨(RR HO_6)⟩, ⟨BK⟩, ⟨BK⟩, ⟨BL⟩⟩
    ·rw [if_neg c13] at H
     have c13b0 : (!(((rd_T153 t289 x7_1).f0) == a1_0) || (!(((rd_T153 t289 x7_1).f1) == a1_1) || (!(((rd_T153 t289 x7_1).f2) == a1_2) || (!(((rd_T153 t289 x7_1).f3) == a1_3))))) = false := by simpa using c13
     clear c13
     have H' := Aside0.mk H
     clear H
     go_wp2
     repeat (go_quiet (fail); try go_wp2)
     go_loopg [5, 8] k1 (fun kq v5 v8 w' => ∃ (x5_2 : List Int) (x8_2 : Int), v8 = .int .i64 x8_2 ∧ Aside0 (spec_CellsOf.l1 kq x5_2 t289 x7_1 x8_2 a0_0 a0_1 a0_2 a1_0 a1_1 a1_2 a1_3 = some r) ∧ Aside0 (kq ≤ k1) ∧ Aside0 (Kd.R (Kd.int .i64) 3 w' w.heap.size (fun _ => True) v5 x5_2) ∧ Aside0 (Kd.R k153 153 w' w.heap.size (fun k_ => k_ ≠ gb285) (.slice (some ad292) t289.length co7000) t289) ∧ Aside0 (w'.heap[gb284]? = some (.cells #[.int .i64 a0_0, .int .i64 a0_1, .string a0_2] 66 (0, 0))) ∧ Aside0 (w'.heap[gb285]? = some (.cells #[.int .i64 a1_0, .bool a1_1, .int .i64 a1_2, .int .i64 a1_3] 153 (0, 0))) ∧ Aside0 (Below w.heap.size w w'))
     case atStart => exact ⟨(x5_1), (0), EQ, H', ⟨Nat.le_refl _⟩, ⟨(RR HO_5)⟩, ⟨(RR HO_6)⟩, ⟨BK⟩, ⟨BK⟩, ⟨BL⟩⟩
     case round =>
      clear H'
      try clear c11
      try clear c11b0
      try clear c12
      try clear c12b0
      try clear c13
      try clear c13b0
      try clear hcz7002_0
      try clear hcz7002_1
      try clear hcz7002_2
      try clear hcz7002_3
      try clear hcz9_0
      try clear hcz9_1
      try clear hcz9_2
      try clear hfz7002_0
      try clear hfz7002_1
      try clear hfz7002_2
      try clear hfz7002_3
      try clear hfz9_0
      try clear hfz9_1
      try clear hfz9_2
      try clear hx292_0
      try clear hx292_1
      try clear hx292_2
      try clear hx292_3
      try clear p292
      try clear q292
      obtain ⟨x5_2, x8_2, rfl, HA, HK2, HO_5, HO_6, BK284, BK285, HB⟩ := hrel
      cases gk with
      | zero => exact absurd HA.out (by simp [spec_CellsOf.l1])
      | succ k2 =>
       have H := HA.out
       clear HA
       simp only [spec_CellsOf.l1] at H
       replace H := ifD H; rcases H with ⟨c20b0, H⟩ | ⟨c20b0, H⟩
       ·by_cases c21 : a1_1 = true
        ·subst c21
         rw [if_pos rfl] at H
         replace H := ifP H; obtain ⟨c22, H⟩ := H
         have LMc22 := Aside0.mk c22
         clear c22
         obtain ⟨y293, hy293⟩ : ∃ y_ : List Int, y_ = (x5_2 ++ [wrap64 (a1_2 + (wrap64 (x8_2 * a0_1)))]) := ⟨_, rfl⟩
         replace H : (spec_CellsOf.l1 k2 y293 t289 x7_1 (wrap64 (x8_2 + 1)) a0_0 a0_1 a0_2 a1_0 true a1_2 a1_3) = some r := by first | (rw [hy293]; with_reducible exact H) | (have H2_ := (Option.bind_some _ _).symm.trans H; rw [hy293]; with_reducible exact H2_) | (have H2_ := (Option.bind_some _ _).symm.trans H; with_reducible exact H2_) | with_reducible exact H | (rw [hy293]; exact H) | exact H
         have Ny293 := Aside0.mk hy293
         clear hy293
         have H' := Aside0.mk H
         clear H
         have hnb7003 := NB285_284.out
         have hnc7003 := NB284_285.out
         obtain ⟨hcz7004_0, hcz7004_1, hcz7004_2, hcz7004_3, hfz7004_0, hfz7004_1, hfz7004_2, hfz7004_3⟩ := cz4 BK285.out
         obtain ⟨hcz7005_0, hcz7005_1, hcz7005_2, hfz7005_0, hfz7005_1, hfz7005_2⟩ := cz3 BK284.out
         go_wp2_with (first | ((with_reducible refine gate_builtin (b := .append) (xs := #[.tmp 32, .tmp 40]) rfl ?_); at_builtin; refine Kd.R_append (Kd.int .i64) (w0 := w) w.heap.size rfl (.tmp 32) (.tmp 40) 45 3 (.int .i64 0) 8 rfl Try.underlying45 info3 rfl (by decide) (by omega) u5 x5_2 (wrap64 (a1_2 + (wrap64 (x8_2 * a0_1)))) [.int .i64 (wrap64 (a1_2 + (wrap64 (x8_2 * a0_1))))] (fun _ => True) (fun _ => False) rfl rfl ?aP (fun _ hk => hk.elim) ?aF ?aO ?aB ?aS ?aL ?_; (case aP => exact rfl); (case aB => exact BL); (case aF => exact (fun _ _ => trivial)); (case aO => exact (RR HO_5)); (case aS => exact (below_size BL)); (case aL => have := LMc22.out; omega); intro v294 w7006 ho hb hg hat; rw [← Ny293.out] at ho; have n0_ := Aside0.mk (Kd.R_over' (RR HO_6) (Kd.R_typed (RR HO_5)) (by decide) hg); have n1_ := Aside0.mk (blk_grown (g := gb284) (o := .cells #[.int .i64 a0_0, .int .i64 a0_1, .string a0_2] 66 (0, 0)) BK hg (Kd.R_ne HO_5.out BK284.out (by decide))); have n2_ := Aside0.mk (blk_grown (g := gb285) (o := .cells #[.int .i64 a1_0, .bool true, .int .i64 a1_2, .int .i64 a1_3] 153 (0, 0)) BK hg (Kd.R_ne HO_5.out BK285.out (by decide))); have n3_ := Aside0.mk (hb); have n4_ := Aside0.mk (ho); clear HO_6 BK284 BK285 HB HO_5; have HO_6 := n0_; have BK284 := n1_; have BK285 := n2_; have HB := n3_; have HO295 := n4_; clear n0_ n1_ n2_ n3_ n4_; clear ho hb hg hat))
         repeat (go_quiet (first | ((with_reducible refine gate_builtin (b := .append) (xs := #[.tmp 32, .tmp 40]) rfl ?_); at_builtin; refine Kd.R_append (Kd.int .i64) (w0 := w) w.heap.size rfl (.tmp 32) (.tmp 40) 45 3 (.int .i64 0) 8 rfl Try.underlying45 info3 rfl (by decide) (by omega) u5 x5_2 (wrap64 (a1_2 + (wrap64 (x8_2 * a0_1)))) [.int .i64 (wrap64 (a1_2 + (wrap64 (x8_2 * a0_1))))] (fun _ => True) (fun _ => False) rfl rfl ?aP (fun _ hk => hk.elim) ?aF ?aO ?aB ?aS ?aL ?_; (case aP => exact rfl); (case aB => exact BL); (case aF => exact (fun _ _ => trivial)); (case aO => exact (RR HO_5)); (case aS => exact (below_size BL)); (case aL => have := LMc22.out; omega); intro v294 w7006 ho hb hg hat; rw [← Ny293.out] at ho; have n0_ := Aside0.mk (Kd.R_over' (RR HO_6) (Kd.R_typed (RR HO_5)) (by decide) hg); have n1_ := Aside0.mk (blk_grown (g := gb284) (o := .cells #[.int .i64 a0_0, .int .i64 a0_1, .string a0_2] 66 (0, 0)) BK hg (Kd.R_ne HO_5.out BK284.out (by decide))); have n2_ := Aside0.mk (blk_grown (g := gb285) (o := .cells #[.int .i64 a1_0, .bool true, .int .i64 a1_2, .int .i64 a1_3] 153 (0, 0)) BK hg (Kd.R_ne HO_5.out BK285.out (by decide))); have n3_ := Aside0.mk (hb); have n4_ := Aside0.mk (ho); clear HO_6 BK284 BK285 HB HO_5; have HO_6 := n0_; have BK284 := n1_; have BK285 := n2_; have HB := n3_; have HO295 := n4_; clear n0_ n1_ n2_ n3_ n4_; clear ho hb hg hat)); try go_wp2_with (first | ((with_reducible refine gate_builtin (b := .append) (xs := #[.tmp 32, .tmp 40]) rfl ?_); at_builtin; refine Kd.R_append (Kd.int .i64) (w0 := w) w.heap.size rfl (.tmp 32) (.tmp 40) 45 3 (.int .i64 0) 8 rfl Try.underlying45 info3 rfl (by decide) (by omega) u5 x5_2 (wrap64 (a1_2 + (wrap64 (x8_2 * a0_1)))) [.int .i64 (wrap64 (a1_2 + (wrap64 (x8_2 * a0_1))))] (fun _ => True) (fun _ => False) rfl rfl ?aP (fun _ hk => hk.elim) ?aF ?aO ?aB ?aS ?aL ?_; (case aP => exact rfl); (case aB => exact BL); (case aF => exact (fun _ _ => trivial)); (case aO => exact (RR HO_5)); (case aS => exact (below_size BL)); (case aL => have := LMc22.out; omega); intro v294 w7006 ho hb hg hat; rw [← Ny293.out] at ho; have n0_ := Aside0.mk (Kd.R_over' (RR HO_6) (Kd.R_typed (RR HO_5)) (by decide) hg); have n1_ := Aside0.mk (blk_grown (g := gb284) (o := .cells #[.int .i64 a0_0, .int .i64 a0_1, .string a0_2] 66 (0, 0)) BK hg (Kd.R_ne HO_5.out BK284.out (by decide))); have n2_ := Aside0.mk (blk_grown (g := gb285) (o := .cells #[.int .i64 a1_0, .bool true, .int .i64 a1_2, .int .i64 a1_3] 153 (0, 0)) BK hg (Kd.R_ne HO_5.out BK285.out (by decide))); have n3_ := Aside0.mk (hb); have n4_ := Aside0.mk (ho); clear HO_6 BK284 BK285 HB HO_5; have HO_6 := n0_; have BK284 := n1_; have BK285 := n2_; have HB := n3_; have HO295 := n4_; clear n0_ n1_ n2_ n3_ n4_; clear ho hb hg hat)))
         go_roundg k2
         case measure => have := HK1.out; have := HK2.out; omega
         case rel => exact ⟨(y293), (wrap64 (x8_2 + 1)), EQ, H', ⟨by have := HK1.out; have := HK2.out; omega⟩, ⟨(RR HO295)⟩, ⟨(RR HO_6)⟩, ⟨BK⟩, ⟨BK⟩, ⟨BL⟩⟩
        ·replace c21 := Bool.eq_false_iff.mpr c21
         subst c21
         rw [if_neg Bool.false_ne_true] at H
         replace H := ifP H; obtain ⟨c27, H⟩ := H
         have LMc27 := Aside0.mk c27
         clear c27
         obtain ⟨y296, hy296⟩ : ∃ y_ : List Int, y_ = (x5_2 ++ [wrap64 (a1_2 + x8_2)]) := ⟨_, rfl⟩
         replace H : (spec_CellsOf.l1 k2 y296 t289 x7_1 (wrap64 (x8_2 + 1)) a0_0 a0_1 a0_2 a1_0 false a1_2 a1_3) = some r := by first | (rw [hy296]; with_reducible exact H) | (have H2_ := (Option.bind_some _ _).symm.trans H; rw [hy296]; with_reducible exact H2_) | (have H2_ := (Option.bind_some _ _).symm.trans H; with_reducible exact H2_) | with_reducible exact H | (rw [hy296]; exact H) | exact H
         have Ny296 := Aside0.mk hy296
         clear hy296
         have H' := Aside0.mk H
         clear H
         have hnb7003 := NB285_284.out
         have hnc7003 := NB284_285.out
         obtain ⟨hcz7004_0, hcz7004_1, hcz7004_2, hcz7004_3, hfz7004_0, hfz7004_1, hfz7004_2, hfz7004_3⟩ := cz4 BK285.out
         go_wp2_with (first | ((with_reducible refine gate_builtin (b := .append) (xs := #[.tmp 42, .tmp 47]) rfl ?_); at_builtin; refine Kd.R_append (Kd.int .i64) (w0 := w) w.heap.size rfl (.tmp 42) (.tmp 47) 45 3 (.int .i64 0) 8 rfl Try.underlying45 info3 rfl (by decide) (by omega) u5 x5_2 (wrap64 (a1_2 + x8_2)) [.int .i64 (wrap64 (a1_2 + x8_2))] (fun _ => True) (fun _ => False) rfl rfl ?aP (fun _ hk => hk.elim) ?aF ?aO ?aB ?aS ?aL ?_; (case aP => exact rfl); (case aB => exact BL); (case aF => exact (fun _ _ => trivial)); (case aO => exact (RR HO_5)); (case aS => exact (below_size BL)); (case aL => have := LMc27.out; omega); intro v297 w7005 ho hb hg hat; rw [← Ny296.out] at ho; have n0_ := Aside0.mk (Kd.R_over' (RR HO_6) (Kd.R_typed (RR HO_5)) (by decide) hg); have n1_ := Aside0.mk (blk_grown (g := gb284) (o := .cells #[.int .i64 a0_0, .int .i64 a0_1, .string a0_2] 66 (0, 0)) BK hg (Kd.R_ne HO_5.out BK284.out (by decide))); have n2_ := Aside0.mk (blk_grown (g := gb285) (o := .cells #[.int .i64 a1_0, .bool false, .int .i64 a1_2, .int .i64 a1_3] 153 (0, 0)) BK hg (Kd.R_ne HO_5.out BK285.out (by decide))); have n3_ := Aside0.mk (hb); have n4_ := Aside0.mk (ho); clear HO_6 BK284 BK285 HB HO_5; have HO_6 := n0_; have BK284 := n1_; have BK285 := n2_; have HB := n3_; have HO298 := n4_; clear n0_ n1_ n2_ n3_ n4_; clear ho hb hg hat))
         repeat (go_quiet (first | ((with_reducible refine gate_builtin (b := .append) (xs := #[.tmp 42, .tmp 47]) rfl ?_); at_builtin; refine Kd.R_append (Kd.int .i64) (w0 := w) w.heap.size rfl (.tmp 42) (.tmp 47) 45 3 (.int .i64 0) 8 rfl Try.underlying45 info3 rfl (by decide) (by omega) u5 x5_2 (wrap64 (a1_2 + x8_2)) [.int .i64 (wrap64 (a1_2 + x8_2))] (fun _ => True) (fun _ => False) rfl rfl ?aP (fun _ hk => hk.elim) ?aF ?aO ?aB ?aS ?aL ?_; (case aP => exact rfl); (case aB => exact BL); (case aF => exact (fun _ _ => trivial)); (case aO => exact (RR HO_5)); (case aS => exact (below_size BL)); (case aL => have := LMc27.out; omega); intro v297 w7005 ho hb hg hat; rw [← Ny296.out] at ho; have n0_ := Aside0.mk (Kd.R_over' (RR HO_6) (Kd.R_typed (RR HO_5)) (by decide) hg); have n1_ := Aside0.mk (blk_grown (g := gb284) (o := .cells #[.int .i64 a0_0, .int .i64 a0_1, .string a0_2] 66 (0, 0)) BK hg (Kd.R_ne HO_5.out BK284.out (by decide))); have n2_ := Aside0.mk (blk_grown (g := gb285) (o := .cells #[.int .i64 a1_0, .bool false, .int .i64 a1_2, .int .i64 a1_3] 153 (0, 0)) BK hg (Kd.R_ne HO_5.out BK285.out (by decide))); have n3_ := Aside0.mk (hb); have n4_ := Aside0.mk (ho); clear HO_6 BK284 BK285 HB HO_5; have HO_6 := n0_; have BK284 := n1_; have BK285 := n2_; have HB := n3_; have HO298 := n4_; clear n0_ n1_ n2_ n3_ n4_; clear ho hb hg hat)); try go_wp2_with (first | ((with_reducible refine gate_builtin (b := .append) (xs := #[.tmp 42, .tmp 47]) rfl ?_); at_builtin; refine Kd.R_append (Kd.int .i64) (w0 := w) w.heap.size rfl (.tmp 42) (.tmp 47) 45 3 (.int .i64 0) 8 rfl Try.underlying45 info3 rfl (by decide) (by omega) u5 x5_2 (wrap64 (a1_2 + x8_2)) [.int .i64 (wrap64 (a1_2 + x8_2))] (fun _ => True) (fun _ => False) rfl rfl ?aP (fun _ hk => hk.elim) ?aF ?aO ?aB ?aS ?aL ?_; (case aP => exact rfl); (case aB => exact BL); (case aF => exact (fun _ _ => trivial)); (case aO => exact (RR HO_5)); (case aS => exact (below_size BL)); (case aL => have := LMc27.out; omega); intro v297 w7005 ho hb hg hat; rw [← Ny296.out] at ho; have n0_ := Aside0.mk (Kd.R_over' (RR HO_6) (Kd.R_typed (RR HO_5)) (by decide) hg); have n1_ := Aside0.mk (blk_grown (g := gb284) (o := .cells #[.int .i64 a0_0, .int .i64 a0_1, .string a0_2] 66 (0, 0)) BK hg (Kd.R_ne HO_5.out BK284.out (by decide))); have n2_ := Aside0.mk (blk_grown (g := gb285) (o := .cells #[.int .i64 a1_0, .bool false, .int .i64 a1_2, .int .i64 a1_3] 153 (0, 0)) BK hg (Kd.R_ne HO_5.out BK285.out (by decide))); have n3_ := Aside0.mk (hb); have n4_ := Aside0.mk (ho); clear HO_6 BK284 BK285 HB HO_5; have HO_6 := n0_; have BK284 := n1_; have BK285 := n2_; have HB := n3_; have HO298 := n4_; clear n0_ n1_ n2_ n3_ n4_; clear ho hb hg hat)))
         go_roundg k2
         case measure => have := HK1.out; have := HK2.out; omega
         case rel => exact ⟨(y296), (wrap64 (x8_2 + 1)), EQ, H', ⟨by have := HK1.out; have := HK2.out; omega⟩, ⟨(RR HO298)⟩, ⟨(RR HO_6)⟩, ⟨BK⟩, ⟨BK⟩, ⟨BL⟩⟩
       ·have H' := Aside0.mk H
        clear H
        have hnb7003 := NB285_284.out
        have hnc7003 := NB284_285.out
        obtain ⟨hcz7004_0, hcz7004_1, hcz7004_2, hcz7004_3, hfz7004_0, hfz7004_1, hfz7004_2, hfz7004_3⟩ := cz4 BK285.out
        go_wp2
        repeat (go_quiet (fail); try go_wp2)
        go_roundg k2
        case measure => have := HK1.out; have := HK2.out; omega
        case rel => exact ⟨(x5_2), (wrap64 (x7_1 + 1)), EQ, H', ⟨by have := HK1.out; have := HK2.out; omega⟩, ⟨(RR HO_5)⟩, ⟨(RR HO_6)⟩, ⟨BK⟩, ⟨BK⟩, ⟨BL⟩⟩
   ·obtain rfl := Option.some.inj H
    go_wp2
    repeat (go_quiet (fail); try go_wp2)
    go_ret
    exact ⟨_, EWW, (RR HO_5), BL⟩
def spec_l8Has.l0 : Nat → List Int → Int → Int → Option (Bool)
 | 0, _, _, _ => none
 | k + 1, x0, x1, x5 => if x5 < (x0.length : Int) then (if 0 ≤ x5 then (if (rd x0 x5) = x1 then (some true) else (spec_l8Has.l0 k x0 x1 (wrap64 (x5 + 1)))) else (none)) else (some false)
def spec_l8Has.f (k : Nat) (l0 : List Int) (a1 : Int) : Option (Bool) := spec_l8Has.l0 k l0 a1 0
set_option maxHeartbeats 8000000 in
set_option maxRecDepth 100000 in
theorem spec_l8Has.calls (k : Nat) (A0 : Option Addr) (c0 : Nat) (l0 : List Int) (a1 : Int) (r : Bool) (w : World) (hr0 : Kd.C (Kd.int .i64) w A0 l0.length l0) (hc0 : l0.length ≤ c0) (h : spec_l8Has.f k l0 a1 = some r) :
  Calls Try.prog 197 #[.slice A0 l0.length c0, .int .i64 a1] w fun e w' => e = .returned (.bool r) ∧ Drawn0 w w' := by
 have HR0 := Aside0.mk hr0
 have HC0 := Aside0.mk hc0
 clear hr0 hc0
 have H : (spec_l8Has.l0 k l0 a1 0) = some r := h
 clear h
 have H' := Aside0.mk H
 clear H
 go_enter Try.func197, Try.ntmps197
 go_wp2
 go_loopg [5] k (fun kq v5 w' => ∃ (x5_1 : Int), v5 = .int .i64 x5_1 ∧ Aside0 (spec_l8Has.l0 kq l0 a1 x5_1 = some r) ∧ Aside0 (kq ≤ k) ∧ Drawn0 w w')
 case atStart => exact ⟨(0), EQ, H', ⟨Nat.le_refl _⟩, by repeat (first | exact Drawn0.refl _ | apply Drawn0.step)⟩
 case round =>
  clear H'
  obtain ⟨x5_1, rfl, HA, HK1, ⟨m1, rfl⟩⟩ := hrel
  cases gk with
  | zero => exact absurd HA.out (by simp [spec_l8Has.l0])
  | succ k1 =>
   have H := HA.out
   clear HA
   simp only [spec_l8Has.l0] at H
   replace H := ifD H; rcases H with ⟨c3b0, H⟩ | ⟨c3b0, H⟩
   ·replace H := ifN H; obtain ⟨c4b0, H⟩ := H
    have p299 : 0 ≤ (x5_1 : Int) := OD
    have q299 : x5_1 < (l0.length : Int) := OD
    obtain ⟨ad299, e299, hx299_0⟩ := Kd.at_int HR0.out x5_1 p299 q299
    cases e299
    replace p299 := eq_true p299
    replace q299 := eq_true q299
    replace H := ifE H; rcases H with ⟨c5b0, c5b1, H⟩ | ⟨c5, c5b0, c5b1, H⟩
    ·obtain rfl := Option.some.inj H
     go_wp2
     go_ret
     exact ⟨by first | rfl | (simp; done) | (simp [*]; done), by repeat (first | exact Drawn0.refl _ | apply Drawn0.step)⟩
    ·have H' := Aside0.mk H
     clear H
     go_wp2
     go_roundg k1
     case measure => have := HK1.out; omega
     case rel => exact ⟨(wrap64 (x5_1 + 1)), EQ, H', ⟨by have := HK1.out; omega⟩, by repeat (first | exact Drawn0.refl _ | apply Drawn0.step)⟩
   ·obtain rfl := Option.some.inj H
    go_wp2
    go_ret
    exact ⟨by first | rfl | (simp; done) | (simp [*]; done), by repeat (first | exact Drawn0.refl _ | apply Drawn0.step)⟩
def spec_SlotsAt.l0 : Nat → Int → List Int → List (S153) → Int → Int → Int → ByteArray → Option (List Int)
 | 0, _, _, _, _, _, _, _ => none
 | k + 1, x1, x5, x6, x7, x301000, x301001, x301002 => if x7 < (x6.length : Int) then (if 0 ≤ x7 then ((spec_CellsOf.f k x301000 x301001 x301002 ((rd_T153 x6 x7).f0) ((rd_T153 x6 x7).f1) ((rd_T153 x6 x7).f2) ((rd_T153 x6 x7).f3)).bind fun t308 => ((spec_l8Has.f k t308 x1).bind fun t311 => (if t311 = true then (if x5.length < 17592186044416 then (spec_SlotsAt.l0 k x1 (x5 ++ [x7]) x6 (wrap64 (x7 + 1)) x301000 x301001 x301002) else (none)) else (spec_SlotsAt.l0 k x1 x5 x6 (wrap64 (x7 + 1)) x301000 x301001 x301002)))) else (none)) else (some x5)
def spec_SlotsAt.f (k : Nat) (a0_0 : Int) (a0_1 : Int) (a0_2 : ByteArray) (a1 : Int) : Option (List Int) := (spec_SlotsOf.f k a0_0 a0_1 a0_2).bind fun t304 => (spec_SlotsAt.l0 k a1 (([] : List Int)) t304 0 a0_0 a0_1 a0_2)
def spec_SlotsAt.T6 : Bool × List (List Nat × List Nat) := (true, [([], []), ([], []), ([], []), ([1, 2], [1, 2]), ([3], [3]), ([0, 4], [0, 4]), ([], []), ([5, 6, 5], [5, 6])])
def spec_SlotsAt.B6 : List Nat := [0, 0, 0, 6, 14, 31, 0, 127]
theorem spec_SlotsAt.tab6 : rtab .any (opsOf Try.f174 6) = spec_SlotsAt.T6 := by kernel_rfl
theorem spec_SlotsAt.bits6 : waitsOk spec_SlotsAt.T6.2 spec_SlotsAt.B6 = true := by kernel_rfl
set_option maxHeartbeats 8000000 in
set_option maxRecDepth 100000 in
theorem spec_SlotsAt.calls (k : Nat) (a0_0 : Int) (a0_1 : Int) (a0_2 : ByteArray) (a1 : Int) (r : List Int) (w : World) (h : spec_SlotsAt.f k a0_0 a0_1 a0_2 a1 = some r) :
  Calls Try.prog 174 #[.agg #[.int .i64 a0_0, .int .i64 a0_1, .string a0_2], .int .i64 a1] w fun e w' => ∃ v0_ : Value, e = .returned (v0_) ∧ Kd.R (Kd.int .i64) 3 w' w.heap.size (fun _ => True) v0_ r ∧ Below w.heap.size w w' := by
 have hu66 := Try.underlying66
 have hu153 := Try.underlying153
 have HB := Aside0.mk (Below.refl w.heap.size w)
 have H : ((spec_SlotsOf.f k a0_0 a0_1 a0_2).bind fun t304 => (spec_SlotsAt.l0 k a1 (([] : List Int)) t304 0 a0_0 a0_1 a0_2)) = some r := h
 clear h
 obtain ⟨y301, hy301⟩ : ∃ y_ : List Int, y_ = (([] : List Int)) := ⟨_, rfl⟩
 replace H : ((spec_SlotsOf.f k a0_0 a0_1 a0_2).bind fun t304 => (spec_SlotsAt.l0 k a1 y301 t304 0 a0_0 a0_1 a0_2)) = some r := by first | (rw [hy301]; with_reducible exact H) | (have H2_ := (Option.bind_some _ _).symm.trans H; rw [hy301]; with_reducible exact H2_) | (have H2_ := (Option.bind_some _ _).symm.trans H; with_reducible exact H2_) | with_reducible exact H | (rw [hy301]; exact H) | exact H
 have Ny301 := Aside0.mk hy301
 clear hy301
 replace H := be H; obtain ⟨t304, A3, H⟩ := H
 have H' := Aside0.mk H
 clear H
 go_enter Try.func174, Try.ntmps174
 go_wp2_with (first | ((with_reducible refine gate_dst (N := 2) rfl ?_); refine box_ev (N := 2) (cs := #[.int .i64 a0_0, .int .i64 a0_1, .string a0_2]) (t := 66) ?_; intro gb300 hg w4 hbox hb; have n0_ := BS (w := w) hb; have n1_ := Aside0.mk (hbox); have n2_ := SZ (w := w) hg; have n3_ := SZ (w := w) hg; clear HB; have HB := n0_; have BK300 := n1_; have GW300 := n2_; have GE300 := n3_; clear n0_ n1_ n2_ n3_; clear hb hbox hg) | ((with_reducible refine gate_dst (N := 8) rfl ?_); refine Kd.R_lit (Kd.int .i64) _ 3 ?hg (N := 8) ?hd (xs := ([] : List Int)) (inner := []) (ok := fun _ => True) (okp := fun _ => True) ?hr ?hp (fun _ hk => hk) trivial (Below.refl _ _) (Nat.le_refl _) (by simp) ?_; (case hd => rfl); (case hg => rfl); (case hr => first | (go_simp; done) | (go_simp; rfl)); (case hp => exact (Reps.none _ _)); intro v302 w5 ho6 hb hg_ hnew_; clear hg_ hnew_; (first | rw [← Ny301.out] at ho6 | (simp only [Int.reduceToNat] at ho6; rw [← Ny301.out] at ho6)); have n0_ := Aside0.mk (Kd.R_lower ho6 (below_size BL)); replace BK300 := KB BK300 hb; replace HB := BS (w := w) hb; have HO303 := n0_; clear n0_; clear hb ho6; obtain ⟨hcz7_0, hcz7_1, hcz7_2, hfz7_0, hfz7_1, hfz7_2⟩ := cz3 BK300.out) | ((with_reducible refine gate_callee (f := 84) rfl ?_); refine goesS (some 10) Try.func84 #[.agg #[.int .i64 a0_0, .int .i64 a0_1, .string a0_2]] ?_; (with_reducible refine (spec_SlotsOf.calls k a0_0 a0_1 a0_2 t304 _ A3.out).mono ?_); rintro e w8 ⟨v305, rfl, ho0, hb⟩; refine ⟨_, rfl, ?_⟩; have n1_ := Aside0.mk (Kd.R_lower ho0 (below_size BL)); replace HO303 := RB HO303 hb; replace BK300 := KB BK300 hb; replace HB := BS (w := w) hb; have HO306 := n1_; clear n1_; (try clear hb); (try clear ho0)))
 go_loopg [5, 7] k (fun kq v5 v7 w' => ∃ (x5_1 : List Int) (x7_1 : Int), v7 = .int .i64 x7_1 ∧ Aside0 (spec_SlotsAt.l0 kq a1 x5_1 t304 x7_1 a0_0 a0_1 a0_2 = some r) ∧ Aside0 (kq ≤ k) ∧ Aside0 (Kd.R (Kd.int .i64) 3 w' w.heap.size (fun _ => True) v5 x5_1) ∧ Aside0 (Kd.R k153 153 w' w.heap.size (fun _ => True) v305 t304) ∧ Aside0 (w'.heap[gb300]? = some (.cells #[.int .i64 a0_0, .int .i64 a0_1, .string a0_2] 66 (0, 0))) ∧ Aside0 (Below w.heap.size w w'))
 case atStart => exact ⟨(y301), (0), EQ, H', ⟨Nat.le_refl _⟩, ⟨(RR HO303)⟩, ⟨(RR HO306)⟩, ⟨BK⟩, ⟨BL⟩⟩
 case round =>
  clear H'
  try clear hcz7_0
  try clear hcz7_1
  try clear hcz7_2
  try clear hfz7_0
  try clear hfz7_1
  try clear hfz7_2
  obtain ⟨x5_1, x7_1, rfl, HA, HK1, HO_5, HO_6, BK300, HB⟩ := hrel
  cases gk with
  | zero => exact absurd HA.out (by simp [spec_SlotsAt.l0])
  | succ k1 =>
   have H := HA.out
   clear HA
   simp only [spec_SlotsAt.l0] at H
   obtain ⟨Ao7000, co7000, eo7000⟩ := Kd.R_slice HO_6.out
   subst eo7000
   replace H := ifD H; rcases H with ⟨c9b0, H⟩ | ⟨c9b0, H⟩
   ·replace H := ifN H; obtain ⟨c10b0, H⟩ := H
    replace H := be H; obtain ⟨t308, A11, H⟩ := H
    replace H := be H; obtain ⟨t311, A12, H⟩ := H
    replace H := Aside0.mk H
    try go_wp2
    replace HO_5 := Aside0.mk (Kd.R_drew HO_5.out)
    replace HO_6 := Aside0.mk (Kd.R_drew HO_6.out)
    replace BK300 := Aside0.mk (blk_drew BK300.out)
    replace HB := Aside0.mk (below_drew1 HB.out)
    have p307 : 0 ≤ (x7_1 : Int) := OD
    have q307 : x7_1 < (t304.length : Int) := OD
    obtain ⟨ad307, e307, hx307_0, hx307_1, hx307_2, hx307_3⟩ := at_T153 (Kd.R_reads' HO_6.out).2.2 x7_1 p307 q307
    cases e307
    replace p307 := eq_true p307
    replace q307 := eq_true q307
    refine start_ (n := 8) (S := fun w' => w'.cell? ⟨gb300, 0, none⟩ = some (.int .i64 a0_0) ∧ w'.cell? ⟨gb300, 1, none⟩ = some (.int .i64 a0_1) ∧ w'.cell? ⟨gb300, 2, none⟩ = some (.string a0_2) ∧ w'.cell? (ad307.add ((x7_1).toNat * 4)) = some (.int .i64 ((rd_T153 t304 x7_1).f0)) ∧ w'.cell? ⟨(ad307.add ((x7_1).toNat * 4)).block, (ad307.add ((x7_1).toNat * 4)).off + 1, none⟩ = some (.bool ((rd_T153 t304 x7_1).f1)) ∧ w'.cell? ⟨(ad307.add ((x7_1).toNat * 4)).block, (ad307.add ((x7_1).toNat * 4)).off + 2, none⟩ = some (.int .i64 ((rd_T153 t304 x7_1).f2)) ∧ w'.cell? ⟨(ad307.add ((x7_1).toNat * 4)).block, (ad307.add ((x7_1).toNat * 4)).off + 3, none⟩ = some (.int .i64 ((rd_T153 t304 x7_1).f3))) (ds := []) #[false, false, false, false, false, false, false, false] (by kernel_rfl) rfl rfl ⟨(blk_cell BK300.out 0).trans rfl, (blk_cell BK300.out 1).trans rfl, (blk_cell BK300.out 2).trans rfl, hx307_0, hx307_1, hx307_2, hx307_3⟩ (fun hHeld => ?_); refine with_tabW spec_SlotsAt.tab6 spec_SlotsAt.bits6 (fun HT_ HW_ => ?_)
    generalize wr.drew = w7001 at HO_5 HO_6 BK300 HB hx307_0 hx307_1 hx307_2 hx307_3 hHeld ⊢
    refine puS (i := 1) (N := some 18) #[false, true, false, false, false, false, false, false] (any_of HT_.out (by kernel_rfl)) ?_
    refine puS (i := 2) (N := some 19) #[false, true, true, false, false, false, false, false] (any_of HT_.out (by kernel_rfl)) ?_
    refine puS (i := 3) (N := some 20) #[false, true, true, true, false, false, false, false] (any_of HT_.out (by kernel_rfl)) ?_
    refine puS (i := 6) (N := some 23) #[false, true, true, true, false, false, true, false] (any_of HT_.out (by kernel_rfl)) ?_
    refine taS (i := 0) (N := some 17) #[true, true, true, true, false, false, true, false] (take_ofW HT_.out HW_.out (by kernel_rfl)) hHeld ?_
    refine taS (i := 4) (N := some 21) #[true, true, true, true, true, false, true, false] (take_ofW HT_.out HW_.out (by kernel_rfl)) hHeld ?_
    refine one_ (i := 5) (N := some 22) #[true, true, true, true, true, true, true, false] rfl rfl (one_of HT_.out (by kernel_rfl)) (by decide) (fun K hK => ?_)
    refine goesR Try.func181 #[.agg #[.int .i64 a0_0, .int .i64 a0_1, .string a0_2], .agg #[.int .i64 ((rd_T153 t304 x7_1).f0), .bool ((rd_T153 t304 x7_1).f1), .int .i64 ((rd_T153 t304 x7_1).f2), .int .i64 ((rd_T153 t304 x7_1).f3)]] ?_
    with_reducible refine (spec_CellsOf.calls k1 a0_0 a0_1 a0_2 ((rd_T153 t304 x7_1).f0) ((rd_T153 t304 x7_1).f1) ((rd_T153 t304 x7_1).f2) ((rd_T153 t304 x7_1).f3) t308 _ A11.out).mono ?_
    rintro e w7002 ⟨v309, rfl, ho0, hb⟩
    have HS3_ := (hb.cell (World.block_lt_of_cell? _ _ (hHeld.2.2.2.1))).trans (hHeld.2.2.2.1)
    have HS4_ := (hb.cell (World.block_lt_of_cell? _ _ (hHeld.2.2.2.2.1))).trans (hHeld.2.2.2.2.1)
    have HS5_ := (hb.cell (World.block_lt_of_cell? _ _ (hHeld.2.2.2.2.2.1))).trans (hHeld.2.2.2.2.2.1)
    have HS6_ := (hb.cell (World.block_lt_of_cell? _ _ (hHeld.2.2.2.2.2.2))).trans (hHeld.2.2.2.2.2.2)
    refine ⟨_, rfl, ?_⟩
    have n0_ := Aside0.mk (Kd.R_elder' (RR HO_5) (Kd.R_base ho0) hb)
    have n1_ := RB HO_6 hb
    have n2_ := Aside0.mk (Kd.R_lower (Kd.R_new' ho0 (Kd.R_lt (RR HO_5))) (below_size BL))
    have n3_ := KB BK300 hb
    have n4_ := BS (w := w) hb
    clear HO_5
    clear HO_6
    clear BK300
    clear HB
    have HO_5 := n0_
    have HO_6 := n1_
    have HO310 := n2_
    have BK300 := n3_
    have HB := n4_
    clear n0_ n1_ n2_ n3_ n4_
    (try clear hb)
    (try clear ho0)
    obtain ⟨Ao7003, co7003, eo7003⟩ := Kd.R_slice HO310.out
    (first | subst eo7003 | (injection eo7003 with f1_ f2_ f3_; have f4_ := f1_.symm; have f5_ := f3_.symm; clear f1_ f2_ f3_; subst f4_; subst f5_))
    refine hK.out _ _ ⟨(blk_cell BK300.out 0).trans rfl, (blk_cell BK300.out 1).trans rfl, (blk_cell BK300.out 2).trans rfl, HS3_, HS4_, HS5_, HS6_⟩ (fun hHeld => ?_)
    clear hK K
    refine nrm (some 22) ?_
    refine one_ (i := 7) (N := some 24) #[true, true, true, true, true, true, true, true] rfl rfl (one_of HT_.out (by kernel_rfl)) (by decide) (fun K hK => ?_)
    refine goesR Try.func197 #[.slice Ao7003 t308.length co7003, .int .i64 a1] ?_
    with_reducible refine (spec_l8Has.calls k1 _ _ t308 a1 _ _ ?side1 ?side2 A12.out).mono ?_
    (case side1 => exact CR2 HO310)
    (case side2 => exact (Kd.R_reads' HO310.out).2.1)
    rintro e w' ⟨rfl, ⟨nd, rfl⟩⟩
    refine ⟨_, rfl, ?_⟩
    refine hK.out _ _ ⟨(blk_cell BK300.out 0).trans rfl, (blk_cell BK300.out 1).trans rfl, (blk_cell BK300.out 2).trans rfl, hHeld.2.2.2.1, hHeld.2.2.2.2.1, hHeld.2.2.2.2.2.1, hHeld.2.2.2.2.2.2⟩ (fun hHeld => ?_)
    clear hK K
    refine nrm (some 24) ?_
    replace H := H.out
    replace H := ifB H; rcases H with ⟨rfl, H⟩ | ⟨rfl, H⟩
    ·replace H := ifP H; obtain ⟨c14, H⟩ := H
     have LMc14 := Aside0.mk c14
     clear c14
     obtain ⟨y312, hy312⟩ : ∃ y_ : List Int, y_ = (x5_1 ++ [x7_1]) := ⟨_, rfl⟩
     replace H : (spec_SlotsAt.l0 k1 a1 y312 t304 (wrap64 (x7_1 + 1)) a0_0 a0_1 a0_2) = some r := by first | (rw [hy312]; with_reducible exact H) | (have H2_ := (Option.bind_some _ _).symm.trans H; rw [hy312]; with_reducible exact H2_) | (have H2_ := (Option.bind_some _ _).symm.trans H; with_reducible exact H2_) | with_reducible exact H | (rw [hy312]; exact H) | exact H
     have Ny312 := Aside0.mk hy312
     clear hy312
     have H' := Aside0.mk H
     clear H
     refine done_ (done_of HT_.out (by kernel_rfl)) ?_
     try go_wp2_with (first | ((with_reducible refine gate_builtin (b := .append) (xs := #[.tmp 25, .tmp 27]) rfl ?_); at_builtin; refine Kd.R_append (Kd.int .i64) (w0 := w) w.heap.size rfl (.tmp 25) (.tmp 27) 45 3 (.int .i64 0) 8 rfl Try.underlying45 info3 rfl (by decide) (by omega) u5 x5_1 x7_1 [.int .i64 x7_1] (fun k_ => some k_ ≠ (.slice Ao7003 t308.length co7003 : Value).ownBlock) (fun _ => False) rfl rfl ?aP (fun _ hk => hk.elim) ?aF ?aO ?aB ?aS ?aL ?_; (case aP => exact rfl); (case aB => exact BL); (case aF => exact (fun k_ hk => Kd.fresh' (Kd.R_lt (RR HO310)) k_ hk)); (case aO => exact (by (with_reducible repeat (first | apply Kd.R_alloc | apply Kd.R_drewN | apply Kd.R_drew)); exact Kd.R_mono HO_5.out (fun _ hk => hk.2))); (case aS => exact (below_size BL)); (case aL => have := LMc14.out; omega); intro v313 w7004 ho hb hg hat; rw [← Ny312.out] at ho; have n0_ := Aside0.mk (Kd.R_over' (RR HO_6) (Kd.R_typed (RR HO_5)) (by decide) hg); have n1_ := Aside0.mk (blk_grown (g := gb300) (o := .cells #[.int .i64 a0_0, .int .i64 a0_1, .string a0_2] 66 (0, 0)) BK hg (Kd.R_ne HO_5.out BK300.out (by decide))); have n2_ := Aside0.mk (Kd.R_after (ok := (fun _ => True)) (RR HO310) hg hat); have n3_ := Aside0.mk (hb); have n4_ := Aside0.mk (ho); clear HO_6 BK300 HO310 HB HO_5; have HO_6 := n0_; have BK300 := n1_; have HO310 := n2_; have HB := n3_; have HO314 := n4_; clear n0_ n1_ n2_ n3_ n4_; clear ho hb hg hat))
     go_roundg k1
     case measure => have := HK1.out; omega
     case rel => exact ⟨(y312), (wrap64 (x7_1 + 1)), EQ, H', ⟨by have := HK1.out; omega⟩, ⟨by (with_reducible repeat (first | apply Kd.R_alloc | apply Kd.R_drewN | apply Kd.R_drew)); exact Kd.R_mono HO314.out (fun _ hk => trivial)⟩, ⟨(RR HO_6)⟩, ⟨BK⟩, ⟨BL⟩⟩
    ·have H' := Aside0.mk H
     clear H
     refine done_ (done_of HT_.out (by kernel_rfl)) ?_
     try go_wp2
     go_roundg k1
     case measure => have := HK1.out; omega
     case rel => exact ⟨(x5_1), (wrap64 (x7_1 + 1)), EQ, H', ⟨by have := HK1.out; omega⟩, ⟨by (with_reducible repeat (first | apply Kd.R_alloc | apply Kd.R_drewN | apply Kd.R_drew)); exact Kd.R_mono HO_5.out (fun _ hk => trivial)⟩, ⟨(RR HO_6)⟩, ⟨BK⟩, ⟨BL⟩⟩
   ·obtain rfl := Option.some.inj H
    go_wp2
    go_ret
    exact ⟨_, EWW, (RR HO_5), BL⟩
def spec_IsChecked.f (k : Nat) (a0_0 : Int) (a0_1 : Int) (a0_2 : ByteArray) (a1 : Int) : Option (Bool) := (spec_SlotsAt.f k a0_0 a0_1 a0_2 a1).bind fun t316 => (some ((t316.length : Int) == 2))
set_option maxHeartbeats 8000000 in
set_option maxRecDepth 100000 in
theorem spec_IsChecked.calls (k : Nat) (a0_0 : Int) (a0_1 : Int) (a0_2 : ByteArray) (a1 : Int) (r : Bool) (w : World) (h : spec_IsChecked.f k a0_0 a0_1 a0_2 a1 = some r) :
  Calls Try.prog 196 #[.agg #[.int .i64 a0_0, .int .i64 a0_1, .string a0_2], .int .i64 a1] w fun e w' => e = .returned (.bool r) ∧ Below w.heap.size w w' := by
 have hu66 := Try.underlying66
 have HB := Aside0.mk (Below.refl w.heap.size w)
 have H : ((spec_SlotsAt.f k a0_0 a0_1 a0_2 a1).bind fun t316 => (some ((t316.length : Int) == 2))) = some r := h
 clear h
 replace H := be H; obtain ⟨t316, A3, H⟩ := H
 obtain rfl := Option.some.inj H
 go_enter Try.func196, Try.ntmps196
 go_wp2_with (first | ((with_reducible refine gate_dst (N := 2) rfl ?_); refine box_ev (N := 2) (cs := #[.int .i64 a0_0, .int .i64 a0_1, .string a0_2]) (t := 66) ?_; intro gb315 hg w4 hbox hb; have n0_ := BS (w := w) hb; have n1_ := Aside0.mk (hbox); have n2_ := SZ (w := w) hg; have n3_ := SZ (w := w) hg; clear HB; have HB := n0_; have BK315 := n1_; have GW315 := n2_; have GE315 := n3_; clear n0_ n1_ n2_ n3_; clear hb hbox hg; obtain ⟨hcz5_0, hcz5_1, hcz5_2, hfz5_0, hfz5_1, hfz5_2⟩ := cz3 BK315.out) | ((with_reducible refine gate_callee (f := 174) rfl ?_); refine goesS (some 7) Try.func174 #[.agg #[.int .i64 a0_0, .int .i64 a0_1, .string a0_2], .int .i64 a1] ?_; (with_reducible refine (spec_SlotsAt.calls k a0_0 a0_1 a0_2 a1 t316 _ A3.out).mono ?_); rintro e w6 ⟨v317, rfl, ho0, hb⟩; refine ⟨_, rfl, ?_⟩; have n0_ := Aside0.mk (Kd.R_lower ho0 (below_size BL)); replace BK315 := KB BK315 hb; replace HB := BS (w := w) hb; have HO318 := n0_; clear n0_; (try clear hb); (try clear ho0); obtain ⟨Ao7, co7, eo7⟩ := Kd.R_slice HO318.out; subst eo7))
 go_ret
 exact ⟨EWW, BL⟩
end Go.Proofs.Ythjcicmmbmagbaa.PFnExactIsSolved
