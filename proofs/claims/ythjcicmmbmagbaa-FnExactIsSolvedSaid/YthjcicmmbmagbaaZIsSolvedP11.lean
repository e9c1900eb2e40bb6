/- Walks of functions: what each computes. -/
import Derived.Test.YthjcicmmbmagbaaZIsSolvedP0
import Derived.Test.YthjcicmmbmagbaaZIsSolvedP5
import Derived.Test.YthjcicmmbmagbaaZIsSolvedP7
import Derived.Test.YthjcicmmbmagbaaZIsSolvedP8
import Derived.Test.YthjcicmmbmagbaaZIsSolvedP10
import Derived.Test.YthjcicmmbmagbaaZIsSolvedW
import Derived.Test.YthjcicmmbmagbaaZIsSolvedShelf
import Derived.Test.YthjcicmmbmagbaaZIsSolvedHandSort
import Derived.Test.YthjcicmmbmagbaaZIsSolvedHandForm
import Derived.Test.YthjcicmmbmagbaaZIsSolvedHandAlone
import Derived.Test.YthjcicmmbmagbaaZIsSolvedHandReach
namespace Go.Proofs.Ythjcicmmbmagbaa.PFnExactIsSolved
open Go.RowKit Go.Proofs.YthjcicmmbmagbaaW.PrintWords Go.Proofs.YthjcicmmbmagbaaW.PrintLast Go.Proofs.YthjcicmmbmagbaaW.PrintMore Go.Proofs.Ythjcicmmbmagbaa.Sq
attribute [local go_sem] max2_int min2_int max_two min_two max_three min_three max_four min_four
set_option linter.unusedVariables false
set_option linter.unusedSimpArgs false
def spec_UncheckedIn.l0 : Nat → List Int → Int → Int → Int → Int → ByteArray → Option (Int)
 | 0, _, _, _, _, _, _ => none
 | k + 1, x6, x7, x8, x320000, x320001, x320002 => if x8 < (x6.length : Int) then (if 0 ≤ x8 then ((spec_IsChecked.f k x320000 x320001 x320002 (rd x6 x8)).bind fun t329 => (if t329 = true then (spec_UncheckedIn.l0 k x6 x7 (wrap64 (x8 + 1)) x320000 x320001 x320002) else (spec_UncheckedIn.l0 k x6 (wrap64 (x7 + 1)) (wrap64 (x8 + 1)) x320000 x320001 x320002))) else (none)) else (some x7)
def spec_UncheckedIn.f (k : Nat) (a0_0 : Int) (a0_1 : Int) (a0_2 : ByteArray) (a1 : Int) : Option (Int) := (spec_SlotsOf.f k a0_0 a0_1 a0_2).bind fun t320 => ((spec_l1In.f a1 0 (wrap64 ((t320.length : Int) - 1))).bind fun t323 => (if t323 = true then (if 0 ≤ a1 then (if a1 < (t320.length : Int) then ((spec_CellsOf.f k a0_0 a0_1 a0_2 ((rd_T153 t320 a1).f0) ((rd_T153 t320 a1).f1) ((rd_T153 t320 a1).f2) ((rd_T153 t320 a1).f3)).bind fun t325 => (spec_UncheckedIn.l0 k t325 0 0 a0_0 a0_1 a0_2)) else (none)) else (none)) else (some (-1))))
set_option maxHeartbeats 8000000 in
set_option maxRecDepth 100000 in
theorem spec_UncheckedIn.calls (k : Nat) (a0_0 : Int) (a0_1 : Int) (a0_2 : ByteArray) (a1 : Int) (r : Int) (w : World) (h : spec_UncheckedIn.f k a0_0 a0_1 a0_2 a1 = some r) :
  Calls Try.prog 172 #[.agg #[.int .i64 a0_0, .int .i64 a0_1, .string a0_2], .int .i64 a1] w fun e w' => e = .returned (.int .i64 r) ∧ Below w.heap.size w w' := by
 have hu66 := Try.underlying66
 have hu153 := Try.underlying153
 have HB := Aside0.mk (Below.refl w.heap.size w)
 have H : ((spec_SlotsOf.f k a0_0 a0_1 a0_2).bind fun t320 => ((spec_l1In.f a1 0 (wrap64 ((t320.length : Int) - 1))).bind fun t323 => (if t323 = true then (if 0 ≤ a1 then (if a1 < (t320.length : Int) then ((spec_CellsOf.f k a0_0 a0_1 a0_2 ((rd_T153 t320 a1).f0) ((rd_T153 t320 a1).f1) ((rd_T153 t320 a1).f2) ((rd_T153 t320 a1).f3)).bind fun t325 => (spec_UncheckedIn.l0 k t325 0 0 a0_0 a0_1 a0_2)) else (none)) else (none)) else (some (-1))))) = some r := h
 clear h
 replace H := be H; obtain ⟨t320, A3, H⟩ := H
 replace H := be H; obtain ⟨t323, A4, H⟩ := H
 replace H := Aside0.mk H
 go_enter Try.func172, Try.ntmps172
 go_wp2_with (first | ((with_reducible refine gate_dst (N := 2) rfl ?_); refine box_ev (N := 2) (cs := #[.int .i64 a0_0, .int .i64 a0_1, .string a0_2]) (t := 66) ?_; intro gb319 hg w9000 hbox hb; have n0_ := BS (w := w) hb; have n1_ := Aside0.mk (hbox); have n2_ := SZ (w := w) hg; have n3_ := SZ (w := w) hg; clear HB; have HB := n0_; have BK319 := n1_; have GW319 := n2_; have GE319 := n3_; clear n0_ n1_ n2_ n3_; clear hb hbox hg; obtain ⟨hcz9001_0, hcz9001_1, hcz9001_2, hfz9001_0, hfz9001_1, hfz9001_2⟩ := cz3 BK319.out) | ((with_reducible refine gate_callee (f := 84) rfl ?_); refine goesS (some 10) Try.func84 #[.agg #[.int .i64 a0_0, .int .i64 a0_1, .string a0_2]] ?_; (with_reducible refine (spec_SlotsOf.calls k a0_0 a0_1 a0_2 t320 _ A3.out).mono ?_); rintro e w9002 ⟨v321, rfl, ho0, hb⟩; refine ⟨_, rfl, ?_⟩; have n0_ := Aside0.mk (Kd.R_lower ho0 (below_size BL)); replace BK319 := KB BK319 hb; replace HB := BS (w := w) hb; have HO322 := n0_; clear n0_; (try clear hb); (try clear ho0); obtain ⟨Ao9003, co9003, eo9003⟩ := Kd.R_slice HO322.out; subst eo9003) | ((with_reducible refine gate_callee (f := 86) rfl ?_); refine goesS (some 15) Try.func86 #[.int .i64 a1, .int .i64 0, .int .i64 (wrap64 ((t320.length : Int) - 1))] ?_; (with_reducible refine (spec_l1In.calls a1 0 (wrap64 ((t320.length : Int) - 1)) _ _ A4.out).mono ?_); rintro e w' ⟨rfl, ⟨nd, rfl⟩⟩; refine ⟨_, rfl, ?_⟩; refine stop_ ?_))
 refine Hide.mk ?_
 replace H := H.out
 replace H := ifB H; rcases H with ⟨rfl, H⟩ | ⟨rfl, H⟩
 ·replace H := ifN H; obtain ⟨c6b0, H⟩ := H
  replace H := ifN H; obtain ⟨c7b0, H⟩ := H
  replace H := be H; obtain ⟨t325, A8, H⟩ := H
  have H' := Aside0.mk H
  clear H
  try go_wp2
  (try (rw [drewN_self w9002]; generalize hq_ : World.drewN w9002 _ = w9002; have n0_ : Aside0 (Kd.R k153 153 w9002 w.heap.size (fun _ => True) (.slice Ao9003 t320.length co9003) t320) := ⟨by rw [← hq_]; exact (RR HO322)⟩; have n1_ : Aside0 (w9002.heap[gb319]? = some (.cells #[.int .i64 a0_0, .int .i64 a0_1, .string a0_2] 66 (0, 0))) := ⟨by rw [← hq_]; exact BK⟩; have n2_ : Aside0 (Below w.heap.size w w9002) := ⟨by rw [← hq_]; exact BL⟩; clear HO322 BK319 HB hq_; have HO322 := n0_; have BK319 := n1_; have HB := n2_; clear n0_ n1_ n2_))
  replace HO322 := Aside0.mk (Kd.R_drew HO322.out)
  replace BK319 := Aside0.mk (blk_drew BK319.out)
  replace HB := Aside0.mk (below_drew1 HB.out)
  have p324 : 0 ≤ (a1 : Int) := OD
  have q324 : a1 < (t320.length : Int) := OD
  obtain ⟨ad324, e324, hx324_0, hx324_1, hx324_2, hx324_3⟩ := at_T153 (Kd.R_reads' HO322.out).2.2 a1 p324 q324
  cases e324
  replace p324 := eq_true p324
  replace q324 := eq_true q324
  refine start_ (n := 7) (S := fun w' => w'.cell? ⟨gb319, 0, none⟩ = some (.int .i64 a0_0) ∧ w'.cell? ⟨gb319, 1, none⟩ = some (.int .i64 a0_1) ∧ w'.cell? ⟨gb319, 2, none⟩ = some (.string a0_2) ∧ w'.cell? (ad324.add ((a1).toNat * 4)) = some (.int .i64 ((rd_T153 t320 a1).f0)) ∧ w'.cell? ⟨(ad324.add ((a1).toNat * 4)).block, (ad324.add ((a1).toNat * 4)).off + 1, none⟩ = some (.bool ((rd_T153 t320 a1).f1)) ∧ w'.cell? ⟨(ad324.add ((a1).toNat * 4)).block, (ad324.add ((a1).toNat * 4)).off + 2, none⟩ = some (.int .i64 ((rd_T153 t320 a1).f2)) ∧ w'.cell? ⟨(ad324.add ((a1).toNat * 4)).block, (ad324.add ((a1).toNat * 4)).off + 3, none⟩ = some (.int .i64 ((rd_T153 t320 a1).f3))) (ds := []) #[false, false, false, false, false, false, false] (by kernel_rfl) rfl rfl ⟨(blk_cell BK319.out 0).trans rfl, (blk_cell BK319.out 1).trans rfl, (blk_cell BK319.out 2).trans rfl, hx324_0, hx324_1, hx324_2, hx324_3⟩ (fun hHeld => ?_)
  generalize w9002.drew = w9004 at HO322 BK319 HB hx324_0 hx324_1 hx324_2 hx324_3 hHeld ⊢
  refine puS (i := 1) (N := some 18) #[false, true, false, false, false, false, false] (by kernel_rfl) ?_
  refine puS (i := 2) (N := some 19) #[false, true, true, false, false, false, false] (by kernel_rfl) ?_
  refine puS (i := 3) (N := some 20) #[false, true, true, true, false, false, false] (by kernel_rfl) ?_
  refine taS (i := 0) (N := some 17) #[true, true, true, true, false, false, false] (by kernel_rfl) hHeld ?_
  refine taS (i := 4) (N := some 21) #[true, true, true, true, true, false, false] (by kernel_rfl) hHeld ?_
  refine one_ (i := 5) (N := some 22) #[true, true, true, true, true, true, false] rfl rfl (by kernel_rfl) (by decide) (fun K hK => ?_)
  refine goesR Try.func181 #[.agg #[.int .i64 a0_0, .int .i64 a0_1, .string a0_2], .agg #[.int .i64 ((rd_T153 t320 a1).f0), .bool ((rd_T153 t320 a1).f1), .int .i64 ((rd_T153 t320 a1).f2), .int .i64 ((rd_T153 t320 a1).f3)]] ?_
  with_reducible refine (spec_CellsOf.calls k a0_0 a0_1 a0_2 ((rd_T153 t320 a1).f0) ((rd_T153 t320 a1).f1) ((rd_T153 t320 a1).f2) ((rd_T153 t320 a1).f3) t325 _ A8.out).mono ?_
  rintro e w9005 ⟨v326, rfl, ho0, hb⟩
  have HS3_ := (hb.cell (World.block_lt_of_cell? _ _ (hHeld.2.2.2.1))).trans (hHeld.2.2.2.1)
  have HS4_ := (hb.cell (World.block_lt_of_cell? _ _ (hHeld.2.2.2.2.1))).trans (hHeld.2.2.2.2.1)
  have HS5_ := (hb.cell (World.block_lt_of_cell? _ _ (hHeld.2.2.2.2.2.1))).trans (hHeld.2.2.2.2.2.1)
  have HS6_ := (hb.cell (World.block_lt_of_cell? _ _ (hHeld.2.2.2.2.2.2))).trans (hHeld.2.2.2.2.2.2)
  refine ⟨_, rfl, ?_⟩
  have n0_ := RB HO322 hb
  have n1_ := Aside0.mk (Kd.R_lower ho0 (below_size BL))
  have n2_ := KB BK319 hb
  have n3_ := BS (w := w) hb
  clear HO322
  clear BK319
  clear HB
  have HO322 := n0_
  have HO327 := n1_
  have BK319 := n2_
  have HB := n3_
  clear n0_ n1_ n2_ n3_
  (try clear hb)
  (try clear ho0)
  refine hK.out _ _ ⟨(blk_cell BK319.out 0).trans rfl, (blk_cell BK319.out 1).trans rfl, (blk_cell BK319.out 2).trans rfl, HS3_, HS4_, HS5_, HS6_⟩ (fun hHeld => ?_)
  clear hK K
  refine nrm (some 22) ?_
  refine puS (i := 6) (N := some 6) #[true, true, true, true, true, true, true] (by kernel_rfl) ?_
  refine done_ (by kernel_rfl) ?_
  try go_wp2
  go_loopg [7, 8] k (fun kq v7 v8 w' => ∃ (x7_1 : Int) (x8_1 : Int), v7 = .int .i64 x7_1 ∧ v8 = .int .i64 x8_1 ∧ Aside0 (spec_UncheckedIn.l0 kq t325 x7_1 x8_1 a0_0 a0_1 a0_2 = some r) ∧ Aside0 (kq ≤ k) ∧ Aside0 (Kd.R (Kd.int .i64) 3 w' w.heap.size (fun _ => True) v326 t325) ∧ Aside0 (w'.heap[gb319]? = some (.cells #[.int .i64 a0_0, .int .i64 a0_1, .string a0_2] 66 (0, 0))) ∧ Aside0 (Below w.heap.size w w'))
  case atStart => exact ⟨(0), (0), EQ, EQ, H', ⟨Nat.le_refl _⟩, ⟨(RR HO327)⟩, ⟨BK⟩, ⟨BL⟩⟩
  case round =>
   clear H'
   try clear c5
   try clear c6
   try clear c6b0
   try clear c7
   try clear c7b0
   try clear hcz9001_0
   try clear hcz9001_1
   try clear hcz9001_2
   try clear hfz9001_0
   try clear hfz9001_1
   try clear hfz9001_2
   try clear hx324_0
   try clear hx324_1
   try clear hx324_2
   try clear hx324_3
   try clear p324
   try clear q324
   obtain ⟨x7_1, x8_1, rfl, rfl, HA, HK1, HO_6, BK319, HB⟩ := hrel
   cases gk with
   | zero => exact absurd HA.out (by simp [spec_UncheckedIn.l0])
   | succ k1 =>
    have H := HA.out
    clear HA
    simp only [spec_UncheckedIn.l0] at H
    obtain ⟨Ao9006, co9006, eo9006⟩ := Kd.R_slice HO_6.out
    subst eo9006
    replace H := ifD H; rcases H with ⟨c15b0, H⟩ | ⟨c15b0, H⟩
    ·replace H := ifN H; obtain ⟨c16b0, H⟩ := H
     replace H := be H; obtain ⟨t329, A17, H⟩ := H
     replace H := Aside0.mk H
     try go_wp2
     replace HO_6 := Aside0.mk (Kd.R_drew HO_6.out)
     replace BK319 := Aside0.mk (blk_drew BK319.out)
     replace HB := Aside0.mk (below_drew1 HB.out)
     have p328 : 0 ≤ (x8_1 : Int) := OD
     have q328 : x8_1 < (t325.length : Int) := OD
     obtain ⟨ad328, e328, hx328_0⟩ := Kd.at_int (Kd.R_reads' HO_6.out).2.2 x8_1 p328 q328
     cases e328
     replace p328 := eq_true p328
     replace q328 := eq_true q328
     refine start_ (n := 7) (S := fun w' => w'.cell? ⟨gb319, 0, none⟩ = some (.int .i64 a0_0) ∧ w'.cell? ⟨gb319, 1, none⟩ = some (.int .i64 a0_1) ∧ w'.cell? ⟨gb319, 2, none⟩ = some (.string a0_2) ∧ w'.cell? (ad328.add (x8_1).toNat) = some (.int .i64 (rd t325 x8_1))) (ds := []) #[false, false, false, false, false, false, false] (by kernel_rfl) rfl rfl ⟨(blk_cell BK319.out 0).trans rfl, (blk_cell BK319.out 1).trans rfl, (blk_cell BK319.out 2).trans rfl, hx328_0⟩ (fun hHeld => ?_)
     generalize wr.drew = w9007 at HO_6 BK319 HB hx328_0 hHeld ⊢
     refine puS (i := 1) (N := some 30) #[false, true, false, false, false, false, false] (by kernel_rfl) ?_
     refine puS (i := 2) (N := some 31) #[false, true, true, false, false, false, false] (by kernel_rfl) ?_
     refine puS (i := 3) (N := some 32) #[false, true, true, true, false, false, false] (by kernel_rfl) ?_
     refine taS (i := 0) (N := some 29) #[true, true, true, true, false, false, false] (by kernel_rfl) hHeld ?_
     refine taS (i := 4) (N := some 33) #[true, true, true, true, true, false, false] (by kernel_rfl) hHeld ?_
     refine one_ (i := 5) (N := some 34) #[true, true, true, true, true, true, false] rfl rfl (by kernel_rfl) (by decide) (fun K hK => ?_)
     refine goesR Try.func196 #[.agg #[.int .i64 a0_0, .int .i64 a0_1, .string a0_2], .int .i64 (rd t325 x8_1)] ?_
     with_reducible refine (spec_IsChecked.calls k1 a0_0 a0_1 a0_2 (rd t325 x8_1) _ _ A17.out).mono ?_
     rintro e w9008 ⟨rfl, hb⟩
     have HS3_ := (hb.cell (World.block_lt_of_cell? _ _ (hHeld.2.2.2))).trans (hHeld.2.2.2)
     refine ⟨_, rfl, ?_⟩
     replace HO_6 := RB HO_6 hb
     replace BK319 := KB BK319 hb
     replace HB := BS (w := w) hb
     (try clear hb)
     refine hK.out _ _ ⟨(blk_cell BK319.out 0).trans rfl, (blk_cell BK319.out 1).trans rfl, (blk_cell BK319.out 2).trans rfl, HS3_⟩ (fun hHeld => ?_)
     clear hK K
     refine nrm (some 34) ?_
     replace H := H.out
     replace H := ifB H; rcases H with ⟨rfl, H⟩ | ⟨rfl, H⟩
     ·have H' := Aside0.mk H
      clear H
      refine puS (i := 6) (N := some 35) #[true, true, true, true, true, true, true] (by kernel_rfl) ?_
      refine done_ (by kernel_rfl) ?_
      try go_wp2
      go_roundg k1
      case measure => have := HK1.out; omega
      case rel => exact ⟨(x7_1), (wrap64 (x8_1 + 1)), EQ, EQ, H', ⟨by have := HK1.out; omega⟩, ⟨(RR HO_6)⟩, ⟨BK⟩, ⟨BL⟩⟩
     ·have H' := Aside0.mk H
      clear H
      refine puS (i := 6) (N := some 35) #[true, true, true, true, true, true, true] (by kernel_rfl) ?_
      refine done_ (by kernel_rfl) ?_
      try go_wp2
      go_roundg k1
      case measure => have := HK1.out; omega
      case rel => exact ⟨(wrap64 (x7_1 + 1)), (wrap64 (x8_1 + 1)), EQ, EQ, H', ⟨by have := HK1.out; omega⟩, ⟨(RR HO_6)⟩, ⟨BK⟩, ⟨BL⟩⟩
    ·obtain rfl := Option.some.inj H
     go_wp2
     go_ret
     exact ⟨EWW, BL⟩
 ·obtain rfl := Option.some.inj H
  try go_wp2
  go_ret
  exact ⟨EWW, BL⟩
def spec_IsWhite.f (k : Nat) (a0_0 : Int) (a0_1 : Int) (a0_2 : ByteArray) (a1 : Int) : Option (Bool) := (spec_IsGrid.f k a0_0 a0_1 a0_2).bind fun t331 => (if t331 = true then ((spec_l1In.f a1 0 (wrap64 ((a0_2.size : Int) - 1))).bind fun t332 => (if t332 = true then (if 0 ≤ a1 then (if a1 < (a0_2.size : Int) then (some ((bt a0_2 a1) == 46)) else (none)) else (none)) else (some false))) else (some false))
set_option maxHeartbeats 8000000 in
set_option maxRecDepth 100000 in
theorem spec_IsWhite.calls (k : Nat) (a0_0 : Int) (a0_1 : Int) (a0_2 : ByteArray) (a1 : Int) (r : Bool) (w : World) (h : spec_IsWhite.f k a0_0 a0_1 a0_2 a1 = some r) :
  Calls Try.prog 173 #[.agg #[.int .i64 a0_0, .int .i64 a0_1, .string a0_2], .int .i64 a1] w fun e w' => e = .returned (.bool r) ∧ Below w.heap.size w w' := by
 have hu66 := Try.underlying66
 have HB := Aside0.mk (Below.refl w.heap.size w)
 have H : ((spec_IsGrid.f k a0_0 a0_1 a0_2).bind fun t331 => (if t331 = true then ((spec_l1In.f a1 0 (wrap64 ((a0_2.size : Int) - 1))).bind fun t332 => (if t332 = true then (if 0 ≤ a1 then (if a1 < (a0_2.size : Int) then (some ((bt a0_2 a1) == 46)) else (none)) else (none)) else (some false))) else (some false))) = some r := h
 clear h
 replace H := be H; obtain ⟨t331, A3, H⟩ := H
 replace H := Aside0.mk H
 go_enter Try.func173, Try.ntmps173
 go_wp2_with (first | ((with_reducible refine gate_dst (N := 2) rfl ?_); (try (refine gate_guard (by rfl) ?_; dsimp only)); refine box_ev (N := 2) (cs := #[.int .i64 a0_0, .int .i64 a0_1, .string a0_2]) (t := 66) ?_; intro gb330 hg w9000 hbox hb; have n0_ := BS (w := w) hb; have n1_ := Aside0.mk (hbox); have n2_ := SZ (w := w) hg; have n3_ := SZ (w := w) hg; clear HB; have HB := n0_; have BK330 := n1_; have GW330 := n2_; have GE330 := n3_; clear n0_ n1_ n2_ n3_; clear hb hbox hg; obtain ⟨hcz9001_0, hcz9001_1, hcz9001_2, hfz9001_0, hfz9001_1, hfz9001_2⟩ := cz3 BK330.out) | ((with_reducible refine gate_callee (f := 131) rfl ?_); refine goesS (some 6) Try.func131 #[.agg #[.int .i64 a0_0, .int .i64 a0_1, .string a0_2]] ?_; (with_reducible refine (spec_IsGrid.calls k a0_0 a0_1 a0_2 _ _ A3.out).mono ?_); rintro e w9002 ⟨rfl, hb⟩; refine ⟨_, rfl, ?_⟩; replace BK330 := KB BK330 hb; replace HB := BS (w := w) hb; (try clear hb); obtain ⟨hcz9003_0, hcz9003_1, hcz9003_2, hfz9003_0, hfz9003_1, hfz9003_2⟩ := cz3 BK330.out; refine stop_ ?_))
 refine Hide.mk ?_
 replace H := H.out
 replace H := ifB H; rcases H with ⟨rfl, H⟩ | ⟨rfl, H⟩
 ·replace H := be H; obtain ⟨t332, A5, H⟩ := H
  replace H := Aside0.mk H
  go_wp2_with (first | (go_at_call 86; (with_reducible refine (spec_l1In.calls a1 0 (wrap64 ((a0_2.size : Int) - 1)) _ _ A5.out).mono ?_); rintro e w' ⟨rfl, ⟨nd, rfl⟩⟩; refine stop_ ?_))
  refine Hide.mk ?_
  replace H := H.out
  replace H := ifB H; rcases H with ⟨rfl, H⟩ | ⟨rfl, H⟩
  ·replace H := ifN H; obtain ⟨c7b0, H⟩ := H
   replace H := ifN H; obtain ⟨c8b0, H⟩ := H
   obtain rfl := Option.some.inj H
   have p9 : (0 ≤ (a1 : Int)) = True := OT
   have q9 : (a1 < (a0_2.size : Int)) = True := OT
   have hx9 := bt_at a0_2 a1
   go_wp2
   go_ret
   exact ⟨EWW, BL⟩
  ·obtain rfl := Option.some.inj H
   try go_wp2
   go_ret
   exact ⟨EWW, BL⟩
 ·obtain rfl := Option.some.inj H
  try go_wp2
  go_ret
  exact ⟨EWW, BL⟩
end Go.Proofs.Ythjcicmmbmagbaa.PFnExactIsSolved
