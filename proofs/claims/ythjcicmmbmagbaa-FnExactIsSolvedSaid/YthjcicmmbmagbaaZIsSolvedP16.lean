/- Walks of functions: what each computes. -/
import Derived.Test.YthjcicmmbmagbaaZIsSolvedP0
import Derived.Test.YthjcicmmbmagbaaZIsSolvedP5
import Derived.Test.YthjcicmmbmagbaaZIsSolvedP8
import Derived.Test.YthjcicmmbmagbaaZIsSolvedP10
import Derived.Test.YthjcicmmbmagbaaZIsSolvedP13
import Derived.Test.YthjcicmmbmagbaaZIsSolvedP15
import Derived.Test.YthjcicmmbmagbaaZIsSolvedW
import Derived.Test.YthjcicmmbmagbaaZIsSolvedShelf
import Derived.Test.YthjcicmmbmagbaaZIsSolvedHandSort
import Derived.Test.YthjcicmmbmagbaaZIsSolvedHandForm
import Derived.Test.YthjcicmmbmagbaaZIsSolvedHandAlone
import Derived.Test.YthjcicmmbmagbaaZIsSolvedHandReach
namespace Go.Proofs.Ythjcicmmbmagbaa.PFnExactIsSolved
open Go.RowKit Go.Proofs.YthjcicmmbmagbaaW.PrintWords Go.Proofs.YthjcicmmbmagbaaW.PrintLast Go.Proofs.YthjcicmmbmagbaaW.PrintMore Go.Proofs.Ythjcicmmbmagbaa.Sq
attribute [local go_sem] max2_int min2_int max_two min_two max_three min_three max_four min_four
set_option linter.unusedVariables false
set_option linter.unusedSimpArgs false
mutual
def spec_SlotPattern.j0 : Nat → ByteArray → Int → List (S153) → Bool → Int → Int → ByteArray → Option (ByteArray)
 | 0, _, _, _, _, _, _, _ => none
 | k + 1, x1, x2, x7, x24, x387000, x387001, x387002 => if x24 = true then (some (⟨#[]⟩ : ByteArray)) else (if 0 ≤ x2 then (if x2 < (x7.length : Int) then ((spec_CellsOf.f k x387000 x387001 x387002 ((rd_T153 x7 x2).f0) ((rd_T153 x7 x2).f1) ((rd_T153 x7 x2).f2) ((rd_T153 x7 x2).f3)).bind fun t393 => (spec_SlotPattern.l0 k x1 (⟨#[]⟩ : ByteArray) t393 0)) else (none)) else (none))
def spec_SlotPattern.l0 : Nat → ByteArray → ByteArray → List Int → Int → Option (ByteArray)
 | 0, _, _, _, _ => none
 | k + 1, x1, x8, x9, x10 => if x10 < (x9.length : Int) then (if 0 ≤ x10 then (if 0 ≤ (rd x9 x10) then (if (rd x9 x10) ≤ (wrap64 ((rd x9 x10) + 1)) then (if (wrap64 ((rd x9 x10) + 1)) ≤ (x1.size : Int) then (if x8.size + (x1.extract ((rd x9 x10) : Int).toNat ((wrap64 ((rd x9 x10) + 1)) : Int).toNat).size ≤ 9223372036854775807 then (spec_SlotPattern.l0 k x1 (x8 ++ (x1.extract ((rd x9 x10) : Int).toNat ((wrap64 ((rd x9 x10) + 1)) : Int).toNat)) x9 (wrap64 (x10 + 1))) else (none)) else (none)) else (none)) else (none)) else (none)) else (some x8)
end
def spec_SlotPattern.f (k : Nat) (a0_0 : Int) (a0_1 : Int) (a0_2 : ByteArray) (a1 : ByteArray) (a2 : Int) : Option (ByteArray) := (spec_SlotsOf.f k a0_0 a0_1 a0_2).bind fun t387 => ((spec_IsFill.f k a0_0 a0_1 a0_2 a1).bind fun t390 => (if t390 = true then ((spec_l1In.f a2 0 (wrap64 ((t387.length : Int) - 1))).bind fun t391 => (spec_SlotPattern.j0 k a1 a2 t387 (!t391) a0_0 a0_1 a0_2)) else (spec_SlotPattern.j0 k a1 a2 t387 true a0_0 a0_1 a0_2)))
def spec_SlotPattern.T9 : Bool × List (List Nat × List Nat) := (true, [([], []), ([], []), ([], []), ([], []), ([2, 3], [2, 3]), ([4], [4]), ([], []), ([], []), ([6, 7], [6, 7]), ([8], [8]), ([9], [9]), ([1, 5, 10], [1, 5, 10]), ([0, 11], [0, 11]), ([12, 0, 1, 2, 3, 4, 5, 6, 7, 8, 9, 10, 11, 12], [0, 12])])
def spec_SlotPattern.B9 : List Nat := [0, 0, 0, 0, 12, 28, 0, 0, 192, 448, 960, 2046, 4095, 8191]
theorem spec_SlotPattern.tab9 : rtab .any (opsOf Try.f150 9) = spec_SlotPattern.T9 := by kernel_rfl
theorem spec_SlotPattern.bits9 : waitsOk spec_SlotPattern.T9.2 spec_SlotPattern.B9 = true := by kernel_rfl
set_option maxHeartbeats 8000000 in
set_option maxRecDepth 100000 in
theorem spec_SlotPattern.calls (k : Nat) (a0_0 : Int) (a0_1 : Int) (a0_2 : ByteArray) (a1 : ByteArray) (a2 : Int) (r : ByteArray) (w : World) (h : spec_SlotPattern.f k a0_0 a0_1 a0_2 a1 a2 = some r) :
  Calls Try.prog 150 #[.agg #[.int .i64 a0_0, .int .i64 a0_1, .string a0_2], .string a1, .int .i64 a2] w fun e w' => e = .returned (.string r) ∧ Below w.heap.size w w' := by
 have hu66 := Try.underlying66
 have hu153 := Try.underlying153
 have HB := Aside0.mk (Below.refl w.heap.size w)
 have H : ((spec_SlotsOf.f k a0_0 a0_1 a0_2).bind fun t387 => ((spec_IsFill.f k a0_0 a0_1 a0_2 a1).bind fun t390 => (if t390 = true then ((spec_l1In.f a2 0 (wrap64 ((t387.length : Int) - 1))).bind fun t391 => (spec_SlotPattern.j0 k a1 a2 t387 (!t391) a0_0 a0_1 a0_2)) else (spec_SlotPattern.j0 k a1 a2 t387 true a0_0 a0_1 a0_2)))) = some r := h
 clear h
 replace H := be H; obtain ⟨t387, A4, H⟩ := H
 have HC5 := Aside0.mk H
 clear H
 go_enter Try.func150, Try.ntmps150
 go_upto_region 2 with (first | ((with_reducible refine gate_dst (N := 3) rfl ?_); (try (refine gate_guard (by rfl) ?_; dsimp only)); refine box_ev (N := 3) (cs := #[.int .i64 a0_0, .int .i64 a0_1, .string a0_2]) (t := 66) ?_; intro gb386 hg w6 hbox hb; have n0_ := BS (w := w) hb; have n1_ := Aside0.mk (hbox); have n2_ := SZ (w := w) hg; have n3_ := SZ (w := w) hg; clear HB; have HB := n0_; have BK386 := n1_; have GW386 := n2_; have GE386 := n3_; clear n0_ n1_ n2_ n3_; clear hb hbox hg; obtain ⟨hcz7_0, hcz7_1, hcz7_2, hfz7_0, hfz7_1, hfz7_2⟩ := cz3 BK386.out) | ((with_reducible refine gate_callee (f := 84) rfl ?_); refine goesS (some 12) Try.func84 #[.agg #[.int .i64 a0_0, .int .i64 a0_1, .string a0_2]] ?_; (with_reducible refine (spec_SlotsOf.calls k a0_0 a0_1 a0_2 t387 _ A4.out).mono ?_); rintro e w8 ⟨v388, rfl, ho0, hb⟩; refine ⟨_, rfl, ?_⟩; have n0_ := Aside0.mk (Kd.R_lower ho0 (below_size BL)); replace BK386 := KB BK386 hb; replace HB := BS (w := w) hb; have HO389 := n0_; clear n0_; (try clear hb); (try clear ho0)))
 (try simp only [Act.put, List.setIfInBounds_toArray, List.set_cons_zero, List.set_cons_succ])
 go_cut [24] (fun v24 wc => ∃ (kq : Nat) (x24_4 : Bool), v24 = .bool x24_4 ∧ Aside0 (spec_SlotPattern.j0 kq a1 a2 t387 x24_4 a0_0 a0_1 a0_2 = some r) ∧ Aside0 (kq ≤ k) ∧ Aside0 (Kd.R k153 153 wc w.heap.size (fun _ => True) v388 t387) ∧ Aside0 (wc.heap[gb386]? = some (.cells #[.int .i64 a0_0, .int .i64 a0_1, .string a0_2] 66 (0, 0))) ∧ Aside0 (Below w.heap.size w wc))
 case first =>
  have H := HC5.out
  clear HC5
  replace H := be H; obtain ⟨t390, A9, H⟩ := H
  obtain ⟨hcz8000_0, hcz8000_1, hcz8000_2, hfz8000_0, hfz8000_1, hfz8000_2⟩ := cz3 BK386.out
  replace H := Aside0.mk H
  go_wp2_with (first | ((with_reducible refine gate_callee (f := 147) rfl ?_); refine goesS (some 15) Try.func147 #[.agg #[.int .i64 a0_0, .int .i64 a0_1, .string a0_2], .string a1] ?_; (with_reducible refine (spec_IsFill.calls k a0_0 a0_1 a0_2 a1 _ _ A9.out).mono ?_); rintro e w8001 ⟨rfl, hb⟩; refine ⟨_, rfl, ?_⟩; replace HO389 := RB HO389 hb; replace BK386 := KB BK386 hb; replace HB := BS (w := w) hb; (try clear hb); refine stop_ ?_))
  refine Hide.mk ?_
  replace H := H.out
  replace H := ifB H; rcases H with ⟨rfl, H⟩ | ⟨rfl, H⟩
  ·replace H := be H; obtain ⟨t391, A11, H⟩ := H
   have H' := Aside0.mk H
   clear H
   obtain ⟨Ao8002, co8002, eo8002⟩ := Kd.R_slice HO389.out
   subst eo8002
   go_wp2_with (first | (go_at_call 86; (with_reducible refine (spec_l1In.calls a2 0 (wrap64 ((t387.length : Int) - 1)) t391 _ A11.out).mono ?_); rintro e w' ⟨rfl, ⟨nd, rfl⟩⟩))
   go_meet
   case rel => exact ⟨_, (!t391), EQ, H', ⟨by first | omega | exact Nat.le_refl _⟩, ⟨(RR HO389)⟩, ⟨BK⟩, ⟨BL⟩⟩
  ·have H' := Aside0.mk H
   clear H
   try go_wp2
   go_meet
   case rel => exact ⟨_, (true), EQ, H', ⟨by first | omega | exact Nat.le_refl _⟩, ⟨(RR HO389)⟩, ⟨BK⟩, ⟨BL⟩⟩
 case rest =>
  clear HC5
  try clear hcz7_0
  try clear hcz7_1
  try clear hcz7_2
  try clear hfz7_0
  try clear hfz7_1
  try clear hfz7_2
  obtain ⟨kq, x24_4, rfl, HA, HJ4, HO_7, BK386, HB⟩ := hcut
  cases kq with
  | zero => exact absurd HA.out (by simp [spec_SlotPattern.j0])
  | succ kj4 =>
   have H := HA.out
   clear HA
   simp only [spec_SlotPattern.j0] at H
   replace H := ifB H; rcases H with ⟨rfl, H⟩ | ⟨rfl, H⟩
   ·obtain rfl := Option.some.inj H
    go_wp2
    go_ret
    exact ⟨EWW, BL⟩
   ·replace H := ifN H; obtain ⟨c18b0, H⟩ := H
    replace H := ifN H; obtain ⟨c19b0, H⟩ := H
    replace H := be H; obtain ⟨t393, A20, H⟩ := H
    have H' := Aside0.mk H
    clear H
    try go_wp2
    replace HO_7 := Aside0.mk (Kd.R_drew HO_7.out)
    replace BK386 := Aside0.mk (blk_drew BK386.out)
    replace HB := Aside0.mk (below_drew1 HB.out)
    obtain ⟨Ao7000, co7000, eo7000⟩ := Kd.R_slice HO_7.out
    (first | subst eo7000 | (injection eo7000 with f1_ f2_ f3_; have f4_ := f1_.symm; have f5_ := f3_.symm; clear f1_ f2_ f3_; subst f4_; subst f5_))
    have p392 : 0 ≤ (a2 : Int) := OD
    have q392 : a2 < (t387.length : Int) := OD
    obtain ⟨ad392, e392, hx392_0, hx392_1, hx392_2, hx392_3⟩ := at_T153 (Kd.R_reads' HO_7.out).2.2 a2 p392 q392
    cases e392
    replace p392 := eq_true p392
    replace q392 := eq_true q392
    refine start_ (n := 7) (S := fun w' => w'.cell? ⟨gb386, 0, none⟩ = some (.int .i64 a0_0) ∧ w'.cell? ⟨gb386, 1, none⟩ = some (.int .i64 a0_1) ∧ w'.cell? ⟨gb386, 2, none⟩ = some (.string a0_2) ∧ w'.cell? (ad392.add ((a2).toNat * 4)) = some (.int .i64 ((rd_T153 t387 a2).f0)) ∧ w'.cell? ⟨(ad392.add ((a2).toNat * 4)).block, (ad392.add ((a2).toNat * 4)).off + 1, none⟩ = some (.bool ((rd_T153 t387 a2).f1)) ∧ w'.cell? ⟨(ad392.add ((a2).toNat * 4)).block, (ad392.add ((a2).toNat * 4)).off + 2, none⟩ = some (.int .i64 ((rd_T153 t387 a2).f2)) ∧ w'.cell? ⟨(ad392.add ((a2).toNat * 4)).block, (ad392.add ((a2).toNat * 4)).off + 3, none⟩ = some (.int .i64 ((rd_T153 t387 a2).f3))) (ds := []) #[false, false, false, false, false, false, false] (by kernel_rfl) rfl rfl ⟨(blk_cell BK386.out 0).trans rfl, (blk_cell BK386.out 1).trans rfl, (blk_cell BK386.out 2).trans rfl, hx392_0, hx392_1, hx392_2, hx392_3⟩ (fun hHeld => ?_)
    generalize wc.drew = w7001 at HO_7 BK386 HB hx392_0 hx392_1 hx392_2 hx392_3 hHeld ⊢
    refine puS (i := 1) (N := some 26) #[false, true, false, false, false, false, false] (by kernel_rfl) ?_
    refine puS (i := 2) (N := some 27) #[false, true, true, false, false, false, false] (by kernel_rfl) ?_
    refine puS (i := 3) (N := some 28) #[false, true, true, true, false, false, false] (by kernel_rfl) ?_
    refine taS (i := 0) (N := some 25) #[true, true, true, true, false, false, false] (by kernel_rfl) hHeld ?_
    refine taS (i := 4) (N := some 29) #[true, true, true, true, true, false, false] (by kernel_rfl) hHeld ?_
    refine one_ (i := 5) (N := some 30) #[true, true, true, true, true, true, false] rfl rfl (by kernel_rfl) (by decide) (fun K hK => ?_)
    refine goesR Try.func181 #[.agg #[.int .i64 a0_0, .int .i64 a0_1, .string a0_2], .agg #[.int .i64 ((rd_T153 t387 a2).f0), .bool ((rd_T153 t387 a2).f1), .int .i64 ((rd_T153 t387 a2).f2), .int .i64 ((rd_T153 t387 a2).f3)]] ?_
    with_reducible refine (spec_CellsOf.calls kj4 a0_0 a0_1 a0_2 ((rd_T153 t387 a2).f0) ((rd_T153 t387 a2).f1) ((rd_T153 t387 a2).f2) ((rd_T153 t387 a2).f3) t393 _ A20.out).mono ?_
    rintro e w7002 ⟨v394, rfl, ho0, hb⟩
    have HS3_ := (hb.cell (World.block_lt_of_cell? _ _ (hHeld.2.2.2.1))).trans (hHeld.2.2.2.1)
    have HS4_ := (hb.cell (World.block_lt_of_cell? _ _ (hHeld.2.2.2.2.1))).trans (hHeld.2.2.2.2.1)
    have HS5_ := (hb.cell (World.block_lt_of_cell? _ _ (hHeld.2.2.2.2.2.1))).trans (hHeld.2.2.2.2.2.1)
    have HS6_ := (hb.cell (World.block_lt_of_cell? _ _ (hHeld.2.2.2.2.2.2))).trans (hHeld.2.2.2.2.2.2)
    refine ⟨_, rfl, ?_⟩
    have n0_ := RB HO_7 hb
    have n1_ := Aside0.mk (Kd.R_lower ho0 (below_size BL))
    have n2_ := KB BK386 hb
    have n3_ := BS (w := w) hb
    clear HO_7
    clear BK386
    clear HB
    have HO_7 := n0_
    have HO395 := n1_
    have BK386 := n2_
    have HB := n3_
    clear n0_ n1_ n2_ n3_
    (try clear hb)
    (try clear ho0)
    refine hK.out _ _ ⟨(blk_cell BK386.out 0).trans rfl, (blk_cell BK386.out 1).trans rfl, (blk_cell BK386.out 2).trans rfl, HS3_, HS4_, HS5_, HS6_⟩ (fun hHeld => ?_)
    clear hK K
    refine nrm (some 30) ?_
    refine puS (i := 6) (N := some 9) #[true, true, true, true, true, true, true] (by kernel_rfl) ?_
    refine done_ (by kernel_rfl) ?_
    try go_wp2
    go_loopg [8, 10] kj4 (fun kq v8 v10 w' => ∃ (x8_2 : ByteArray) (x10_2 : Int), v8 = .string x8_2 ∧ v10 = .int .i64 x10_2 ∧ Aside0 (spec_SlotPattern.l0 kq a1 x8_2 t393 x10_2 = some r) ∧ Aside0 (kq ≤ kj4) ∧ Aside0 (Kd.R (Kd.int .i64) 3 w' w.heap.size (fun _ => True) v394 t393) ∧ Aside0 (w'.heap[gb386]? = some (.cells #[.int .i64 a0_0, .int .i64 a0_1, .string a0_2] 66 (0, 0))) ∧ Aside0 (Below w.heap.size w w'))
    case atStart => exact ⟨((⟨#[]⟩ : ByteArray)), (0), EQ, EQ, H', ⟨Nat.le_refl _⟩, ⟨(RR HO395)⟩, ⟨BK⟩, ⟨BL⟩⟩
    case round =>
     clear H'
     try clear c17
     try clear c18
     try clear c18b0
     try clear c19
     try clear c19b0
     try clear hcz7_0
     try clear hcz7_1
     try clear hcz7_2
     try clear hfz7_0
     try clear hfz7_1
     try clear hfz7_2
     try clear hx392_0
     try clear hx392_1
     try clear hx392_2
     try clear hx392_3
     try clear p392
     try clear q392
     obtain ⟨x8_2, x10_2, rfl, rfl, HA, HK2, HO_9, BK386, HB⟩ := hrel
     cases gk with
     | zero => exact absurd HA.out (by simp [spec_SlotPattern.l0])
     | succ k2 =>
      have H := HA.out
      clear HA
      simp only [spec_SlotPattern.l0] at H
      obtain ⟨Ao7003, co7003, eo7003⟩ := Kd.R_slice HO_9.out
      subst eo7003
      replace H := ifD H; rcases H with ⟨c24b0, H⟩ | ⟨c24b0, H⟩
      ·replace H := ifN H; obtain ⟨c25b0, H⟩ := H
       replace H := ifP H; obtain ⟨c26, H⟩ := H
       have c26b0 := eq_true c26
       have c26b1 : decide (0 ≤ (rd t393 x10_2)) = true := decide_eq_true c26
       clear c26
       replace H := ifP H; obtain ⟨c27, H⟩ := H
       have c27b0 := eq_true c27
       have c27b1 : decide ((rd t393 x10_2) ≤ (wrap64 ((rd t393 x10_2) + 1))) = true := decide_eq_true c27
       replace H := ifP H; obtain ⟨c28, H⟩ := H
       have c28b0 := eq_true c28
       have c28b1 : decide ((wrap64 ((rd t393 x10_2) + 1)) ≤ (a1.size : Int)) = true := decide_eq_true c28
       by_cases c29 : x8_2.size + (a1.extract ((rd t393 x10_2) : Int).toNat ((wrap64 ((rd t393 x10_2) + 1)) : Int).toNat).size ≤ 9223372036854775807
       ·rw [if_pos c29] at H
        have c29b0 := eq_true c29
        have c29b1 : decide (x8_2.size + (a1.extract ((rd t393 x10_2) : Int).toNat ((wrap64 ((rd t393 x10_2) + 1)) : Int).toNat).size ≤ 9223372036854775807) = true := decide_eq_true c29
        try have c29b2 : (9223372036854775807 < x8_2.size + (a1.extract ((rd t393 x10_2) : Int).toNat ((wrap64 ((rd t393 x10_2) + 1)) : Int).toNat).size) = False := eq_false (Nat.not_lt.2 c29)
        have c29b3c : (9223372036854775807 < x8_2.size + (((wrap64 ((rd t393 x10_2) + 1))).toNat - ((rd t393 x10_2)).toNat)) = False := by
         have hy_ : (wrap64 ((rd t393 x10_2) + 1)) ≤ (a1.size : Int) := OD
         have hs_ : (a1.extract ((rd t393 x10_2) : Int).toNat ((wrap64 ((rd t393 x10_2) + 1)) : Int).toNat).size = ((wrap64 ((rd t393 x10_2) + 1))).toNat - ((rd t393 x10_2)).toNat := by rw [ByteArray.size_extract]; omega
         rw [← hs_]; exact c29b2
        have H' := Aside0.mk H
        clear H
        try go_wp2
        replace HO_9 := Aside0.mk (Kd.R_drew HO_9.out)
        replace BK386 := Aside0.mk (blk_drew BK386.out)
        replace HB := Aside0.mk (below_drew1 HB.out)
        have p396 : 0 ≤ (x10_2 : Int) := OD
        have q396 : x10_2 < (t393.length : Int) := OD
        obtain ⟨ad396, e396, hx396_0⟩ := Kd.at_int (Kd.R_reads' HO_9.out).2.2 x10_2 p396 q396
        cases e396
        replace p396 := eq_true p396
        replace q396 := eq_true q396
        have p397 : 0 ≤ (x10_2 : Int) := OD
        have q397 : x10_2 < (t393.length : Int) := OD
        obtain ⟨ad397, e397, hx397_0⟩ := Kd.at_int (Kd.R_reads' HO_9.out).2.2 x10_2 p397 q397
        obtain rfl : ad396 = ad397 := (by injection e397)
        replace p397 := eq_true p397
        replace q397 := eq_true q397
        refine start_ (n := 14) (S := fun w' => w'.cell? (ad396.add (x10_2).toNat) = some (.int .i64 (rd t393 x10_2)) ∧ w'.cell? (ad396.add (x10_2).toNat) = some (.int .i64 (rd t393 x10_2))) (ds := []) #[false, false, false, false, false, false, false, false, false, false, false, false, false, false] (by kernel_rfl) rfl rfl ⟨hx396_0, hx397_0⟩ (fun hHeld => ?_); refine with_tabW spec_SlotPattern.tab9 spec_SlotPattern.bits9 (fun HT_ HW_ => ?_)
        generalize wr.drew = w7004 at HO_9 BK386 HB hx396_0 hx397_0 hHeld ⊢
        refine puS (i := 0) (N := some 37) #[true, false, false, false, false, false, false, false, false, false, false, false, false, false] (any_of HT_.out (by kernel_rfl)) ?_
        refine puS (i := 1) (N := some 38) #[true, true, false, false, false, false, false, false, false, false, false, false, false, false] (any_of HT_.out (by kernel_rfl)) ?_
        refine puS (i := 2) (N := some 39) #[true, true, true, false, false, false, false, false, false, false, false, false, false, false] (any_of HT_.out (by kernel_rfl)) ?_
        refine puS (i := 3) (N := some 40) #[true, true, true, true, false, false, false, false, false, false, false, false, false, false] (any_of HT_.out (by kernel_rfl)) ?_
        refine puS (i := 4) (N := some 41) #[true, true, true, true, true, false, false, false, false, false, false, false, false, false] (any_of HT_.out (by kernel_rfl)) ?_
        refine puS (i := 6) (N := some 43) #[true, true, true, true, true, false, true, false, false, false, false, false, false, false] (any_of HT_.out (by kernel_rfl)) ?_
        refine puS (i := 7) (N := some 44) #[true, true, true, true, true, false, true, true, false, false, false, false, false, false] (any_of HT_.out (by kernel_rfl)) ?_
        refine puS (i := 8) (N := some 45) #[true, true, true, true, true, false, true, true, true, false, false, false, false, false] (any_of HT_.out (by kernel_rfl)) ?_
        refine taS (i := 5) (N := some 42) #[true, true, true, true, true, true, true, true, true, false, false, false, false, false] (take_ofW HT_.out HW_.out (by kernel_rfl)) hHeld ?_
        refine taS (i := 9) (N := some 46) #[true, true, true, true, true, true, true, true, true, true, false, false, false, false] (take_ofW HT_.out HW_.out (by kernel_rfl)) hHeld ?_
        refine puS (i := 10) (N := some 47) #[true, true, true, true, true, true, true, true, true, true, true, false, false, false] (any_of HT_.out (by kernel_rfl)) ?_
        refine puS (i := 11) (N := some 48) #[true, true, true, true, true, true, true, true, true, true, true, true, false, false] (any_of HT_.out (by kernel_rfl)) ?_
        refine puS (i := 12) (N := some 49) #[true, true, true, true, true, true, true, true, true, true, true, true, true, false] (any_of HT_.out (by kernel_rfl)) ?_
        refine puS (i := 13) (N := some 8) #[true, true, true, true, true, true, true, true, true, true, true, true, true, true] (any_of HT_.out (by kernel_rfl)) ?_
        refine done_ (done_of HT_.out (by kernel_rfl)) ?_
        try go_wp2
        go_roundg k2
        case measure => have := HJ4.out; have := HK2.out; omega
        case rel => exact ⟨(x8_2 ++ (a1.extract ((rd t393 x10_2) : Int).toNat ((wrap64 ((rd t393 x10_2) + 1)) : Int).toNat)), (wrap64 (x10_2 + 1)), EQ, EQ, H', ⟨by have := HJ4.out; have := HK2.out; omega⟩, ⟨(RR HO_9)⟩, ⟨BK⟩, ⟨BL⟩⟩
       ·rw [if_neg c29] at H
        exact absurd H (by simp)
      ·obtain rfl := Option.some.inj H
       go_wp2
       go_ret
       exact ⟨EWW, BL⟩
mutual
def spec_RightSlots.l0 : Nat → ByteArray → List Int → Int → List Int → List (S153) → Int → Int → Int → ByteArray → Option (List Int)
 | 0, _, _, _, _, _, _, _, _, _ => none
 | k + 1, x1, x2, x3, x9, x10, x11, x399000, x399001, x399002 => if x11 < (x10.length : Int) then ((spec_IsFill.f k x399000 x399001 x399002 x1).bind fun t405 => (spec_RightSlots.j1 k x1 x2 x3 x9 x10 x11 t405 x399000 x399001 x399002)) else (spec_RightSlots.j1 k x1 x2 x3 x9 x10 x11 false x399000 x399001 x399002)
def spec_RightSlots.j1 : Nat → ByteArray → List Int → Int → List Int → List (S153) → Int → Bool → Int → Int → ByteArray → Option (List Int)
 | 0, _, _, _, _, _, _, _, _, _, _ => none
 | k + 1, x1, x2, x3, x9, x10, x11, x23, x399000, x399001, x399002 => if x23 = true then ((spec_SlotPattern.f k x399000 x399001 x399002 x1 x11).bind fun t406 => ((spec_ChecksAnswer.f k x2 x3 x11 t406).bind fun t407 => (if t407 = true then (if x9.length < 17592186044416 then (spec_RightSlots.l0 k x1 x2 x3 (x9 ++ [x11]) x10 (wrap64 (x11 + 1)) x399000 x399001 x399002) else (none)) else (spec_RightSlots.l0 k x1 x2 x3 x9 x10 (wrap64 (x11 + 1)) x399000 x399001 x399002)))) else (some x9)
end
def spec_RightSlots.f (k : Nat) (a0_0 : Int) (a0_1 : Int) (a0_2 : ByteArray) (a1 : ByteArray) (l2 : List Int) (a3 : Int) : Option (List Int) := (spec_SlotsOf.f k a0_0 a0_1 a0_2).bind fun t402 => (spec_RightSlots.l0 k a1 l2 a3 (([] : List Int)) t402 0 a0_0 a0_1 a0_2)
set_option maxHeartbeats 8000000 in
set_option maxRecDepth 100000 in
theorem spec_RightSlots.calls (k : Nat) (a0_0 : Int) (a0_1 : Int) (a0_2 : ByteArray) (a1 : ByteArray) (A2 : Option Addr) (c2 : Nat) (l2 : List Int) (a3 : Int) (r : List Int) (w : World) (hr2 : Kd.C (Kd.int .i64) w A2 l2.length l2) (hc2 : l2.length ≤ c2) (h : spec_RightSlots.f k a0_0 a0_1 a0_2 a1 l2 a3 = some r) :
  Calls Try.prog 100 #[.agg #[.int .i64 a0_0, .int .i64 a0_1, .string a0_2], .string a1, .slice A2 l2.length c2, .int .i64 a3] w fun e w' => ∃ v0_ : Value, e = .returned (v0_) ∧ Kd.R (Kd.int .i64) 3 w' w.heap.size (fun _ => True) v0_ r ∧ Below w.heap.size w w' := by
 have hu66 := Try.underlying66
 have HR2 := Aside0.mk hr2
 have HC2 := Aside0.mk hc2
 clear hr2 hc2
 have HB := Aside0.mk (Below.refl w.heap.size w)
 have H : ((spec_SlotsOf.f k a0_0 a0_1 a0_2).bind fun t402 => (spec_RightSlots.l0 k a1 l2 a3 (([] : List Int)) t402 0 a0_0 a0_1 a0_2)) = some r := h
 clear h
 obtain ⟨y399, hy399⟩ : ∃ y_ : List Int, y_ = (([] : List Int)) := ⟨_, rfl⟩
 replace H : ((spec_SlotsOf.f k a0_0 a0_1 a0_2).bind fun t402 => (spec_RightSlots.l0 k a1 l2 a3 y399 t402 0 a0_0 a0_1 a0_2)) = some r := by first | (rw [hy399]; with_reducible exact H) | (have H2_ := (Option.bind_some _ _).symm.trans H; rw [hy399]; with_reducible exact H2_) | (have H2_ := (Option.bind_some _ _).symm.trans H; with_reducible exact H2_) | with_reducible exact H | (rw [hy399]; exact H) | exact H
 have Ny399 := Aside0.mk hy399
 clear hy399
 replace H := be H; obtain ⟨t402, A5, H⟩ := H
 have H' := Aside0.mk H
 clear H
 go_enter Try.func100, Try.ntmps100
 go_wp2_with (first | ((with_reducible refine gate_dst (N := 4) rfl ?_); refine box_ev (N := 4) (cs := #[.int .i64 a0_0, .int .i64 a0_1, .string a0_2]) (t := 66) ?_; intro gb398 hg w6 hbox hb; have n0_ := BS (w := w) hb; have n1_ := Aside0.mk (hbox); have n2_ := SZ (w := w) hg; have n3_ := SZ (w := w) hg; clear HB; have HB := n0_; have BK398 := n1_; have GW398 := n2_; have GE398 := n3_; clear n0_ n1_ n2_ n3_; clear hb hbox hg) | ((with_reducible refine gate_dst (N := 12) rfl ?_); refine Kd.R_lit (Kd.int .i64) _ 3 ?hg (N := 12) ?hd (xs := ([] : List Int)) (inner := []) (ok := fun _ => True) (okp := fun _ => True) ?hr ?hp (fun _ hk => hk) trivial (Below.refl _ _) (Nat.le_refl _) (by simp) ?_; (case hd => rfl); (case hg => rfl); (case hr => first | (go_simp; done) | (go_simp; rfl)); (case hp => exact (Reps.none _ _)); intro v400 w7 ho8 hb hg_ hnew_; clear hg_ hnew_; (first | rw [← Ny399.out] at ho8 | (simp only [Int.reduceToNat] at ho8; rw [← Ny399.out] at ho8)); have n0_ := Aside0.mk (Kd.R_lower ho8 (below_size BL)); replace BK398 := KB BK398 hb; replace HB := BS (w := w) hb; have HO401 := n0_; clear n0_; clear hb ho8; obtain ⟨hcz9_0, hcz9_1, hcz9_2, hfz9_0, hfz9_1, hfz9_2⟩ := cz3 BK398.out) | ((with_reducible refine gate_callee (f := 84) rfl ?_); refine goesS (some 14) Try.func84 #[.agg #[.int .i64 a0_0, .int .i64 a0_1, .string a0_2]] ?_; (with_reducible refine (spec_SlotsOf.calls k a0_0 a0_1 a0_2 t402 _ A5.out).mono ?_); rintro e w10 ⟨v403, rfl, ho0, hb⟩; refine ⟨_, rfl, ?_⟩; have n1_ := Aside0.mk (Kd.R_lower ho0 (below_size BL)); replace HO401 := RB HO401 hb; replace BK398 := KB BK398 hb; replace HB := BS (w := w) hb; have HO404 := n1_; clear n1_; (try clear hb); (try clear ho0)))
 go_loopg [9, 11] k (fun kq v9 v11 w' => ∃ (x9_1 : List Int) (x11_1 : Int), v11 = .int .i64 x11_1 ∧ Aside0 (spec_RightSlots.l0 kq a1 l2 a3 x9_1 t402 x11_1 a0_0 a0_1 a0_2 = some r) ∧ Aside0 (kq ≤ k) ∧ Aside0 (Kd.R (Kd.int .i64) 3 w' w.heap.size (fun _ => True) v9 x9_1) ∧ Aside0 (Kd.R k153 153 w' w.heap.size (fun _ => True) v403 t402) ∧ Aside0 (w'.heap[gb398]? = some (.cells #[.int .i64 a0_0, .int .i64 a0_1, .string a0_2] 66 (0, 0))) ∧ Aside0 (Below w.heap.size w w'))
 case atStart => exact ⟨(y399), (0), EQ, H', ⟨Nat.le_refl _⟩, ⟨(RR HO401)⟩, ⟨(RR HO404)⟩, ⟨BK⟩, ⟨BL⟩⟩
 case round =>
  clear H'
  try clear c2
  try clear hcz9_0
  try clear hcz9_1
  try clear hcz9_2
  try clear hfz9_0
  try clear hfz9_1
  try clear hfz9_2
  obtain ⟨x9_1, x11_1, rfl, HA, HK1, HO_9, HO_10, BK398, HB⟩ := hrel
  cases gk with
  | zero => exact absurd HA.out (by simp [spec_RightSlots.l0])
  | succ k1 =>
   have H := HA.out
   clear HA
   simp only [spec_RightSlots.l0] at H
   have HC11 := Aside0.mk H
   clear H
   go_upto_region 4 with (fail)
   go_cut [23] (fun v23 wc => ∃ (kq : Nat) (x23_10 : Bool), v23 = .bool x23_10 ∧ Aside0 (spec_RightSlots.j1 kq a1 l2 a3 x9_1 t402 x11_1 x23_10 a0_0 a0_1 a0_2 = some r) ∧ Aside0 (kq ≤ k1) ∧ Aside0 (Kd.R (Kd.int .i64) 3 wc w.heap.size (fun _ => True) u9 x9_1) ∧ Aside0 (Kd.R k153 153 wc w.heap.size (fun _ => True) v403 t402) ∧ Aside0 (wc.heap[gb398]? = some (.cells #[.int .i64 a0_0, .int .i64 a0_1, .string a0_2] 66 (0, 0))) ∧ Aside0 (Below w.heap.size w wc))
   case first =>
    have H := HC11.out
    clear HC11
    replace H := ifD H; rcases H with ⟨c12b0, H⟩ | ⟨c12b0, H⟩
    ·(first | rw [c12b0] | (simp only [i64_w, i32_w]; rw [c12b0]) | skip)
     replace H := be H; obtain ⟨t405, A13, H⟩ := H
     have H' := Aside0.mk H
     clear H
     obtain ⟨Ao6000, co6000, eo6000⟩ := Kd.R_slice HO_10.out
     subst eo6000
     obtain ⟨hcz6001_0, hcz6001_1, hcz6001_2, hfz6001_0, hfz6001_1, hfz6001_2⟩ := cz3 BK398.out
     go_wp2_with (first | (go_at_call 147; (with_reducible refine (spec_IsFill.calls k1 a0_0 a0_1 a0_2 a1 t405 _ A13.out).mono ?_); rintro e w6002 ⟨rfl, hb⟩; replace HO_9 := RB HO_9 hb; replace HO_10 := RB HO_10 hb; replace BK398 := KB BK398 hb; replace HB := BS (w := w) hb; (try clear hb); (try clear hb2); (try clear hk); (try clear hi)))
     go_meet
     case rel => exact ⟨_, (t405), EQ, H', ⟨by have := HK1.out; first | omega | exact Nat.le_refl _⟩, ⟨(RR HO_9)⟩, ⟨(RR HO_10)⟩, ⟨BK⟩, ⟨BL⟩⟩
    ·(first | rw [c12b0] | (simp only [i64_w, i32_w]; rw [c12b0]) | skip)
     have H' := Aside0.mk H
     clear H
     obtain ⟨Ao6000, co6000, eo6000⟩ := Kd.R_slice HO_10.out
     subst eo6000
     go_wp2
     go_meet
     case rel => exact ⟨_, (false), EQ, H', ⟨by have := HK1.out; first | omega | exact Nat.le_refl _⟩, ⟨(RR HO_9)⟩, ⟨(RR HO_10)⟩, ⟨BK⟩, ⟨BL⟩⟩
   case rest =>
    clear HC11
    try clear c2
    try clear hcz9_0
    try clear hcz9_1
    try clear hcz9_2
    try clear hfz9_0
    try clear hfz9_1
    try clear hfz9_2
    obtain ⟨kq, x23_10, rfl, HA, HJ10, HO_9, HO_10, BK398, HB⟩ := hcut
    cases kq with
    | zero => exact absurd HA.out (by simp [spec_RightSlots.j1])
    | succ kj10 =>
     have H := HA.out
     clear HA
     simp only [spec_RightSlots.j1] at H
     replace H := ifB H; rcases H with ⟨rfl, H⟩ | ⟨rfl, H⟩
     ·replace H := be H; obtain ⟨t406, A19, H⟩ := H
      replace H := be H; obtain ⟨t407, A20, H⟩ := H
      obtain ⟨hcz5000_0, hcz5000_1, hcz5000_2, hfz5000_0, hfz5000_1, hfz5000_2⟩ := cz3 BK398.out
      replace H := Aside0.mk H
      go_wp2_with (first | ((with_reducible refine gate_callee (f := 150) rfl ?_); refine goesS (some 32) Try.func150 #[.agg #[.int .i64 a0_0, .int .i64 a0_1, .string a0_2], .string a1, .int .i64 x11_1] ?_; (with_reducible refine (spec_SlotPattern.calls kj10 a0_0 a0_1 a0_2 a1 x11_1 t406 _ A19.out).mono ?_); rintro e w5001 ⟨rfl, hb⟩; refine ⟨_, rfl, ?_⟩; replace HO_9 := RB HO_9 hb; replace HO_10 := RB HO_10 hb; replace BK398 := KB BK398 hb; replace HB := BS (w := w) hb; (try clear hb)) | ((with_reducible refine gate_callee (f := 149) rfl ?_); refine goesS (some 33) Try.func149 #[.slice A2 l2.length c2, .int .i64 a3, .int .i64 x11_1, .string t406] ?_; (with_reducible refine (spec_ChecksAnswer.calls kj10 _ _ l2 a3 x11_1 t406 _ _ ?side1 ?side2 A20.out).mono ?_); (case side1 => exact CB HR2); (case side2 => exact HC2.out); rintro e w5002 ⟨rfl, hb⟩; refine ⟨_, rfl, ?_⟩; replace HO_9 := RB HO_9 hb; replace HO_10 := RB HO_10 hb; replace BK398 := KB BK398 hb; replace HB := BS (w := w) hb; (try clear hb); refine stop_ ?_))
      refine Hide.mk ?_
      replace H := H.out
      replace H := ifB H; rcases H with ⟨rfl, H⟩ | ⟨rfl, H⟩
      ·replace H := ifP H; obtain ⟨c22, H⟩ := H
       have LMc22 := Aside0.mk c22
       clear c22
       obtain ⟨y408, hy408⟩ : ∃ y_ : List Int, y_ = (x9_1 ++ [x11_1]) := ⟨_, rfl⟩
       replace H : (spec_RightSlots.l0 kj10 a1 l2 a3 y408 t402 (wrap64 (x11_1 + 1)) a0_0 a0_1 a0_2) = some r := by first | (rw [hy408]; with_reducible exact H) | (have H2_ := (Option.bind_some _ _).symm.trans H; rw [hy408]; with_reducible exact H2_) | (have H2_ := (Option.bind_some _ _).symm.trans H; with_reducible exact H2_) | with_reducible exact H | (rw [hy408]; exact H) | exact H
       have Ny408 := Aside0.mk hy408
       clear hy408
       have H' := Aside0.mk H
       clear H
       try go_wp2_with (first | ((with_reducible refine gate_builtin (b := .append) (xs := #[.tmp 34, .tmp 36]) rfl ?_); at_builtin; refine Kd.R_append (Kd.int .i64) (w0 := w) w.heap.size rfl (.tmp 34) (.tmp 36) 45 3 (.int .i64 0) 8 rfl Try.underlying45 info3 rfl (by decide) (by omega) u9 x9_1 x11_1 [.int .i64 x11_1] (fun _ => True) (fun _ => False) rfl rfl ?aP (fun _ hk => hk.elim) ?aF ?aO ?aB ?aS ?aL ?_; (case aP => exact rfl); (case aB => exact BL); (case aF => exact (fun _ _ => trivial)); (case aO => exact (RR HO_9)); (case aS => exact (below_size BL)); (case aL => have := LMc22.out; omega); intro v409 w5003 ho hb hg hat; rw [← Ny408.out] at ho; have n0_ := Aside0.mk (Kd.R_over' (RR HO_10) (Kd.R_typed (RR HO_9)) (by decide) hg); have n1_ := Aside0.mk (blk_grown (g := gb398) (o := .cells #[.int .i64 a0_0, .int .i64 a0_1, .string a0_2] 66 (0, 0)) BK hg (Kd.R_ne HO_9.out BK398.out (by decide))); have n2_ := Aside0.mk (hb); have n3_ := Aside0.mk (ho); clear HO_10 BK398 HB HO_9; have HO_10 := n0_; have BK398 := n1_; have HB := n2_; have HO410 := n3_; clear n0_ n1_ n2_ n3_; clear ho hb hg hat))
       go_roundg kj10
       case measure => have := HK1.out; have := HJ10.out; omega
       case rel => exact ⟨(y408), (wrap64 (x11_1 + 1)), EQ, H', ⟨by have := HK1.out; have := HJ10.out; omega⟩, ⟨(RR HO410)⟩, ⟨(RR HO_10)⟩, ⟨BK⟩, ⟨BL⟩⟩
      ·have H' := Aside0.mk H
       clear H
       try go_wp2
       go_roundg kj10
       case measure => have := HK1.out; have := HJ10.out; omega
       case rel => exact ⟨(x9_1), (wrap64 (x11_1 + 1)), EQ, H', ⟨by have := HK1.out; have := HJ10.out; omega⟩, ⟨(RR HO_9)⟩, ⟨(RR HO_10)⟩, ⟨BK⟩, ⟨BL⟩⟩
     ·obtain rfl := Option.some.inj H
      go_wp2
      go_ret
      exact ⟨_, EWW, (RR HO_9), BL⟩
end Go.Proofs.Ythjcicmmbmagbaa.PFnExactIsSolved
