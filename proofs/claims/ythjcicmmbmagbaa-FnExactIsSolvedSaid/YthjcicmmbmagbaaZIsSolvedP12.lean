/- Walks of functions: what each computes. -/
import Derived.Test.YthjcicmmbmagbaaZIsSolvedP0
import Derived.Test.YthjcicmmbmagbaaZIsSolvedP5
import Derived.Test.YthjcicmmbmagbaaZIsSolvedP6
import Derived.Test.YthjcicmmbmagbaaZIsSolvedP7
import Derived.Test.YthjcicmmbmagbaaZIsSolvedP8
import Derived.Test.YthjcicmmbmagbaaZIsSolvedP9
import Derived.Test.YthjcicmmbmagbaaZIsSolvedP10
import Derived.Test.YthjcicmmbmagbaaZIsSolvedP11
import Derived.Test.YthjcicmmbmagbaaZIsSolvedW
import Derived.Test.YthjcicmmbmagbaaZIsSolvedShelf
import Derived.Test.YthjcicmmbmagbaaZIsSolvedHandSort
import Derived.Test.YthjcicmmbmagbaaZIsSolvedHandForm
import Derived.Test.YthjcicmmbmagbaaZIsSolvedHandAlone
import Derived.Test.YthjcicmmbmagbaaZIsSolvedHandReach
namespace Go.Proofs.Ythjcicmmbmagbaa.PFnExactIsSolved
open Go.RowKit Go.Proofs.YthjcicmmbmagbaaW.PrintWords Go.Proofs.YthjcicmmbmagbaaW.PrintLast Go.Proofs.YthjcicmmbmagbaaW.PrintMore Go.Proofs.Ythjcicmmbmagbaa.Sq
attribute [local go_sem] max2_int min2_int max_two min_two max_three min_three max_four min_four
set_option linter.unusedVariables false
set_option linter.unusedSimpArgs false
mutual
def spec_l10Alone.l0 : Nat → List (S153) → Int → Int → Int → ByteArray → Option (Bool)
 | 0, _, _, _, _, _ => none
 | k + 1, x3, x4, x334000, x334001, x334002 => if x4 < (x3.length : Int) then ((spec_UncheckedIn.f k x334000 x334001 x334002 x4).bind fun t337 => (if 0 ≤ x4 then (if (wrap64 (2 * t337)) > ((rd_T153 x3 x4).f3) then (some true) else (spec_l10Alone.l0 k x3 (wrap64 (x4 + 1)) x334000 x334001 x334002)) else (none))) else (spec_l10Alone.l1 k 0 x334000 x334001 x334002)
def spec_l10Alone.l1 : Nat → Int → Int → Int → ByteArray → Option (Bool)
 | 0, _, _, _, _ => none
 | k + 1, x5, x334000, x334001, x334002 => if x5 < (x334002.size : Int) then ((spec_IsWhite.f k x334000 x334001 x334002 x5).bind fun t339 => (if t339 = true then ((spec_SlotsAt.f k x334000 x334001 x334002 x5).bind fun t340 => (if (t340.length : Int) = 0 then (some true) else (spec_l10Alone.l1 k (wrap64 (x5 + 1)) x334000 x334001 x334002))) else (spec_l10Alone.l1 k (wrap64 (x5 + 1)) x334000 x334001 x334002))) else (some false)
end
def spec_l10Alone.f (k : Nat) (a0_0 : Int) (a0_1 : Int) (a0_2 : ByteArray) : Option (Bool) := (spec_SlotsOf.f k a0_0 a0_1 a0_2).bind fun t334 => (spec_l10Alone.l0 k t334 0 a0_0 a0_1 a0_2)
def spec_l10Alone.T5 : Bool × List (List Nat × List Nat) := (true, [([], []), ([], []), ([0, 1], [0, 1]), ([2], [2]), ([], []), ([], []), ([4, 5], [4, 5]), ([6], [6]), ([7], [7]), ([3, 8], [3, 8])])
def spec_l10Alone.B5 : List Nat := [0, 0, 3, 7, 0, 0, 48, 112, 240, 511]
theorem spec_l10Alone.tab5 : rtab .any (opsOf Try.f136 5) = spec_l10Alone.T5 := by kernel_rfl
theorem spec_l10Alone.bits5 : waitsOk spec_l10Alone.T5.2 spec_l10Alone.B5 = true := by kernel_rfl
set_option maxHeartbeats 8000000 in
set_option maxRecDepth 100000 in
theorem spec_l10Alone.calls (k : Nat) (a0_0 : Int) (a0_1 : Int) (a0_2 : ByteArray) (r : Bool) (w : World) (h : spec_l10Alone.f k a0_0 a0_1 a0_2 = some r) :
  Calls Try.prog 136 #[.agg #[.int .i64 a0_0, .int .i64 a0_1, .string a0_2]] w fun e w' => e = .returned (.bool r) ∧ Below w.heap.size w w' := by
 have hu66 := Try.underlying66
 have HB := Aside0.mk (Below.refl w.heap.size w)
 have H : ((spec_SlotsOf.f k a0_0 a0_1 a0_2).bind fun t334 => (spec_l10Alone.l0 k t334 0 a0_0 a0_1 a0_2)) = some r := h
 clear h
 replace H := be H; obtain ⟨t334, A2, H⟩ := H
 have H' := Aside0.mk H
 clear H
 go_enter Try.func136, Try.ntmps136
 go_wp2_with (first | ((with_reducible refine gate_dst (N := 1) rfl ?_); (try (refine gate_guard (by rfl) ?_; dsimp only)); refine box_ev (N := 1) (cs := #[.int .i64 a0_0, .int .i64 a0_1, .string a0_2]) (t := 66) ?_; intro gb333 hg w3 hbox hb; have n0_ := BS (w := w) hb; have n1_ := Aside0.mk (hbox); have n2_ := SZ (w := w) hg; have n3_ := SZ (w := w) hg; clear HB; have HB := n0_; have BK333 := n1_; have GW333 := n2_; have GE333 := n3_; clear n0_ n1_ n2_ n3_; clear hb hbox hg; obtain ⟨hcz4_0, hcz4_1, hcz4_2, hfz4_0, hfz4_1, hfz4_2⟩ := cz3 BK333.out) | ((with_reducible refine gate_callee (f := 84) rfl ?_); refine goesS (some 7) Try.func84 #[.agg #[.int .i64 a0_0, .int .i64 a0_1, .string a0_2]] ?_; (with_reducible refine (spec_SlotsOf.calls k a0_0 a0_1 a0_2 t334 _ A2.out).mono ?_); rintro e w5 ⟨v335, rfl, ho0, hb⟩; refine ⟨_, rfl, ?_⟩; have n0_ := Aside0.mk (Kd.R_lower ho0 (below_size BL)); replace BK333 := KB BK333 hb; replace HB := BS (w := w) hb; have HO336 := n0_; clear n0_; (try clear hb); (try clear ho0)))
 go_loopg [4] k (fun kq v4 w' => ∃ (x4_1 : Int), v4 = .int .i64 x4_1 ∧ Aside0 (spec_l10Alone.l0 kq t334 x4_1 a0_0 a0_1 a0_2 = some r) ∧ Aside0 (kq ≤ k) ∧ Aside0 (Kd.R k153 153 w' w.heap.size (fun _ => True) v335 t334) ∧ Aside0 (w'.heap[gb333]? = some (.cells #[.int .i64 a0_0, .int .i64 a0_1, .string a0_2] 66 (0, 0))) ∧ Aside0 (Below w.heap.size w w'))
 case atStart => exact ⟨(0), EQ, H', ⟨Nat.le_refl _⟩, ⟨(RR HO336)⟩, ⟨BK⟩, ⟨BL⟩⟩
 case round =>
  clear H'
  try clear hcz4_0
  try clear hcz4_1
  try clear hcz4_2
  try clear hfz4_0
  try clear hfz4_1
  try clear hfz4_2
  obtain ⟨x4_1, rfl, HA, HK1, HO_3, BK333, HB⟩ := hrel
  cases gk with
  | zero => exact absurd HA.out (by simp [spec_l10Alone.l0])
  | succ k1 =>
   have H := HA.out
   clear HA
   simp only [spec_l10Alone.l0] at H
   obtain ⟨Ao7000, co7000, eo7000⟩ := Kd.R_slice HO_3.out
   subst eo7000
   replace H := ifD H; rcases H with ⟨c6b0, H⟩ | ⟨c6b0, H⟩
   ·replace H := be H; obtain ⟨t337, A7, H⟩ := H
    replace H := ifN H; obtain ⟨c8b0, H⟩ := H
    replace H := Aside0.mk H
    try go_wp2
    replace HO_3 := Aside0.mk (Kd.R_drew HO_3.out)
    replace BK333 := Aside0.mk (blk_drew BK333.out)
    replace HB := Aside0.mk (below_drew1 HB.out)
    have p338 : 0 ≤ (x4_1 : Int) := OD
    have q338 : x4_1 < (t334.length : Int) := OD
    obtain ⟨ad338, e338, hx338_0, hx338_1, hx338_2, hx338_3⟩ := at_T153 (Kd.R_reads' HO_3.out).2.2 x4_1 p338 q338
    cases e338
    replace p338 := eq_true p338
    replace q338 := eq_true q338
    refine start_ (n := 10) (S := fun w' => w'.cell? ⟨gb333, 0, none⟩ = some (.int .i64 a0_0) ∧ w'.cell? ⟨gb333, 1, none⟩ = some (.int .i64 a0_1) ∧ w'.cell? ⟨gb333, 2, none⟩ = some (.string a0_2) ∧ w'.cell? (ad338.add ((x4_1).toNat * 4)) = some (.int .i64 ((rd_T153 t334 x4_1).f0)) ∧ w'.cell? ⟨(ad338.add ((x4_1).toNat * 4)).block, (ad338.add ((x4_1).toNat * 4)).off + 1, none⟩ = some (.bool ((rd_T153 t334 x4_1).f1)) ∧ w'.cell? ⟨(ad338.add ((x4_1).toNat * 4)).block, (ad338.add ((x4_1).toNat * 4)).off + 2, none⟩ = some (.int .i64 ((rd_T153 t334 x4_1).f2)) ∧ w'.cell? ⟨(ad338.add ((x4_1).toNat * 4)).block, (ad338.add ((x4_1).toNat * 4)).off + 3, none⟩ = some (.int .i64 ((rd_T153 t334 x4_1).f3))) (ds := []) #[false, false, false, false, false, false, false, false, false, false] (by kernel_rfl) rfl rfl ⟨(blk_cell BK333.out 0).trans rfl, (blk_cell BK333.out 1).trans rfl, (blk_cell BK333.out 2).trans rfl, hx338_0, hx338_1, hx338_2, hx338_3⟩ (fun hHeld => ?_); refine with_tabW spec_l10Alone.tab5 spec_l10Alone.bits5 (fun HT_ HW_ => ?_)
    generalize wr.drew = w7001 at HO_3 BK333 HB hx338_0 hx338_1 hx338_2 hx338_3 hHeld ⊢
    refine puS (i := 1) (N := some 15) #[false, true, false, false, false, false, false, false, false, false] (any_of HT_.out (by kernel_rfl)) ?_
    refine puS (i := 4) (N := some 18) #[false, true, false, false, true, false, false, false, false, false] (any_of HT_.out (by kernel_rfl)) ?_
    refine puS (i := 5) (N := some 19) #[false, true, false, false, true, true, false, false, false, false] (any_of HT_.out (by kernel_rfl)) ?_
    refine puS (i := 6) (N := some 20) #[false, true, false, false, true, true, true, false, false, false] (any_of HT_.out (by kernel_rfl)) ?_
    refine puS (i := 7) (N := some 21) #[false, true, false, false, true, true, true, true, false, false] (any_of HT_.out (by kernel_rfl)) ?_
    refine taS (i := 0) (N := some 14) #[true, true, false, false, true, true, true, true, false, false] (take_ofW HT_.out HW_.out (by kernel_rfl)) hHeld ?_
    refine taS (i := 8) (N := some 22) #[true, true, false, false, true, true, true, true, true, false] (take_ofW HT_.out HW_.out (by kernel_rfl)) hHeld ?_
    refine one_ (i := 2) (N := some 16) #[true, true, true, false, true, true, true, true, true, false] rfl rfl (one_of HT_.out (by kernel_rfl)) (by decide) (fun K hK => ?_)
    refine goesR Try.func172 #[.agg #[.int .i64 a0_0, .int .i64 a0_1, .string a0_2], .int .i64 x4_1] ?_
    with_reducible refine (spec_UncheckedIn.calls k1 a0_0 a0_1 a0_2 x4_1 t337 _ A7.out).mono ?_
    rintro e w7002 ⟨rfl, hb⟩
    have HS3_ := (hb.cell (World.block_lt_of_cell? _ _ (hHeld.2.2.2.1))).trans (hHeld.2.2.2.1)
    have HS4_ := (hb.cell (World.block_lt_of_cell? _ _ (hHeld.2.2.2.2.1))).trans (hHeld.2.2.2.2.1)
    have HS5_ := (hb.cell (World.block_lt_of_cell? _ _ (hHeld.2.2.2.2.2.1))).trans (hHeld.2.2.2.2.2.1)
    have HS6_ := (hb.cell (World.block_lt_of_cell? _ _ (hHeld.2.2.2.2.2.2))).trans (hHeld.2.2.2.2.2.2)
    refine ⟨_, rfl, ?_⟩
    replace HO_3 := RB HO_3 hb
    replace BK333 := KB BK333 hb
    replace HB := BS (w := w) hb
    (try clear hb)
    refine hK.out _ _ ⟨(blk_cell BK333.out 0).trans rfl, (blk_cell BK333.out 1).trans rfl, (blk_cell BK333.out 2).trans rfl, HS3_, HS4_, HS5_, HS6_⟩ (fun hHeld => ?_)
    clear hK K
    refine nrm (some 16) ?_
    replace H := H.out
    by_cases c9 : (wrap64 (2 * t337)) > ((rd_T153 t334 x4_1).f3)
    ·rw [if_pos c9] at H
     have c9b0 : decide (((rd_T153 t334 x4_1).f3) < (wrap64 (2 * t337))) = true := decide_eq_true c9
     clear c9
     obtain rfl := Option.some.inj H
     refine puS (i := 3) (N := some 17) #[true, true, true, true, true, true, true, true, true, false] (any_of HT_.out (by kernel_rfl)) ?_
     refine puS (i := 9) (N := some 23) #[true, true, true, true, true, true, true, true, true, true] (any_of HT_.out (by kernel_rfl)) ?_
     refine done_ (done_of HT_.out (by kernel_rfl)) ?_
     try go_wp2
     go_ret
     exact ⟨EWW, BL⟩
    ·rw [if_neg c9] at H
     have c9b0 : decide (((rd_T153 t334 x4_1).f3) < (wrap64 (2 * t337))) = false := decide_eq_false c9
     clear c9
     have H' := Aside0.mk H
     clear H
     refine puS (i := 3) (N := some 17) #[true, true, true, true, true, true, true, true, true, false] (any_of HT_.out (by kernel_rfl)) ?_
     refine puS (i := 9) (N := some 23) #[true, true, true, true, true, true, true, true, true, true] (any_of HT_.out (by kernel_rfl)) ?_
     refine done_ (done_of HT_.out (by kernel_rfl)) ?_
     try go_wp2
     go_roundg k1
     case measure => have := HK1.out; omega
     case rel => exact ⟨(wrap64 (x4_1 + 1)), EQ, H', ⟨by have := HK1.out; omega⟩, ⟨(RR HO_3)⟩, ⟨BK⟩, ⟨BL⟩⟩
   ·have H' := Aside0.mk H
    clear H
    go_wp2
    go_loopg [5] k1 (fun kq v5 w' => ∃ (x5_2 : Int), v5 = .int .i64 x5_2 ∧ Aside0 (spec_l10Alone.l1 kq x5_2 a0_0 a0_1 a0_2 = some r) ∧ Aside0 (kq ≤ k1) ∧ Aside0 (w'.heap[gb333]? = some (.cells #[.int .i64 a0_0, .int .i64 a0_1, .string a0_2] 66 (0, 0))) ∧ Aside0 (Below w.heap.size w w'))
    case atStart => exact ⟨(0), EQ, H', ⟨Nat.le_refl _⟩, ⟨BK⟩, ⟨BL⟩⟩
    case round =>
     clear H'
     try clear c6
     try clear c6b0
     try clear hcz4_0
     try clear hcz4_1
     try clear hcz4_2
     try clear hfz4_0
     try clear hfz4_1
     try clear hfz4_2
     obtain ⟨x5_2, rfl, HA, HK2, BK333, HB⟩ := hrel
     cases gk with
     | zero => exact absurd HA.out (by simp [spec_l10Alone.l1])
     | succ k2 =>
      have H := HA.out
      clear HA
      simp only [spec_l10Alone.l1] at H
      obtain ⟨hcz7001_0, hcz7001_1, hcz7001_2, hfz7001_0, hfz7001_1, hfz7001_2⟩ := cz3 BK333.out
      replace H := ifD H; rcases H with ⟨c17b0, H⟩ | ⟨c17b0, H⟩
      ·replace H := be H; obtain ⟨t339, A18, H⟩ := H
       replace H := Aside0.mk H
       go_wp2_with (first | ((with_reducible refine gate_callee (f := 173) rfl ?_); refine goesS (some 33) Try.func173 #[.agg #[.int .i64 a0_0, .int .i64 a0_1, .string a0_2], .int .i64 x5_2] ?_; (with_reducible refine (spec_IsWhite.calls k2 a0_0 a0_1 a0_2 x5_2 _ _ A18.out).mono ?_); rintro e w7002 ⟨rfl, hb⟩; refine ⟨_, rfl, ?_⟩; replace BK333 := KB BK333 hb; replace HB := BS (w := w) hb; (try clear hb); obtain ⟨hcz7003_0, hcz7003_1, hcz7003_2, hfz7003_0, hfz7003_1, hfz7003_2⟩ := cz3 BK333.out; refine stop_ ?_))
       refine Hide.mk ?_
       replace H := H.out
       replace H := ifB H; rcases H with ⟨rfl, H⟩ | ⟨rfl, H⟩
       ·replace H := be H; obtain ⟨t340, A20, H⟩ := H
        replace H := Aside0.mk H
        go_wp2_with (first | (go_at_call 174; (with_reducible refine (spec_SlotsAt.calls k2 a0_0 a0_1 a0_2 x5_2 t340 _ A20.out).mono ?_); rintro e w7004 ⟨v341, rfl, ho0, hb⟩; have n0_ := Aside0.mk (Kd.R_lower ho0 (below_size BL)); replace BK333 := KB BK333 hb; replace HB := BS (w := w) hb; have HO342 := n0_; clear n0_; (try clear hb); (try clear ho0); obtain ⟨Ao7005, co7005, eo7005⟩ := Kd.R_slice HO342.out; subst eo7005; refine stop_ ?_))
        refine Hide.mk ?_
        replace H := H.out
        replace H := ifE H; rcases H with ⟨c21b0, c21b1, H⟩ | ⟨c21, c21b0, c21b1, H⟩
        ·obtain rfl := Option.some.inj H
         try go_wp2
         go_ret
         exact ⟨EWW, BL⟩
        ·have c21b2 : ¬ (t340 = []) := fun h_ => c21 (by rw [h_]; rfl)
         have H' := Aside0.mk H
         clear H
         try go_wp2
         go_roundg k2
         case measure => have := HK1.out; have := HK2.out; omega
         case rel => exact ⟨(wrap64 (x5_2 + 1)), EQ, H', ⟨by have := HK1.out; have := HK2.out; omega⟩, ⟨BK⟩, ⟨BL⟩⟩
       ·have H' := Aside0.mk H
        clear H
        try go_wp2
        go_roundg k2
        case measure => have := HK1.out; have := HK2.out; omega
        case rel => exact ⟨(wrap64 (x5_2 + 1)), EQ, H', ⟨by have := HK1.out; have := HK2.out; omega⟩, ⟨BK⟩, ⟨BL⟩⟩
      ·obtain rfl := Option.some.inj H
       go_wp2
       go_ret
       exact ⟨EWW, BL⟩
def spec_FormOf.f (k : Nat) (a0_0 : Int) (a0_1 : Int) (a0_2 : ByteArray) : Option (Int) := (spec_IsGrid.f k a0_0 a0_1 a0_2).bind fun t344 => (if t344 = true then ((spec_IsSymmetric.f k a0_0 a0_1 a0_2).bind fun t345 => (if t345 = true then ((spec_IsConnected.f k a0_0 a0_1 a0_2).bind fun t346 => (if t346 = true then ((spec_l10Short.f k a0_0 a0_1 a0_2).bind fun t347 => (if t347 = true then (some 4) else ((spec_l10Alone.f k a0_0 a0_1 a0_2).bind fun t348 => (if t348 = true then (some 5) else (some 0))))) else (some 3))) else (some 2))) else (some 1))
set_option maxHeartbeats 8000000 in
set_option maxRecDepth 100000 in
theorem spec_FormOf.calls (k : Nat) (a0_0 : Int) (a0_1 : Int) (a0_2 : ByteArray) (r : Int) (w : World) (h : spec_FormOf.f k a0_0 a0_1 a0_2 = some r) :
  Calls Try.prog 85 #[.agg #[.int .i64 a0_0, .int .i64 a0_1, .string a0_2]] w fun e w' => e = .returned (.int .i64 r) ∧ Below w.heap.size w w' := by
 have hu66 := Try.underlying66
 have HB := Aside0.mk (Below.refl w.heap.size w)
 have H : ((spec_IsGrid.f k a0_0 a0_1 a0_2).bind fun t344 => (if t344 = true then ((spec_IsSymmetric.f k a0_0 a0_1 a0_2).bind fun t345 => (if t345 = true then ((spec_IsConnected.f k a0_0 a0_1 a0_2).bind fun t346 => (if t346 = true then ((spec_l10Short.f k a0_0 a0_1 a0_2).bind fun t347 => (if t347 = true then (some 4) else ((spec_l10Alone.f k a0_0 a0_1 a0_2).bind fun t348 => (if t348 = true then (some 5) else (some 0))))) else (some 3))) else (some 2))) else (some 1))) = some r := h
 clear h
 replace H := be H; obtain ⟨t344, A2, H⟩ := H
 replace H := Aside0.mk H
 go_enter Try.func85, Try.ntmps85
 go_wp2_with (first | ((with_reducible refine gate_dst (N := 1) rfl ?_); refine box_ev (N := 1) (cs := #[.int .i64 a0_0, .int .i64 a0_1, .string a0_2]) (t := 66) ?_; intro gb343 hg w9000 hbox hb; have n0_ := BS (w := w) hb; have n1_ := Aside0.mk (hbox); have n2_ := SZ (w := w) hg; have n3_ := SZ (w := w) hg; clear HB; have HB := n0_; have BK343 := n1_; have GW343 := n2_; have GE343 := n3_; clear n0_ n1_ n2_ n3_; clear hb hbox hg; obtain ⟨hcz9001_0, hcz9001_1, hcz9001_2, hfz9001_0, hfz9001_1, hfz9001_2⟩ := cz3 BK343.out) | ((with_reducible refine gate_callee (f := 131) rfl ?_); refine goesS (some 5) Try.func131 #[.agg #[.int .i64 a0_0, .int .i64 a0_1, .string a0_2]] ?_; (with_reducible refine (spec_IsGrid.calls k a0_0 a0_1 a0_2 _ _ A2.out).mono ?_); rintro e w9002 ⟨rfl, hb⟩; refine ⟨_, rfl, ?_⟩; replace BK343 := KB BK343 hb; replace HB := BS (w := w) hb; (try clear hb); obtain ⟨hcz9003_0, hcz9003_1, hcz9003_2, hfz9003_0, hfz9003_1, hfz9003_2⟩ := cz3 BK343.out; refine stop_ ?_))
 refine Hide.mk ?_
 replace H := H.out
 replace H := ifB H; rcases H with ⟨rfl, H⟩ | ⟨rfl, H⟩
 ·replace H := be H; obtain ⟨t345, A4, H⟩ := H
  replace H := Aside0.mk H
  go_wp2_with (first | ((with_reducible refine gate_callee (f := 133) rfl ?_); refine goesS (some 9) Try.func133 #[.agg #[.int .i64 a0_0, .int .i64 a0_1, .string a0_2]] ?_; (with_reducible refine (spec_IsSymmetric.calls k a0_0 a0_1 a0_2 _ _ A4.out).mono ?_); rintro e w9004 ⟨rfl, hb⟩; refine ⟨_, rfl, ?_⟩; replace BK343 := KB BK343 hb; replace HB := BS (w := w) hb; (try clear hb); obtain ⟨hcz9005_0, hcz9005_1, hcz9005_2, hfz9005_0, hfz9005_1, hfz9005_2⟩ := cz3 BK343.out; refine stop_ ?_))
  refine Hide.mk ?_
  replace H := H.out
  replace H := ifB H; rcases H with ⟨rfl, H⟩ | ⟨rfl, H⟩
  ·replace H := be H; obtain ⟨t346, A6, H⟩ := H
   replace H := Aside0.mk H
   go_wp2_with (first | ((with_reducible refine gate_callee (f := 134) rfl ?_); refine goesS (some 13) Try.func134 #[.agg #[.int .i64 a0_0, .int .i64 a0_1, .string a0_2]] ?_; (with_reducible refine (spec_IsConnected.calls k a0_0 a0_1 a0_2 _ _ A6.out).mono ?_); rintro e w9006 ⟨rfl, hb⟩; refine ⟨_, rfl, ?_⟩; replace BK343 := KB BK343 hb; replace HB := BS (w := w) hb; (try clear hb); obtain ⟨hcz9007_0, hcz9007_1, hcz9007_2, hfz9007_0, hfz9007_1, hfz9007_2⟩ := cz3 BK343.out; refine stop_ ?_))
   refine Hide.mk ?_
   replace H := H.out
   replace H := ifB H; rcases H with ⟨rfl, H⟩ | ⟨rfl, H⟩
   ·replace H := be H; obtain ⟨t347, A8, H⟩ := H
    replace H := Aside0.mk H
    go_wp2_with (first | ((with_reducible refine gate_callee (f := 135) rfl ?_); refine goesS (some 17) Try.func135 #[.agg #[.int .i64 a0_0, .int .i64 a0_1, .string a0_2]] ?_; (with_reducible refine (spec_l10Short.calls k a0_0 a0_1 a0_2 _ _ A8.out).mono ?_); rintro e w9008 ⟨rfl, hb⟩; refine ⟨_, rfl, ?_⟩; replace BK343 := KB BK343 hb; replace HB := BS (w := w) hb; (try clear hb); obtain ⟨hcz9009_0, hcz9009_1, hcz9009_2, hfz9009_0, hfz9009_1, hfz9009_2⟩ := cz3 BK343.out; refine stop_ ?_))
    refine Hide.mk ?_
    replace H := H.out
    replace H := ifB H; rcases H with ⟨rfl, H⟩ | ⟨rfl, H⟩
    ·obtain rfl := Option.some.inj H
     try go_wp2
     go_ret
     exact ⟨EWW, BL⟩
    ·replace H := be H; obtain ⟨t348, A19, H⟩ := H
     replace H := Aside0.mk H
     go_wp2_with (first | ((with_reducible refine gate_callee (f := 136) rfl ?_); refine goesS (some 20) Try.func136 #[.agg #[.int .i64 a0_0, .int .i64 a0_1, .string a0_2]] ?_; (with_reducible refine (spec_l10Alone.calls k a0_0 a0_1 a0_2 _ _ A19.out).mono ?_); rintro e w9010 ⟨rfl, hb⟩; refine ⟨_, rfl, ?_⟩; replace BK343 := KB BK343 hb; replace HB := BS (w := w) hb; (try clear hb); refine stop_ ?_))
     refine Hide.mk ?_
     replace H := H.out
     replace H := ifB H; rcases H with ⟨rfl, H⟩ | ⟨rfl, H⟩
     ·obtain rfl := Option.some.inj H
      try go_wp2
      go_ret
      exact ⟨EWW, BL⟩
     ·obtain rfl := Option.some.inj H
      try go_wp2
      go_ret
      exact ⟨EWW, BL⟩
   ·obtain rfl := Option.some.inj H
    try go_wp2
    go_ret
    exact ⟨EWW, BL⟩
  ·obtain rfl := Option.some.inj H
   try go_wp2
   go_ret
   exact ⟨EWW, BL⟩
 ·obtain rfl := Option.some.inj H
  try go_wp2
  go_ret
  exact ⟨EWW, BL⟩
def spec_IsPuzzle.l0 : Nat → Int → Int → Int → ByteArray → List (S116) → List Int → Int → Option (Bool)
 | 0, _, _, _, _, _, _, _ => none
 | k + 1, x3, x350000, x350001, x350002, x350003, x350004, x350005 => if x3 < (x350003.length : Int) then (if 0 ≤ x3 then ((spec_IsClue.f k ((rd_T116 x350003 x3).f0) ((rd_T116 x350003 x3).f1)).bind fun t351 => (if t351 = true then (spec_IsPuzzle.l0 k (wrap64 (x3 + 1)) x350000 x350001 x350002 x350003 x350004 x350005) else (some false))) else (none)) else ((spec_SlotsOf.f k x350000 x350001 x350002).bind fun t352 => ((spec_FormOf.f k x350000 x350001 x350002).bind fun t355 => (if t355 = 0 then (if (x350003.length : Int) = (t352.length : Int) then (if (x350004.length : Int) = (t352.length : Int) then ((spec_l1In.f x350005 1 9999).bind fun t356 => (some t356)) else (some false)) else (some false)) else (some false))))
def spec_IsPuzzle.f (k : Nat) (a0_0 : Int) (a0_1 : Int) (a0_2 : ByteArray) (l0_3 : List (S116)) (l0_4 : List Int) (a0_5 : Int) : Option (Bool) := spec_IsPuzzle.l0 k 0 a0_0 a0_1 a0_2 l0_3 l0_4 a0_5
set_option maxHeartbeats 8000000 in
set_option maxRecDepth 100000 in
theorem spec_IsPuzzle.calls (k : Nat) (a0_0 : Int) (a0_1 : Int) (a0_2 : ByteArray) (A0_3 : Option Addr) (c0_3 : Nat) (l0_3 : List (S116)) (A0_4 : Option Addr) (c0_4 : Nat) (l0_4 : List Int) (a0_5 : Int) (r : Bool) (w : World) (hr0_3 : Kd.C k116 w A0_3 l0_3.length l0_3) (hc0_3 : l0_3.length ≤ c0_3) (hr0_4 : Kd.C (Kd.int .i64) w A0_4 l0_4.length l0_4) (hc0_4 : l0_4.length ≤ c0_4) (h : spec_IsPuzzle.f k a0_0 a0_1 a0_2 l0_3 l0_4 a0_5 = some r) :
  Calls Try.prog 36 #[.agg #[.int .i64 a0_0, .int .i64 a0_1, .string a0_2, .slice A0_3 l0_3.length c0_3, .slice A0_4 l0_4.length c0_4, .int .i64 a0_5]] w fun e w' => e = .returned (.bool r) ∧ Below w.heap.size w w' := by
 have hu69 := Try.underlying69
 have hu116 := Try.underlying116
 have hu66 := Try.underlying66
 have HR0_3 := Aside0.mk hr0_3
 have HC0_3 := Aside0.mk hc0_3
 clear hr0_3 hc0_3
 have HR0_4 := Aside0.mk hr0_4
 have HC0_4 := Aside0.mk hc0_4
 clear hr0_4 hc0_4
 have HB := Aside0.mk (Below.refl w.heap.size w)
 have H : (spec_IsPuzzle.l0 k 0 a0_0 a0_1 a0_2 l0_3 l0_4 a0_5) = some r := h
 clear h
 have H' := Aside0.mk H
 clear H
 go_enter Try.func36, Try.ntmps36
 go_wp2_with (first | ((with_reducible refine gate_dst (N := 1) rfl ?_); (try (refine gate_guard (by rfl) ?_; dsimp only)); refine box_ev (N := 1) (cs := #[.int .i64 a0_0, .int .i64 a0_1, .string a0_2, .slice A0_3 l0_3.length c0_3, .slice A0_4 l0_4.length c0_4, .int .i64 a0_5]) (t := 69) ?_; intro gb349 hg w2 hbox hb; have n0_ := BS (w := w) hb; have n1_ := Aside0.mk (hbox); have n2_ := SZ (w := w) hg; have n3_ := SZ (w := w) hg; clear HB; have HB := n0_; have BK349 := n1_; have GW349 := n2_; have GE349 := n3_; clear n0_ n1_ n2_ n3_; clear hb hbox hg))
 go_loopg [3] k (fun kq v3 w' => ∃ (x3_1 : Int), v3 = .int .i64 x3_1 ∧ Aside0 (spec_IsPuzzle.l0 kq x3_1 a0_0 a0_1 a0_2 l0_3 l0_4 a0_5 = some r) ∧ Aside0 (kq ≤ k) ∧ Aside0 (w'.heap[gb349]? = some (.cells #[.int .i64 a0_0, .int .i64 a0_1, .string a0_2, (.slice A0_3 l0_3.length c0_3), (.slice A0_4 l0_4.length c0_4), .int .i64 a0_5] 69 (0, 0))) ∧ Aside0 (Below w.heap.size w w'))
 case atStart => exact ⟨(0), EQ, H', ⟨Nat.le_refl _⟩, ⟨BK⟩, ⟨BL⟩⟩
 case round =>
  clear H'
  obtain ⟨x3_1, rfl, HA, HK1, BK349, HB⟩ := hrel
  cases gk with
  | zero => exact absurd HA.out (by simp [spec_IsPuzzle.l0])
  | succ k1 =>
   have H := HA.out
   clear HA
   simp only [spec_IsPuzzle.l0] at H
   obtain ⟨hcz7000_0, hcz7000_1, hcz7000_2, hcz7000_3, hcz7000_4, hcz7000_5, hfz7000_0, hfz7000_1, hfz7000_2, hfz7000_3, hfz7000_4, hfz7000_5⟩ := cz6 BK349.out
   replace H := ifD H; rcases H with ⟨c3b0, H⟩ | ⟨c3b0, H⟩
   ·replace H := ifN H; obtain ⟨c4b0, H⟩ := H
    replace H := be H; obtain ⟨t351, A5, H⟩ := H
    have p350 : 0 ≤ (x3_1 : Int) := OD
    have q350 : x3_1 < (l0_3.length : Int) := OD
    obtain ⟨ad350, A350_1, c350_1, e350, hx350_0, hx350_1, hl350_1, hi350_1⟩ := at_T116 HR0_3.out x3_1 p350 q350
    cases e350
    try replace hx350_0 := (HB.out.cell (World.block_lt_of_cell? w _ hx350_0)).trans hx350_0
    try replace hx350_1 := (HB.out.cell (World.block_lt_of_cell? w _ hx350_1)).trans hx350_1
    have HR350_1 := Aside0.mk hi350_1
    have HC350_1 := Aside0.mk hl350_1
    clear hi350_1 hl350_1
    replace p350 := eq_true p350
    replace q350 := eq_true q350
    replace H := Aside0.mk H
    go_wp2_with (first | ((with_reducible refine gate_callee (f := 83) rfl ?_); refine goesS (some 17) Try.func83 #[.agg #[.int .i64 ((rd_T116 l0_3 x3_1).f0), .slice A350_1 ((rd_T116 l0_3 x3_1).f1).length c350_1]] ?_; (with_reducible refine (spec_IsClue.calls k1 ((rd_T116 l0_3 x3_1).f0) _ _ ((rd_T116 l0_3 x3_1).f1) _ _ ?side1 ?side2 A5.out).mono ?_); (case side1 => exact CB HR350_1); (case side2 => exact HC350_1.out); rintro e w7001 ⟨rfl, hb⟩; refine ⟨_, rfl, ?_⟩; replace BK349 := KB BK349 hb; replace HB := BS (w := w) hb; (try clear hb); refine stop_ ?_))
    refine Hide.mk ?_
    replace H := H.out
    replace H := ifB H; rcases H with ⟨rfl, H⟩ | ⟨rfl, H⟩
    ·have H' := Aside0.mk H
     clear H
     try go_wp2
     go_roundg k1
     case measure => have := HK1.out; omega
     case rel => exact ⟨(wrap64 (x3_1 + 1)), EQ, H', ⟨by have := HK1.out; omega⟩, ⟨BK⟩, ⟨BL⟩⟩
    ·obtain rfl := Option.some.inj H
     try go_wp2
     go_ret
     exact ⟨EWW, BL⟩
   ·replace H := be H; obtain ⟨t352, A11, H⟩ := H
    replace H := be H; obtain ⟨t355, A12, H⟩ := H
    replace H := Aside0.mk H
    go_wp2_with (first | ((with_reducible refine gate_callee (f := 84) rfl ?_); refine goesS (some 21) Try.func84 #[.agg #[.int .i64 a0_0, .int .i64 a0_1, .string a0_2]] ?_; (with_reducible refine (spec_SlotsOf.calls k1 a0_0 a0_1 a0_2 t352 _ A11.out).mono ?_); rintro e w7001 ⟨v353, rfl, ho0, hb⟩; refine ⟨_, rfl, ?_⟩; have n0_ := Aside0.mk (Kd.R_lower ho0 (below_size BL)); replace BK349 := KB BK349 hb; replace HB := BS (w := w) hb; have HO354 := n0_; clear n0_; (try clear hb); (try clear ho0); obtain ⟨Ao7002, co7002, eo7002⟩ := Kd.R_slice HO354.out; subst eo7002; obtain ⟨hcz7003_0, hcz7003_1, hcz7003_2, hcz7003_3, hcz7003_4, hcz7003_5, hfz7003_0, hfz7003_1, hfz7003_2, hfz7003_3, hfz7003_4, hfz7003_5⟩ := cz6 BK349.out) | ((with_reducible refine gate_callee (f := 85) rfl ?_); refine goesS (some 25) Try.func85 #[.agg #[.int .i64 a0_0, .int .i64 a0_1, .string a0_2]] ?_; (with_reducible refine (spec_FormOf.calls k1 a0_0 a0_1 a0_2 t355 _ A12.out).mono ?_); rintro e w7004 ⟨rfl, hb⟩; refine ⟨_, rfl, ?_⟩; replace HO354 := RB HO354 hb; replace BK349 := KB BK349 hb; replace HB := BS (w := w) hb; (try clear hb); obtain ⟨hcz7005_0, hcz7005_1, hcz7005_2, hcz7005_3, hcz7005_4, hcz7005_5, hfz7005_0, hfz7005_1, hfz7005_2, hfz7005_3, hfz7005_4, hfz7005_5⟩ := cz6 BK349.out; refine stop_ ?_))
    refine Hide.mk ?_
    replace H := H.out
    replace H := ifE H; rcases H with ⟨c13b0, c13b1, H⟩ | ⟨c13, c13b0, c13b1, H⟩
    ·by_cases c14 : (l0_3.length : Int) = (t352.length : Int)
     ·rw [if_pos c14] at H
      have c14b0 : ((l0_3.length : Int) == (t352.length : Int)) = true := beq_iff_eq.mpr c14
      have c14b1 : ((l0_3.length : Int) != (t352.length : Int)) = false := bne_eq_false_iff_eq.mpr c14
      have c14b2 : (l0_3.length == t352.length) = true := by first | simpa using c14 | (simp at c14 ⊢; omega)
      clear c14
      by_cases c15 : (l0_4.length : Int) = (t352.length : Int)
      ·rw [if_pos c15] at H
       have c15b0 : ((l0_4.length : Int) == (t352.length : Int)) = true := beq_iff_eq.mpr c15
       have c15b1 : ((l0_4.length : Int) != (t352.length : Int)) = false := bne_eq_false_iff_eq.mpr c15
       have c15b2 : (l0_4.length == t352.length) = true := by first | simpa using c15 | (simp at c15 ⊢; omega)
       clear c15
       replace H := be H; obtain ⟨t356, A16, H⟩ := H
       obtain rfl := Option.some.inj H
       try go_wp2_with (first | (go_at_call 86; (with_reducible refine (spec_l1In.calls a0_5 1 9999 t356 _ A16.out).mono ?_); rintro e w' ⟨rfl, ⟨nd, rfl⟩⟩))
       go_ret
       exact ⟨EWW, BL⟩
      ·rw [if_neg c15] at H
       have c15b0 : ((l0_4.length : Int) == (t352.length : Int)) = false := beq_eq_false_iff_ne.mpr c15
       have c15b1 : ((l0_4.length : Int) != (t352.length : Int)) = true := bne_iff_ne.mpr c15
       have c15b2 : (l0_4.length == t352.length) = false := by first | simpa using c15 | (simp at c15 ⊢; omega)
       obtain rfl := Option.some.inj H
       try go_wp2
       go_ret
       exact ⟨EWW, BL⟩
     ·rw [if_neg c14] at H
      have c14b0 : ((l0_3.length : Int) == (t352.length : Int)) = false := beq_eq_false_iff_ne.mpr c14
      have c14b1 : ((l0_3.length : Int) != (t352.length : Int)) = true := bne_iff_ne.mpr c14
      have c14b2 : (l0_3.length == t352.length) = false := by first | simpa using c14 | (simp at c14 ⊢; omega)
      obtain rfl := Option.some.inj H
      try go_wp2
      go_ret
      exact ⟨EWW, BL⟩
    ·obtain rfl := Option.some.inj H
     try go_wp2
     go_ret
     exact ⟨EWW, BL⟩
end Go.Proofs.Ythjcicmmbmagbaa.PFnExactIsSolved
