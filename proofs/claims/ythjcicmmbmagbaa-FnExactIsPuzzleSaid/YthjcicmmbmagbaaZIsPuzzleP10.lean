/- Walks of functions: what each computes. -/
import Derived.Test.YthjcicmmbmagbaaZIsPuzzleP0
import Derived.Test.YthjcicmmbmagbaaZIsPuzzleP3
import Derived.Test.YthjcicmmbmagbaaZIsPuzzleP4
import Derived.Test.YthjcicmmbmagbaaZIsPuzzleP5
import Derived.Test.YthjcicmmbmagbaaZIsPuzzleP6
import Derived.Test.YthjcicmmbmagbaaZIsPuzzleP7
import Derived.Test.YthjcicmmbmagbaaZIsPuzzleP8
import Derived.Test.YthjcicmmbmagbaaZIsPuzzleP9
import Derived.Test.YthjcicmmbmagbaaZIsPuzzleW
import Derived.Test.YthjcicmmbmagbaaZIsPuzzleShelf
import Derived.Test.YthjcicmmbmagbaaZIsPuzzleHandSort
import Derived.Test.YthjcicmmbmagbaaZIsPuzzleHandForm
import Derived.Test.YthjcicmmbmagbaaZIsPuzzleHandAlone
import Derived.Test.YthjcicmmbmagbaaZIsPuzzleHandReach
namespace Go.Proofs.Ythjcicmmbmagbaa.PFnExactIsPuzzle
open Go.RowKit Go.Proofs.YthjcicmmbmagbaaW.PrintWords Go.Proofs.YthjcicmmbmagbaaW.PrintLast Go.Proofs.YthjcicmmbmagbaaW.PrintMore Go.Proofs.Ythjcicmmbmagbaa.Sq
attribute [local go_sem] max2_int min2_int max_two min_two max_three min_three max_four min_four
set_option linter.unusedVariables false
set_option linter.unusedSimpArgs false
mutual
def spec_l10Alone.l0 : Nat → List (S153) → Int → Int → Int → ByteArray → Option (Bool)
 | 0, _, _, _, _, _ => none
 | k + 1, x3, x4, x267000, x267001, x267002 => if x4 < (x3.length : Int) then ((spec_UncheckedIn.f k x267000 x267001 x267002 x4).bind fun t270 => (if 0 ≤ x4 then (if (wrap64 (2 * t270)) > ((rd_T153 x3 x4).f3) then (some true) else (spec_l10Alone.l0 k x3 (wrap64 (x4 + 1)) x267000 x267001 x267002)) else (none))) else (spec_l10Alone.l1 k 0 x267000 x267001 x267002)
def spec_l10Alone.l1 : Nat → Int → Int → Int → ByteArray → Option (Bool)
 | 0, _, _, _, _ => none
 | k + 1, x5, x267000, x267001, x267002 => if x5 < (x267002.size : Int) then ((spec_IsWhite.f k x267000 x267001 x267002 x5).bind fun t272 => (if t272 = true then ((spec_SlotsAt.f k x267000 x267001 x267002 x5).bind fun t273 => (if (t273.length : Int) = 0 then (some true) else (spec_l10Alone.l1 k (wrap64 (x5 + 1)) x267000 x267001 x267002))) else (spec_l10Alone.l1 k (wrap64 (x5 + 1)) x267000 x267001 x267002))) else (some false)
end
def spec_l10Alone.f (k : Nat) (a0_0 : Int) (a0_1 : Int) (a0_2 : ByteArray) : Option (Bool) := (spec_SlotsOf.f k a0_0 a0_1 a0_2).bind fun t267 => (spec_l10Alone.l0 k t267 0 a0_0 a0_1 a0_2)
def spec_l10Alone.T5 : Bool × List (List Nat × List Nat) := (true, [([], []), ([], []), ([0, 1], [0, 1]), ([2], [2]), ([], []), ([], []), ([4, 5], [4, 5]), ([6], [6]), ([7], [7]), ([3, 8], [3, 8])])
def spec_l10Alone.B5 : List Nat := [0, 0, 3, 7, 0, 0, 48, 112, 240, 511]
theorem spec_l10Alone.tab5 : rtab .any (opsOf Try.f136 5) = spec_l10Alone.T5 := by kernel_rfl
theorem spec_l10Alone.bits5 : waitsOk spec_l10Alone.T5.2 spec_l10Alone.B5 = true := by kernel_rfl
set_option maxHeartbeats 8000000 in
set_option maxRecDepth 100000 in
theorem spec_l10Alone.calls (k : Nat) (a0_0 : Int) (a0_1 : Int) (a0_2 : ByteArray) (r : Bool) (w : World) (h : spec_l10Alone.f k a0_0 a0_1 a0_2 = some r) :
  Calls Try.prog 136 #[.agg #[.int .i64 a0_0, .int .i64 a0_1, .string a0_2]] w fun e w' => e = .returned (.bool r) ∧ Below w.heap.size w w' := by
 have hu66 := Try.underlying66
 have HB := Aside0.mk (Below.refl w.heap.size w)
 have H : ((spec_SlotsOf.f k a0_0 a0_1 a0_2).bind fun t267 => (spec_l10Alone.l0 k t267 0 a0_0 a0_1 a0_2)) = some r := h
 clear h
 obtain ⟨t267, A2, H⟩ := be H
 have H' := Aside0.mk H
 clear H
 go_enter Try.func136, Try.ntmps136
 go_wp2_with (first | ((with_reducible refine gate_dst (N := 1) rfl ?_); (try (refine gate_guard (by rfl) ?_; dsimp only)); refine box_ev (N := 1) (cs := #[.int .i64 a0_0, .int .i64 a0_1, .string a0_2]) (t := 66) ?_; intro gb266 hg w3 hbox hb; have n0_ := BS (w := w) hb; have n1_ := Aside0.mk (hbox); have n2_ := SZ (w := w) hg; have n3_ := SZ (w := w) hg; clear HB; have HB := n0_; have BK266 := n1_; have GW266 := n2_; have GE266 := n3_; clear n0_ n1_ n2_ n3_; clear hb hbox hg; obtain ⟨hcz4_0, hcz4_1, hcz4_2, hfz4_0, hfz4_1, hfz4_2⟩ := cz3 BK266.out) | ((with_reducible refine gate_callee (f := 84) rfl ?_); refine goesS (some 7) Try.func84 #[.agg #[.int .i64 a0_0, .int .i64 a0_1, .string a0_2]] ?_; (with_reducible refine (spec_SlotsOf.calls k a0_0 a0_1 a0_2 t267 _ A2.out).mono ?_); rintro e w5 ⟨v268, rfl, ho0, hb⟩; refine ⟨_, rfl, ?_⟩; have n0_ := Aside0.mk (Kd.R_lower ho0 (below_size BL)); replace BK266 := KB BK266 hb; replace HB := BS (w := w) hb; have HO269 := n0_; clear n0_; (try clear hb); (try clear ho0)))
 go_loopg [4] k (fun kq v4 w' => ∃ (x4_1 : Int), v4 = .int .i64 x4_1 ∧ Aside0 (spec_l10Alone.l0 kq t267 x4_1 a0_0 a0_1 a0_2 = some r) ∧ Aside0 (kq ≤ k) ∧ Aside0 (Kd.R k153 153 w' w.heap.size (fun _ => True) v268 t267) ∧ Aside0 (w'.heap[gb266]? = some (.cells #[.int .i64 a0_0, .int .i64 a0_1, .string a0_2] 66 (0, 0))) ∧ Aside0 (Below w.heap.size w w'))
 case atStart => exact ⟨(0), EQ, H', ⟨Nat.le_refl _⟩, ⟨(RR HO269)⟩, ⟨BK⟩, ⟨BL⟩⟩
 case round =>
  clear H'
  try clear hcz4_0
  try clear hcz4_1
  try clear hcz4_2
  try clear hfz4_0
  try clear hfz4_1
  try clear hfz4_2
  obtain ⟨x4_1, rfl, HA, HK1, HO_3, BK266, HB⟩ := hrel
  cases gk with
  | zero => exact absurd HA.out (by simp [spec_l10Alone.l0])
  | succ k1 =>
   have H := HA.out
   clear HA
   simp only [spec_l10Alone.l0] at H
   obtain ⟨Ao7000, co7000, eo7000⟩ := Kd.R_slice HO_3.out
   subst eo7000
   by_cases c6 : x4_1 < (t267.length : Int)
   ·rw [if_pos c6] at H
    have c6b0 : decide (x4_1 < (t267.length : Int)) = true := decide_eq_true c6
    clear c6
    obtain ⟨t270, A7, H⟩ := be H
    by_cases c8 : 0 ≤ x4_1
    ·rw [if_pos c8] at H
     have c8b0 : decide (0 ≤ x4_1) = true := decide_eq_true c8
     clear c8
     replace H := Aside0.mk H
     try go_wp2
     have n0_ := Aside0.mk (Kd.R_drew HO_3.out)
     have n1_ := Aside0.mk (blk_drew BK266.out)
     have n2_ := Aside0.mk (below_drew1 HB.out)
     clear HO_3
     clear BK266
     clear HB
     have HO_3 := n0_
     have BK266 := n1_
     have HB := n2_
     clear n0_ n1_ n2_
     have p271 : 0 ≤ (x4_1 : Int) := OD
     have q271 : x4_1 < (t267.length : Int) := OD
     obtain ⟨ad271, e271, hx271_0, hx271_1, hx271_2, hx271_3⟩ := at_T153 (Kd.R_reads' HO_3.out).2.2 x4_1 p271 q271
     replace H := H.out
     by_cases c9 : (wrap64 (2 * t270)) > ((rd_T153 t267 x4_1).f3)
     ·rw [if_pos c9] at H
      have c9b0 : decide (((rd_T153 t267 x4_1).f3) < (wrap64 (2 * t270))) = true := decide_eq_true c9
      clear c9
      obtain rfl := Option.some.inj H
      cases e271
      replace p271 := eq_true p271
      replace q271 := eq_true q271
      refine start_ (n := 10) (S := fun w' => w'.cell? ⟨gb266, 0, none⟩ = some (.int .i64 a0_0) ∧ w'.cell? ⟨gb266, 1, none⟩ = some (.int .i64 a0_1) ∧ w'.cell? ⟨gb266, 2, none⟩ = some (.string a0_2) ∧ w'.cell? (ad271.add ((x4_1).toNat * 4)) = some (.int .i64 ((rd_T153 t267 x4_1).f0)) ∧ w'.cell? ⟨(ad271.add ((x4_1).toNat * 4)).block, (ad271.add ((x4_1).toNat * 4)).off + 1, none⟩ = some (.bool ((rd_T153 t267 x4_1).f1)) ∧ w'.cell? ⟨(ad271.add ((x4_1).toNat * 4)).block, (ad271.add ((x4_1).toNat * 4)).off + 2, none⟩ = some (.int .i64 ((rd_T153 t267 x4_1).f2)) ∧ w'.cell? ⟨(ad271.add ((x4_1).toNat * 4)).block, (ad271.add ((x4_1).toNat * 4)).off + 3, none⟩ = some (.int .i64 ((rd_T153 t267 x4_1).f3))) (ds := []) #[false, false, false, false, false, false, false, false, false, false] (by kernel_rfl) rfl rfl ⟨(blk_cell BK266.out 0).trans rfl, (blk_cell BK266.out 1).trans rfl, (blk_cell BK266.out 2).trans rfl, hx271_0, hx271_1, hx271_2, hx271_3⟩ (fun hHeld => ?_); refine with_tabW spec_l10Alone.tab5 spec_l10Alone.bits5 (fun HT_ HW_ => ?_)
      generalize wr.drew = w7001 at HO_3 BK266 HB hx271_0 hx271_1 hx271_2 hx271_3 hHeld ⊢
      refine puS (i := 1) (N := some 15) #[false, true, false, false, false, false, false, false, false, false] (any_of HT_.out (by kernel_rfl)) ?_
      refine puS (i := 4) (N := some 18) #[false, true, false, false, true, false, false, false, false, false] (any_of HT_.out (by kernel_rfl)) ?_
      refine puS (i := 5) (N := some 19) #[false, true, false, false, true, true, false, false, false, false] (any_of HT_.out (by kernel_rfl)) ?_
      refine puS (i := 6) (N := some 20) #[false, true, false, false, true, true, true, false, false, false] (any_of HT_.out (by kernel_rfl)) ?_
      refine puS (i := 7) (N := some 21) #[false, true, false, false, true, true, true, true, false, false] (any_of HT_.out (by kernel_rfl)) ?_
      refine take_ (i := 0) (N := some 14) (v := ?_) (a' := ?_) #[true, true, false, false, true, true, true, true, false, false] rfl rfl (take_ofW HT_.out HW_.out (by kernel_rfl)) (fun _ _ _ h => h) (Or.inl ⟨by rfl, ?_⟩) hHeld ?_ ?_
      rotate_left
      ·rintro w' ⟨s0, s1, s2, s3, s4, s5, s6⟩
       go_simp
       with_reducible rfl
      rotate_left
      ·simp only [Act.put, PT, i64_w, i32_w]
       rfl
      refine take_ (i := 8) (N := some 22) (v := ?_) (a' := ?_) #[true, true, false, false, true, true, true, true, true, false] rfl rfl (take_ofW HT_.out HW_.out (by kernel_rfl)) (fun _ _ _ h => h) (Or.inl ⟨by rfl, ?_⟩) hHeld ?_ ?_
      rotate_left
      ·rintro w' ⟨s0, s1, s2, s3, s4, s5, s6⟩
       go_simp
       with_reducible rfl
      rotate_left
      ·simp only [Act.put, PT, i64_w, i32_w]
       rfl
      refine one_ (i := 2) (N := some 16) #[true, true, true, false, true, true, true, true, true, false] rfl rfl (one_of HT_.out (by kernel_rfl)) (by decide) (fun K hK => ?_)
      refine goes_ Try.func172 (by kernel_rfl) rfl #[.agg #[.int .i64 a0_0, .int .i64 a0_1, .string a0_2], .int .i64 x4_1] (by rfl) rfl rfl (by (try simp only [List.map_toArray, List.map_cons, List.map_nil]); first | done | rfl | (simp only [List.length_drop, List.length_take]; rfl)) ?_
      with_reducible refine (spec_UncheckedIn.calls k1 a0_0 a0_1 a0_2 x4_1 t270 _ A7.out).mono ?_
      rintro e w7002 ⟨rfl, hb⟩
      have HS3_ := (hb.cell (World.block_lt_of_cell? _ _ (hHeld.2.2.2.1))).trans (hHeld.2.2.2.1)
      have HS4_ := (hb.cell (World.block_lt_of_cell? _ _ (hHeld.2.2.2.2.1))).trans (hHeld.2.2.2.2.1)
      have HS5_ := (hb.cell (World.block_lt_of_cell? _ _ (hHeld.2.2.2.2.2.1))).trans (hHeld.2.2.2.2.2.1)
      have HS6_ := (hb.cell (World.block_lt_of_cell? _ _ (hHeld.2.2.2.2.2.2))).trans (hHeld.2.2.2.2.2.2)
      refine ⟨_, rfl, ?_⟩
      have n0_ := RB HO_3 hb
      have n1_ := KB BK266 hb
      have n2_ := BS (w := w) hb
      clear HO_3
      clear BK266
      clear HB
      have HO_3 := n0_
      have BK266 := n1_
      have HB := n2_
      clear n0_ n1_ n2_
      (try clear hb)
      (try clear hb2)
      (try clear hk)
      (try clear hi)
      refine hK.out _ _ ⟨(blk_cell BK266.out 0).trans rfl, (blk_cell BK266.out 1).trans rfl, (blk_cell BK266.out 2).trans rfl, HS3_, HS4_, HS5_, HS6_⟩ (fun hHeld => ?_)
      clear hK K
      refine norm_ (a' := ?_) ?_ ?_
      rotate_left
      ·show Act.put _ (some 16) _ = _
       simp only [Act.put, PT, i64_w, i32_w]
       rfl
      refine puS (i := 3) (N := some 17) #[true, true, true, true, true, true, true, true, true, false] (any_of HT_.out (by kernel_rfl)) ?_
      refine puS (i := 9) (N := some 23) #[true, true, true, true, true, true, true, true, true, true] (any_of HT_.out (by kernel_rfl)) ?_
      refine done_ (done_of HT_.out (by kernel_rfl)) ?_
      try go_wp2
      go_ret
      exact ⟨EWW, BL⟩
     ·rw [if_neg c9] at H
      have c9b0 : decide (((rd_T153 t267 x4_1).f3) < (wrap64 (2 * t270))) = false := decide_eq_false c9
      clear c9
      have H' := Aside0.mk H
      clear H
      cases e271
      replace p271 := eq_true p271
      replace q271 := eq_true q271
      refine start_ (n := 10) (S := fun w' => w'.cell? ⟨gb266, 0, none⟩ = some (.int .i64 a0_0) ∧ w'.cell? ⟨gb266, 1, none⟩ = some (.int .i64 a0_1) ∧ w'.cell? ⟨gb266, 2, none⟩ = some (.string a0_2) ∧ w'.cell? (ad271.add ((x4_1).toNat * 4)) = some (.int .i64 ((rd_T153 t267 x4_1).f0)) ∧ w'.cell? ⟨(ad271.add ((x4_1).toNat * 4)).block, (ad271.add ((x4_1).toNat * 4)).off + 1, none⟩ = some (.bool ((rd_T153 t267 x4_1).f1)) ∧ w'.cell? ⟨(ad271.add ((x4_1).toNat * 4)).block, (ad271.add ((x4_1).toNat * 4)).off + 2, none⟩ = some (.int .i64 ((rd_T153 t267 x4_1).f2)) ∧ w'.cell? ⟨(ad271.add ((x4_1).toNat * 4)).block, (ad271.add ((x4_1).toNat * 4)).off + 3, none⟩ = some (.int .i64 ((rd_T153 t267 x4_1).f3))) (ds := []) #[false, false, false, false, false, false, false, false, false, false] (by kernel_rfl) rfl rfl ⟨(blk_cell BK266.out 0).trans rfl, (blk_cell BK266.out 1).trans rfl, (blk_cell BK266.out 2).trans rfl, hx271_0, hx271_1, hx271_2, hx271_3⟩ (fun hHeld => ?_); refine with_tabW spec_l10Alone.tab5 spec_l10Alone.bits5 (fun HT_ HW_ => ?_)
      generalize wr.drew = w7001 at HO_3 BK266 HB hx271_0 hx271_1 hx271_2 hx271_3 hHeld ⊢
      refine puS (i := 1) (N := some 15) #[false, true, false, false, false, false, false, false, false, false] (any_of HT_.out (by kernel_rfl)) ?_
      refine puS (i := 4) (N := some 18) #[false, true, false, false, true, false, false, false, false, false] (any_of HT_.out (by kernel_rfl)) ?_
      refine puS (i := 5) (N := some 19) #[false, true, false, false, true, true, false, false, false, false] (any_of HT_.out (by kernel_rfl)) ?_
      refine puS (i := 6) (N := some 20) #[false, true, false, false, true, true, true, false, false, false] (any_of HT_.out (by kernel_rfl)) ?_
      refine puS (i := 7) (N := some 21) #[false, true, false, false, true, true, true, true, false, false] (any_of HT_.out (by kernel_rfl)) ?_
      refine take_ (i := 0) (N := some 14) (v := ?_) (a' := ?_) #[true, true, false, false, true, true, true, true, false, false] rfl rfl (take_ofW HT_.out HW_.out (by kernel_rfl)) (fun _ _ _ h => h) (Or.inl ⟨by rfl, ?_⟩) hHeld ?_ ?_
      rotate_left
      ·rintro w' ⟨s0, s1, s2, s3, s4, s5, s6⟩
       go_simp
       with_reducible rfl
      rotate_left
      ·simp only [Act.put, PT, i64_w, i32_w]
       rfl
      refine take_ (i := 8) (N := some 22) (v := ?_) (a' := ?_) #[true, true, false, false, true, true, true, true, true, false] rfl rfl (take_ofW HT_.out HW_.out (by kernel_rfl)) (fun _ _ _ h => h) (Or.inl ⟨by rfl, ?_⟩) hHeld ?_ ?_
      rotate_left
      ·rintro w' ⟨s0, s1, s2, s3, s4, s5, s6⟩
       go_simp
       with_reducible rfl
      rotate_left
      ·simp only [Act.put, PT, i64_w, i32_w]
       rfl
      refine one_ (i := 2) (N := some 16) #[true, true, true, false, true, true, true, true, true, false] rfl rfl (one_of HT_.out (by kernel_rfl)) (by decide) (fun K hK => ?_)
      refine goes_ Try.func172 (by kernel_rfl) rfl #[.agg #[.int .i64 a0_0, .int .i64 a0_1, .string a0_2], .int .i64 x4_1] (by rfl) rfl rfl (by (try simp only [List.map_toArray, List.map_cons, List.map_nil]); first | done | rfl | (simp only [List.length_drop, List.length_take]; rfl)) ?_
      with_reducible refine (spec_UncheckedIn.calls k1 a0_0 a0_1 a0_2 x4_1 t270 _ A7.out).mono ?_
      rintro e w7002 ⟨rfl, hb⟩
      have HS3_ := (hb.cell (World.block_lt_of_cell? _ _ (hHeld.2.2.2.1))).trans (hHeld.2.2.2.1)
      have HS4_ := (hb.cell (World.block_lt_of_cell? _ _ (hHeld.2.2.2.2.1))).trans (hHeld.2.2.2.2.1)
      have HS5_ := (hb.cell (World.block_lt_of_cell? _ _ (hHeld.2.2.2.2.2.1))).trans (hHeld.2.2.2.2.2.1)
      have HS6_ := (hb.cell (World.block_lt_of_cell? _ _ (hHeld.2.2.2.2.2.2))).trans (hHeld.2.2.2.2.2.2)
      refine ⟨_, rfl, ?_⟩
      have n0_ := RB HO_3 hb
      have n1_ := KB BK266 hb
      have n2_ := BS (w := w) hb
      clear HO_3
      clear BK266
      clear HB
      have HO_3 := n0_
      have BK266 := n1_
      have HB := n2_
      clear n0_ n1_ n2_
      (try clear hb)
      (try clear hb2)
      (try clear hk)
      (try clear hi)
      refine hK.out _ _ ⟨(blk_cell BK266.out 0).trans rfl, (blk_cell BK266.out 1).trans rfl, (blk_cell BK266.out 2).trans rfl, HS3_, HS4_, HS5_, HS6_⟩ (fun hHeld => ?_)
      clear hK K
      refine norm_ (a' := ?_) ?_ ?_
      rotate_left
      ·show Act.put _ (some 16) _ = _
       simp only [Act.put, PT, i64_w, i32_w]
       rfl
      refine puS (i := 3) (N := some 17) #[true, true, true, true, true, true, true, true, true, false] (any_of HT_.out (by kernel_rfl)) ?_
      refine puS (i := 9) (N := some 23) #[true, true, true, true, true, true, true, true, true, true] (any_of HT_.out (by kernel_rfl)) ?_
      refine done_ (done_of HT_.out (by kernel_rfl)) ?_
      try go_wp2
      go_roundg k1
      case measure => have := HK1.out; omega
      case rel => exact ⟨(wrap64 (x4_1 + 1)), EQ, H', ⟨by have := HK1.out; omega⟩, ⟨(RR HO_3)⟩, ⟨BK⟩, ⟨BL⟩⟩
    ·rw [if_neg c8] at H
     exact absurd H (by simp)
   ·rw [if_neg c6] at H
    have c6b0 : decide (x4_1 < (t267.length : Int)) = false := decide_eq_false c6
    clear c6
    have H' := Aside0.mk H
    clear H
    go_wp2
    go_loopg [5] k1 (fun kq v5 w' => ∃ (x5_2 : Int), v5 = .int .i64 x5_2 ∧ Aside0 (spec_l10Alone.l1 kq x5_2 a0_0 a0_1 a0_2 = some r) ∧ Aside0 (kq ≤ k1) ∧ Aside0 (w'.heap[gb266]? = some (.cells #[.int .i64 a0_0, .int .i64 a0_1, .string a0_2] 66 (0, 0))) ∧ Aside0 (Below w.heap.size w w'))
    case atStart => exact ⟨(0), EQ, H', ⟨Nat.le_refl _⟩, ⟨BK⟩, ⟨BL⟩⟩
    case round =>
     clear H'
     try clear c6
     try clear c6b0
     try clear hcz4_0
     try clear hcz4_1
     try clear hcz4_2
     try clear hfz4_0
     try clear hfz4_1
     try clear hfz4_2
     obtain ⟨x5_2, rfl, HA, HK2, BK266, HB⟩ := hrel
     cases gk with
     | zero => exact absurd HA.out (by simp [spec_l10Alone.l1])
     | succ k2 =>
      have H := HA.out
      clear HA
      simp only [spec_l10Alone.l1] at H
      obtain ⟨hcz7001_0, hcz7001_1, hcz7001_2, hfz7001_0, hfz7001_1, hfz7001_2⟩ := cz3 BK266.out
      by_cases c17 : x5_2 < (a0_2.size : Int)
      ·rw [if_pos c17] at H
       have c17b0 : decide (x5_2 < (a0_2.size : Int)) = true := decide_eq_true c17
       clear c17
       obtain ⟨t272, A18, H⟩ := be H
       replace H := Aside0.mk H
       go_wp2_with (first | ((with_reducible refine gate_callee (f := 173) rfl ?_); refine goesS (some 33) Try.func173 #[.agg #[.int .i64 a0_0, .int .i64 a0_1, .string a0_2], .int .i64 x5_2] ?_; (with_reducible refine (spec_IsWhite.calls k2 a0_0 a0_1 a0_2 x5_2 _ _ A18.out).mono ?_); rintro e w7002 ⟨rfl, hb⟩; refine ⟨_, rfl, ?_⟩; replace BK266 := KB BK266 hb; replace HB := BS (w := w) hb; (try clear hb); obtain ⟨hcz7003_0, hcz7003_1, hcz7003_2, hfz7003_0, hfz7003_1, hfz7003_2⟩ := cz3 BK266.out; refine stop_ ?_))
       refine Hide.mk ?_
       replace H := H.out
       by_cases c19 : t272 = true
       ·subst c19
        rw [if_pos rfl] at H
        obtain ⟨t273, A20, H⟩ := be H
        replace H := Aside0.mk H
        go_wp2_with (first | (go_at_call 174; (with_reducible refine (spec_SlotsAt.calls k2 a0_0 a0_1 a0_2 x5_2 t273 _ A20.out).mono ?_); rintro e w7004 ⟨v274, rfl, ho0, hb⟩; have n0_ := Aside0.mk (Kd.R_lower ho0 (below_size BL)); replace BK266 := KB BK266 hb; replace HB := BS (w := w) hb; have HO275 := n0_; clear n0_; (try clear hb); (try clear ho0); obtain ⟨Ao7005, co7005, eo7005⟩ := Kd.R_slice HO275.out; subst eo7005; refine stop_ ?_))
        refine Hide.mk ?_
        replace H := H.out
        by_cases c21 : (t273.length : Int) = 0
        ·rw [if_pos c21] at H
         have c21b0 : ((t273.length : Int) == 0) = true := beq_iff_eq.mpr c21
         have c21b1 : ((t273.length : Int) != 0) = false := bne_eq_false_iff_eq.mpr c21
         clear c21
         obtain rfl := Option.some.inj H
         try go_wp2
         go_ret
         exact ⟨EWW, BL⟩
        ·rw [if_neg c21] at H
         have c21b0 : ((t273.length : Int) == 0) = false := beq_eq_false_iff_ne.mpr c21
         have c21b1 : ((t273.length : Int) != 0) = true := bne_iff_ne.mpr c21
         have c21b2 : ¬ (t273 = []) := fun h_ => c21 (by rw [h_]; rfl)
         have H' := Aside0.mk H
         clear H
         try go_wp2
         go_roundg k2
         case measure => have := HK1.out; have := HK2.out; omega
         case rel => exact ⟨(wrap64 (x5_2 + 1)), EQ, H', ⟨by have := HK1.out; have := HK2.out; omega⟩, ⟨BK⟩, ⟨BL⟩⟩
       ·replace c19 := Bool.eq_false_iff.mpr c19
        subst c19
        rw [if_neg Bool.false_ne_true] at H
        have H' := Aside0.mk H
        clear H
        try go_wp2
        go_roundg k2
        case measure => have := HK1.out; have := HK2.out; omega
        case rel => exact ⟨(wrap64 (x5_2 + 1)), EQ, H', ⟨by have := HK1.out; have := HK2.out; omega⟩, ⟨BK⟩, ⟨BL⟩⟩
      ·rw [if_neg c17] at H
       have c17b0 : decide (x5_2 < (a0_2.size : Int)) = false := decide_eq_false c17
       clear c17
       obtain rfl := Option.some.inj H
       go_wp2
       go_ret
       exact ⟨EWW, BL⟩
def spec_FormOf.f (k : Nat) (a0_0 : Int) (a0_1 : Int) (a0_2 : ByteArray) : Option (Int) := (spec_IsGrid.f k a0_0 a0_1 a0_2).bind fun t277 => (if t277 = true then ((spec_IsSymmetric.f k a0_0 a0_1 a0_2).bind fun t278 => (if t278 = true then ((spec_IsConnected.f k a0_0 a0_1 a0_2).bind fun t279 => (if t279 = true then ((spec_l10Short.f k a0_0 a0_1 a0_2).bind fun t280 => (if t280 = true then (some 4) else ((spec_l10Alone.f k a0_0 a0_1 a0_2).bind fun t281 => (if t281 = true then (some 5) else (some 0))))) else (some 3))) else (some 2))) else (some 1))
set_option maxHeartbeats 8000000 in
set_option maxRecDepth 100000 in
theorem spec_FormOf.calls (k : Nat) (a0_0 : Int) (a0_1 : Int) (a0_2 : ByteArray) (r : Int) (w : World) (h : spec_FormOf.f k a0_0 a0_1 a0_2 = some r) :
  Calls Try.prog 85 #[.agg #[.int .i64 a0_0, .int .i64 a0_1, .string a0_2]] w fun e w' => e = .returned (.int .i64 r) ∧ Below w.heap.size w w' := by
 have hu66 := Try.underlying66
 have HB := Aside0.mk (Below.refl w.heap.size w)
 have H : ((spec_IsGrid.f k a0_0 a0_1 a0_2).bind fun t277 => (if t277 = true then ((spec_IsSymmetric.f k a0_0 a0_1 a0_2).bind fun t278 => (if t278 = true then ((spec_IsConnected.f k a0_0 a0_1 a0_2).bind fun t279 => (if t279 = true then ((spec_l10Short.f k a0_0 a0_1 a0_2).bind fun t280 => (if t280 = true then (some 4) else ((spec_l10Alone.f k a0_0 a0_1 a0_2).bind fun t281 => (if t281 = true then (some 5) else (some 0))))) else (some 3))) else (some 2))) else (some 1))) = some r := h
 clear h
 obtain ⟨t277, A2, H⟩ := be H
 replace H := Aside0.mk H
 go_enter Try.func85, Try.ntmps85
 go_wp2_with (first | ((with_reducible refine gate_dst (N := 1) rfl ?_); refine box_ev (N := 1) (cs := #[.int .i64 a0_0, .int .i64 a0_1, .string a0_2]) (t := 66) ?_; intro gb276 hg w9000 hbox hb; have n0_ := BS (w := w) hb; have n1_ := Aside0.mk (hbox); have n2_ := SZ (w := w) hg; have n3_ := SZ (w := w) hg; clear HB; have HB := n0_; have BK276 := n1_; have GW276 := n2_; have GE276 := n3_; clear n0_ n1_ n2_ n3_; clear hb hbox hg; obtain ⟨hcz9001_0, hcz9001_1, hcz9001_2, hfz9001_0, hfz9001_1, hfz9001_2⟩ := cz3 BK276.out) | ((with_reducible refine gate_callee (f := 131) rfl ?_); refine goesS (some 5) Try.func131 #[.agg #[.int .i64 a0_0, .int .i64 a0_1, .string a0_2]] ?_; (with_reducible refine (spec_IsGrid.calls k a0_0 a0_1 a0_2 _ _ A2.out).mono ?_); rintro e w9002 ⟨rfl, hb⟩; refine ⟨_, rfl, ?_⟩; replace BK276 := KB BK276 hb; replace HB := BS (w := w) hb; (try clear hb); obtain ⟨hcz9003_0, hcz9003_1, hcz9003_2, hfz9003_0, hfz9003_1, hfz9003_2⟩ := cz3 BK276.out; refine stop_ ?_))
 refine Hide.mk ?_
 replace H := H.out
 by_cases c3 : t277 = true
 ·subst c3
  rw [if_pos rfl] at H
  obtain ⟨t278, A4, H⟩ := be H
  replace H := Aside0.mk H
  go_wp2_with (first | ((with_reducible refine gate_callee (f := 133) rfl ?_); refine goesS (some 9) Try.func133 #[.agg #[.int .i64 a0_0, .int .i64 a0_1, .string a0_2]] ?_; (with_reducible refine (spec_IsSymmetric.calls k a0_0 a0_1 a0_2 _ _ A4.out).mono ?_); rintro e w9004 ⟨rfl, hb⟩; refine ⟨_, rfl, ?_⟩; replace BK276 := KB BK276 hb; replace HB := BS (w := w) hb; (try clear hb); obtain ⟨hcz9005_0, hcz9005_1, hcz9005_2, hfz9005_0, hfz9005_1, hfz9005_2⟩ := cz3 BK276.out; refine stop_ ?_))
  refine Hide.mk ?_
  replace H := H.out
  by_cases c5 : t278 = true
  ·subst c5
   rw [if_pos rfl] at H
   obtain ⟨t279, A6, H⟩ := be H
   replace H := Aside0.mk H
   go_wp2_with (first | ((with_reducible refine gate_callee (f := 134) rfl ?_); refine goesS (some 13) Try.func134 #[.agg #[.int .i64 a0_0, .int .i64 a0_1, .string a0_2]] ?_; (with_reducible refine (spec_IsConnected.calls k a0_0 a0_1 a0_2 _ _ A6.out).mono ?_); rintro e w9006 ⟨rfl, hb⟩; refine ⟨_, rfl, ?_⟩; replace BK276 := KB BK276 hb; replace HB := BS (w := w) hb; (try clear hb); obtain ⟨hcz9007_0, hcz9007_1, hcz9007_2, hfz9007_0, hfz9007_1, hfz9007_2⟩ := cz3 BK276.out; refine stop_ ?_))
   refine Hide.mk ?_
   replace H := H.out
   by_cases c7 : t279 = true
   ·subst c7
    rw [if_pos rfl] at H
    obtain ⟨t280, A8, H⟩ := be H
    replace H := Aside0.mk H
    go_wp2_with (first | ((with_reducible refine gate_callee (f := 135) rfl ?_); refine goesS (some 17) Try.func135 #[.agg #[.int .i64 a0_0, .int .i64 a0_1, .string a0_2]] ?_; (with_reducible refine (spec_l10Short.calls k a0_0 a0_1 a0_2 _ _ A8.out).mono ?_); rintro e w9008 ⟨rfl, hb⟩; refine ⟨_, rfl, ?_⟩; replace BK276 := KB BK276 hb; replace HB := BS (w := w) hb; (try clear hb); obtain ⟨hcz9009_0, hcz9009_1, hcz9009_2, hfz9009_0, hfz9009_1, hfz9009_2⟩ := cz3 BK276.out; refine stop_ ?_))
    refine Hide.mk ?_
    replace H := H.out
    by_cases c9 : t280 = true
    ·subst c9
     rw [if_pos rfl] at H
     obtain rfl := Option.some.inj H
     try go_wp2
     go_ret
     exact ⟨EWW, BL⟩
    ·replace c9 := Bool.eq_false_iff.mpr c9
     subst c9
     rw [if_neg Bool.false_ne_true] at H
     obtain ⟨t281, A19, H⟩ := be H
     replace H := Aside0.mk H
     go_wp2_with (first | ((with_reducible refine gate_callee (f := 136) rfl ?_); refine goesS (some 20) Try.func136 #[.agg #[.int .i64 a0_0, .int .i64 a0_1, .string a0_2]] ?_; (with_reducible refine (spec_l10Alone.calls k a0_0 a0_1 a0_2 _ _ A19.out).mono ?_); rintro e w9010 ⟨rfl, hb⟩; refine ⟨_, rfl, ?_⟩; replace BK276 := KB BK276 hb; replace HB := BS (w := w) hb; (try clear hb); refine stop_ ?_))
     refine Hide.mk ?_
     replace H := H.out
     by_cases c20 : t281 = true
     ·subst c20
      rw [if_pos rfl] at H
      obtain rfl := Option.some.inj H
      try go_wp2
      go_ret
      exact ⟨EWW, BL⟩
     ·replace c20 := Bool.eq_false_iff.mpr c20
      subst c20
      rw [if_neg Bool.false_ne_true] at H
      obtain rfl := Option.some.inj H
      try go_wp2
      go_ret
      exact ⟨EWW, BL⟩
   ·replace c7 := Bool.eq_false_iff.mpr c7
    subst c7
    rw [if_neg Bool.false_ne_true] at H
    obtain rfl := Option.some.inj H
    try go_wp2
    go_ret
    exact ⟨EWW, BL⟩
  ·replace c5 := Bool.eq_false_iff.mpr c5
   subst c5
   rw [if_neg Bool.false_ne_true] at H
   obtain rfl := Option.some.inj H
   try go_wp2
   go_ret
   exact ⟨EWW, BL⟩
 ·replace c3 := Bool.eq_false_iff.mpr c3
  subst c3
  rw [if_neg Bool.false_ne_true] at H
  obtain rfl := Option.some.inj H
  try go_wp2
  go_ret
  exact ⟨EWW, BL⟩
def spec_IsPuzzle.l0 : Nat → Int → Int → Int → ByteArray → List (S116) → List Int → Int → Option (Bool)
 | 0, _, _, _, _, _, _, _ => none
 | k + 1, x3, x283000, x283001, x283002, x283003, x283004, x283005 => if x3 < (x283003.length : Int) then (if 0 ≤ x3 then ((spec_IsClue.f k ((rd_T116 x283003 x3).f0) ((rd_T116 x283003 x3).f1)).bind fun t284 => (if t284 = true then (spec_IsPuzzle.l0 k (wrap64 (x3 + 1)) x283000 x283001 x283002 x283003 x283004 x283005) else (some false))) else (none)) else ((spec_SlotsOf.f k x283000 x283001 x283002).bind fun t285 => ((spec_FormOf.f k x283000 x283001 x283002).bind fun t288 => (if t288 = 0 then (if (x283003.length : Int) = (t285.length : Int) then (if (x283004.length : Int) = (t285.length : Int) then ((spec_l1In.f x283005 1 9999).bind fun t289 => (some t289)) else (some false)) else (some false)) else (some false))))
def spec_IsPuzzle.f (k : Nat) (a0_0 : Int) (a0_1 : Int) (a0_2 : ByteArray) (l0_3 : List (S116)) (l0_4 : List Int) (a0_5 : Int) : Option (Bool) := spec_IsPuzzle.l0 k 0 a0_0 a0_1 a0_2 l0_3 l0_4 a0_5
set_option maxHeartbeats 8000000 in
set_option maxRecDepth 100000 in
theorem spec_IsPuzzle.calls (k : Nat) (a0_0 : Int) (a0_1 : Int) (a0_2 : ByteArray) (A0_3 : Option Addr) (c0_3 : Nat) (l0_3 : List (S116)) (A0_4 : Option Addr) (c0_4 : Nat) (l0_4 : List Int) (a0_5 : Int) (r : Bool) (w : World) (hr0_3 : Kd.C k116 w A0_3 l0_3.length l0_3) (hc0_3 : l0_3.length ≤ c0_3) (hr0_4 : Kd.C (Kd.int .i64) w A0_4 l0_4.length l0_4) (hc0_4 : l0_4.length ≤ c0_4) (h : spec_IsPuzzle.f k a0_0 a0_1 a0_2 l0_3 l0_4 a0_5 = some r) :
  Calls Try.prog 36 #[.agg #[.int .i64 a0_0, .int .i64 a0_1, .string a0_2, .slice A0_3 l0_3.length c0_3, .slice A0_4 l0_4.length c0_4, .int .i64 a0_5]] w fun e w' => e = .returned (.bool r) ∧ Below w.heap.size w w' := by
 have hu69 := Try.underlying69
 have hu116 := Try.underlying116
 have hu66 := Try.underlying66
 have HR0_3 := Aside0.mk hr0_3
 have HC0_3 := Aside0.mk hc0_3
 clear hr0_3 hc0_3
 have HR0_4 := Aside0.mk hr0_4
 have HC0_4 := Aside0.mk hc0_4
 clear hr0_4 hc0_4
 have HB := Aside0.mk (Below.refl w.heap.size w)
 have H : (spec_IsPuzzle.l0 k 0 a0_0 a0_1 a0_2 l0_3 l0_4 a0_5) = some r := h
 clear h
 have H' := Aside0.mk H
 clear H
 go_enter Try.func36, Try.ntmps36
 go_wp2_with (first | ((with_reducible refine gate_dst (N := 1) rfl ?_); (try (refine gate_guard (by rfl) ?_; dsimp only)); refine box_ev (N := 1) (cs := #[.int .i64 a0_0, .int .i64 a0_1, .string a0_2, .slice A0_3 l0_3.length c0_3, .slice A0_4 l0_4.length c0_4, .int .i64 a0_5]) (t := 69) ?_; intro gb282 hg w2 hbox hb; have n0_ := BS (w := w) hb; have n1_ := Aside0.mk (hbox); have n2_ := SZ (w := w) hg; have n3_ := SZ (w := w) hg; clear HB; have HB := n0_; have BK282 := n1_; have GW282 := n2_; have GE282 := n3_; clear n0_ n1_ n2_ n3_; clear hb hbox hg))
 go_loopg [3] k (fun kq v3 w' => ∃ (x3_1 : Int), v3 = .int .i64 x3_1 ∧ Aside0 (spec_IsPuzzle.l0 kq x3_1 a0_0 a0_1 a0_2 l0_3 l0_4 a0_5 = some r) ∧ Aside0 (kq ≤ k) ∧ Aside0 (w'.heap[gb282]? = some (.cells #[.int .i64 a0_0, .int .i64 a0_1, .string a0_2, (.slice A0_3 l0_3.length c0_3), (.slice A0_4 l0_4.length c0_4), .int .i64 a0_5] 69 (0, 0))) ∧ Aside0 (Below w.heap.size w w'))
 case atStart => exact ⟨(0), EQ, H', ⟨Nat.le_refl _⟩, ⟨BK⟩, ⟨BL⟩⟩
 case round =>
  clear H'
  obtain ⟨x3_1, rfl, HA, HK1, BK282, HB⟩ := hrel
  cases gk with
  | zero => exact absurd HA.out (by simp [spec_IsPuzzle.l0])
  | succ k1 =>
   have H := HA.out
   clear HA
   simp only [spec_IsPuzzle.l0] at H
   obtain ⟨hcz7000_0, hcz7000_1, hcz7000_2, hcz7000_3, hcz7000_4, hcz7000_5, hfz7000_0, hfz7000_1, hfz7000_2, hfz7000_3, hfz7000_4, hfz7000_5⟩ := cz6 BK282.out
   by_cases c3 : x3_1 < (l0_3.length : Int)
   ·rw [if_pos c3] at H
    have c3b0 : decide (x3_1 < (l0_3.length : Int)) = true := decide_eq_true c3
    clear c3
    by_cases c4 : 0 ≤ x3_1
    ·rw [if_pos c4] at H
     have c4b0 : decide (0 ≤ x3_1) = true := decide_eq_true c4
     clear c4
     obtain ⟨t284, A5, H⟩ := be H
     have p283 : 0 ≤ (x3_1 : Int) := OD
     have q283 : x3_1 < (l0_3.length : Int) := OD
     obtain ⟨ad283, A283_1, c283_1, e283, hx283_0, hx283_1, hl283_1, hi283_1⟩ := at_T116 HR0_3.out x3_1 p283 q283
     cases e283
     try replace hx283_0 := (HB.out.cell (World.block_lt_of_cell? w _ hx283_0)).trans hx283_0
     try replace hx283_1 := (HB.out.cell (World.block_lt_of_cell? w _ hx283_1)).trans hx283_1
     have HR283_1 := Aside0.mk hi283_1
     have HC283_1 := Aside0.mk hl283_1
     clear hi283_1 hl283_1
     replace p283 := eq_true p283
     replace q283 := eq_true q283
     replace H := Aside0.mk H
     go_wp2_with (first | ((with_reducible refine gate_callee (f := 83) rfl ?_); refine goesS (some 17) Try.func83 #[.agg #[.int .i64 ((rd_T116 l0_3 x3_1).f0), .slice A283_1 ((rd_T116 l0_3 x3_1).f1).length c283_1]] ?_; (with_reducible refine (spec_IsClue.calls k1 ((rd_T116 l0_3 x3_1).f0) _ _ ((rd_T116 l0_3 x3_1).f1) _ _ ?side1 ?side2 A5.out).mono ?_); (case side1 => exact CB HR283_1); (case side2 => exact HC283_1.out); rintro e w7001 ⟨rfl, hb⟩; refine ⟨_, rfl, ?_⟩; replace BK282 := KB BK282 hb; replace HB := BS (w := w) hb; (try clear hb); refine stop_ ?_))
     refine Hide.mk ?_
     replace H := H.out
     by_cases c6 : t284 = true
     ·subst c6
      rw [if_pos rfl] at H
      have H' := Aside0.mk H
      clear H
      try go_wp2
      go_roundg k1
      case measure => have := HK1.out; omega
      case rel => exact ⟨(wrap64 (x3_1 + 1)), EQ, H', ⟨by have := HK1.out; omega⟩, ⟨BK⟩, ⟨BL⟩⟩
     ·replace c6 := Bool.eq_false_iff.mpr c6
      subst c6
      rw [if_neg Bool.false_ne_true] at H
      obtain rfl := Option.some.inj H
      try go_wp2
      go_ret
      exact ⟨EWW, BL⟩
    ·rw [if_neg c4] at H
     exact absurd H (by simp)
   ·rw [if_neg c3] at H
    have c3b0 : decide (x3_1 < (l0_3.length : Int)) = false := decide_eq_false c3
    clear c3
    obtain ⟨t285, A11, H⟩ := be H
    obtain ⟨t288, A12, H⟩ := be H
    replace H := Aside0.mk H
    go_wp2_with (first | ((with_reducible refine gate_callee (f := 84) rfl ?_); refine goesS (some 21) Try.func84 #[.agg #[.int .i64 a0_0, .int .i64 a0_1, .string a0_2]] ?_; (with_reducible refine (spec_SlotsOf.calls k1 a0_0 a0_1 a0_2 t285 _ A11.out).mono ?_); rintro e w7001 ⟨v286, rfl, ho0, hb⟩; refine ⟨_, rfl, ?_⟩; have n0_ := Aside0.mk (Kd.R_lower ho0 (below_size BL)); replace BK282 := KB BK282 hb; replace HB := BS (w := w) hb; have HO287 := n0_; clear n0_; (try clear hb); (try clear ho0); obtain ⟨Ao7002, co7002, eo7002⟩ := Kd.R_slice HO287.out; subst eo7002; obtain ⟨hcz7003_0, hcz7003_1, hcz7003_2, hcz7003_3, hcz7003_4, hcz7003_5, hfz7003_0, hfz7003_1, hfz7003_2, hfz7003_3, hfz7003_4, hfz7003_5⟩ := cz6 BK282.out) | ((with_reducible refine gate_callee (f := 85) rfl ?_); refine goesS (some 25) Try.func85 #[.agg #[.int .i64 a0_0, .int .i64 a0_1, .string a0_2]] ?_; (with_reducible refine (spec_FormOf.calls k1 a0_0 a0_1 a0_2 t288 _ A12.out).mono ?_); rintro e w7004 ⟨rfl, hb⟩; refine ⟨_, rfl, ?_⟩; replace HO287 := RB HO287 hb; replace BK282 := KB BK282 hb; replace HB := BS (w := w) hb; (try clear hb); obtain ⟨hcz7005_0, hcz7005_1, hcz7005_2, hcz7005_3, hcz7005_4, hcz7005_5, hfz7005_0, hfz7005_1, hfz7005_2, hfz7005_3, hfz7005_4, hfz7005_5⟩ := cz6 BK282.out; refine stop_ ?_))
    refine Hide.mk ?_
    replace H := H.out
    by_cases c13 : t288 = 0
    ·rw [if_pos c13] at H
     have c13b0 : (t288 == 0) = true := beq_iff_eq.mpr c13
     have c13b1 : (t288 != 0) = false := bne_eq_false_iff_eq.mpr c13
     clear c13
     by_cases c14 : (l0_3.length : Int) = (t285.length : Int)
     ·rw [if_pos c14] at H
      have c14b0 : ((l0_3.length : Int) == (t285.length : Int)) = true := beq_iff_eq.mpr c14
      have c14b1 : ((l0_3.length : Int) != (t285.length : Int)) = false := bne_eq_false_iff_eq.mpr c14
      have c14b2 : (l0_3.length == t285.length) = true := by first | simpa using c14 | (simp at c14 ⊢; omega)
      clear c14
      by_cases c15 : (l0_4.length : Int) = (t285.length : Int)
      ·rw [if_pos c15] at H
       have c15b0 : ((l0_4.length : Int) == (t285.length : Int)) = true := beq_iff_eq.mpr c15
       have c15b1 : ((l0_4.length : Int) != (t285.length : Int)) = false := bne_eq_false_iff_eq.mpr c15
       have c15b2 : (l0_4.length == t285.length) = true := by first | simpa using c15 | (simp at c15 ⊢; omega)
       clear c15
       obtain ⟨t289, A16, H⟩ := be H
       obtain rfl := Option.some.inj H
       try go_wp2_with (first | (go_at_call 86; (with_reducible refine (spec_l1In.calls a0_5 1 9999 t289 _ A16.out).mono ?_); rintro e w' ⟨rfl, ⟨nd, rfl⟩⟩))
       go_ret
       exact ⟨EWW, BL⟩
      ·rw [if_neg c15] at H
       have c15b0 : ((l0_4.length : Int) == (t285.length : Int)) = false := beq_eq_false_iff_ne.mpr c15
       have c15b1 : ((l0_4.length : Int) != (t285.length : Int)) = true := bne_iff_ne.mpr c15
       have c15b2 : (l0_4.length == t285.length) = false := by first | simpa using c15 | (simp at c15 ⊢; omega)
       obtain rfl := Option.some.inj H
       try go_wp2
       go_ret
       exact ⟨EWW, BL⟩
     ·rw [if_neg c14] at H
      have c14b0 : ((l0_3.length : Int) == (t285.length : Int)) = false := beq_eq_false_iff_ne.mpr c14
      have c14b1 : ((l0_3.length : Int) != (t285.length : Int)) = true := bne_iff_ne.mpr c14
      have c14b2 : (l0_3.length == t285.length) = false := by first | simpa using c14 | (simp at c14 ⊢; omega)
      obtain rfl := Option.some.inj H
      try go_wp2
      go_ret
      exact ⟨EWW, BL⟩
    ·rw [if_neg c13] at H
     have c13b0 : (t288 == 0) = false := beq_eq_false_iff_ne.mpr c13
     have c13b1 : (t288 != 0) = true := bne_iff_ne.mpr c13
     obtain rfl := Option.some.inj H
     try go_wp2
     go_ret
     exact ⟨EWW, BL⟩
def laws_toGrid.f (a0_0 : Int) (a0_1 : Int) (a0_2 : ByteArray) : Option (Int × Int × ByteArray) := some (a0_0, a0_1, a0_2)
set_option maxHeartbeats 8000000 in
set_option maxRecDepth 100000 in
theorem laws_toGrid.calls (a0_0 : Int) (a0_1 : Int) (a0_2 : ByteArray) (r1 : Int) (r2 : Int) (r3 : ByteArray) (w : World) (h : laws_toGrid.f a0_0 a0_1 a0_2 = some (r1, r2, r3)) :
  Calls Try.prog 87 #[.agg #[.int .i64 a0_0, .int .i64 a0_1, .string a0_2]] w fun e w' => e = .returned (.agg #[.int .i64 r1, .int .i64 r2, .string r3]) ∧ Below w.heap.size w w' := by
 have hu60 := Try.underlying60
 have hu66 := Try.underlying66
 have HB := Aside0.mk (Below.refl w.heap.size w)
 have H : (some (a0_0, a0_1, a0_2)) = some (r1, r2, r3) := h
 clear h
 simp only [Option.some.injEq, Prod.mk.injEq] at H
 obtain ⟨rfl, rfl, rfl⟩ := H
 go_enter Try.func87, Try.ntmps87
 go_wp2_with (first | ((with_reducible refine gate_dst (N := 1) rfl ?_); refine box_ev (N := 1) (cs := #[.int .i64 a0_0, .int .i64 a0_1, .string a0_2]) (t := 60) ?_; intro gb290 hg w2 hbox hb; have n0_ := BS (w := w) hb; have n1_ := Aside0.mk (hbox); have n2_ := SZ (w := w) hg; have n3_ := SZ (w := w) hg; clear HB; have HB := n0_; have BK290 := n1_; have GW290 := n2_; have GE290 := n3_; clear n0_ n1_ n2_ n3_; clear hb hbox hg) | ((with_reducible refine gate_dst (N := 2) rfl ?_); refine box_ev (N := 2) (cs := #[.int .i64 0, .int .i64 0, .string (⟨#[]⟩ : ByteArray)]) (t := 66) ?_; intro gb291 hg w3 hbox hb; have n0_ := KB BK290 hb; have n1_ := BS (w := w) hb; have n2_ := Aside0.mk (hbox); have n3_ := SZ (w := w) hg; have n4_ := SZ (w := w) hg; have n5_ := NL BK290 hg; have n6_ := NG BK290 hg; clear BK290 HB; have BK290 := n0_; have HB := n1_; have BK291 := n2_; have GW291 := n3_; have GE291 := n4_; have NB290_291 := n5_; have NB291_290 := n6_; clear n0_ n1_ n2_ n3_ n4_ n5_ n6_; clear hb hbox hg) | ((with_reducible refine gate_dst (N := 3) rfl ?_); refine box_ev (N := 3) (cs := #[.int .i64 0, .int .i64 0, .string (⟨#[]⟩ : ByteArray)]) (t := 66) ?_; intro gb292 hg w4 hbox hb; have n0_ := KB BK290 hb; have n1_ := KB BK291 hb; have n2_ := BS (w := w) hb; have n3_ := Aside0.mk (hbox); have n4_ := SZ (w := w) hg; have n5_ := SZ (w := w) hg; have n6_ := NL BK290 hg; have n7_ := NG BK290 hg; have n8_ := NL BK291 hg; have n9_ := NG BK291 hg; clear BK290 BK291 HB; have BK290 := n0_; have BK291 := n1_; have HB := n2_; have BK292 := n3_; have GW292 := n4_; have GE292 := n5_; have NB290_292 := n6_; have NB292_290 := n7_; have NB291_292 := n8_; have NB292_291 := n9_; clear n0_ n1_ n2_ n3_ n4_ n5_ n6_ n7_ n8_ n9_; clear hb hbox hg; have hnb5 := NB290_291.out; have hnc5 := NB291_290.out; have hnb6 := NB290_292.out; have hnc6 := NB292_290.out; obtain ⟨hcz7_0, hcz7_1, hcz7_2, hfz7_0, hfz7_1, hfz7_2⟩ := cz3 BK290.out; have hnb8 := NB292_291.out; have hnc8 := NB291_292.out; obtain ⟨hcz9_0, hcz9_1, hcz9_2, hfz9_0, hfz9_1, hfz9_2⟩ := cz3 BK292.out; obtain ⟨hcz10_0, hcz10_1, hcz10_2, hfz10_0, hfz10_1, hfz10_2⟩ := cz3 BK291.out))
 refine bodyPost_ret (results_cell_row rfl _ _ gb291 66 #[.int .i64 a0_0, .int .i64 a0_1, .string a0_2] (0, 0) _ rfl (by (with_reducible repeat (first | refine blk_drewN ?_ _ | refine blk_drew ?_ | refine blk_alloc ?_ _)); refine blk_put (cs := #[.int .i64 a0_0, .int .i64 a0_1, .string (⟨#[]⟩ : ByteArray)]) ?_ 2 _ rfl; (with_reducible repeat (first | refine blk_drewN ?_ _ | refine blk_drew ?_ | refine blk_alloc ?_ _)); refine blk_put (cs := #[.int .i64 a0_0, .int .i64 0, .string (⟨#[]⟩ : ByteArray)]) ?_ 1 _ rfl; (with_reducible repeat (first | refine blk_drewN ?_ _ | refine blk_drew ?_ | refine blk_alloc ?_ _)); refine blk_put (cs := #[.int .i64 0, .int .i64 0, .string (⟨#[]⟩ : ByteArray)]) ?_ 0 _ rfl; (with_reducible repeat (first | refine blk_drewN ?_ _ | refine blk_drew ?_ | refine blk_alloc ?_ _)); refine blk_far ?_ NB291_292.out _; (with_reducible repeat (first | refine blk_drewN ?_ _ | refine blk_drew ?_ | refine blk_alloc ?_ _)); refine blk_far ?_ NB291_292.out _; (with_reducible repeat (first | refine blk_drewN ?_ _ | refine blk_drew ?_ | refine blk_alloc ?_ _)); refine blk_far ?_ NB291_292.out _; (with_reducible repeat (first | refine blk_drewN ?_ _ | refine blk_drew ?_ | refine blk_alloc ?_ _)); exact BK291.out) Try.underlying66 rfl (by kernel_rfl)) rfl ?_
 exact ⟨EWW, BL⟩
def laws_toStep.f (a0_0 : Int) (a0_1 : ByteArray) (a0_2 : Int) (a0_3 : Int) : Option (Int × ByteArray × Int × Int) := some (a0_0, a0_1, a0_2, a0_3)
set_option maxHeartbeats 8000000 in
set_option maxRecDepth 100000 in
theorem laws_toStep.calls (a0_0 : Int) (a0_1 : ByteArray) (a0_2 : Int) (a0_3 : Int) (r1 : Int) (r2 : ByteArray) (r3 : Int) (r4 : Int) (w : World) (h : laws_toStep.f a0_0 a0_1 a0_2 a0_3 = some (r1, r2, r3, r4)) :
  Calls Try.prog 198 #[.agg #[.int .i64 a0_0, .string a0_1, .int .i64 a0_2, .int .i64 a0_3]] w fun e w' => e = .returned (.agg #[.int .i64 r1, .string r2, .int .i64 r3, .int .i64 r4]) ∧ Below w.heap.size w w' := by
 have hu186 := Try.underlying186
 have hu110 := Try.underlying110
 have HB := Aside0.mk (Below.refl w.heap.size w)
 have H : (some (a0_0, a0_1, a0_2, a0_3)) = some (r1, r2, r3, r4) := h
 clear h
 simp only [Option.some.injEq, Prod.mk.injEq] at H
 obtain ⟨rfl, rfl, rfl, rfl⟩ := H
 go_enter Try.func198, Try.ntmps198
 go_wp2_with (first | ((with_reducible refine gate_dst (N := 1) rfl ?_); refine box_ev (N := 1) (cs := #[.int .i64 a0_0, .string a0_1, .int .i64 a0_2, .int .i64 a0_3]) (t := 186) ?_; intro gb293 hg w2 hbox hb; have n0_ := BS (w := w) hb; have n1_ := Aside0.mk (hbox); have n2_ := SZ (w := w) hg; have n3_ := SZ (w := w) hg; clear HB; have HB := n0_; have BK293 := n1_; have GW293 := n2_; have GE293 := n3_; clear n0_ n1_ n2_ n3_; clear hb hbox hg) | ((with_reducible refine gate_dst (N := 2) rfl ?_); refine box_ev (N := 2) (cs := #[.int .i64 0, .string (⟨#[]⟩ : ByteArray), .int .i64 0, .int .i64 0]) (t := 110) ?_; intro gb294 hg w3 hbox hb; have n0_ := KB BK293 hb; have n1_ := BS (w := w) hb; have n2_ := Aside0.mk (hbox); have n3_ := SZ (w := w) hg; have n4_ := SZ (w := w) hg; have n5_ := NL BK293 hg; have n6_ := NG BK293 hg; clear BK293 HB; have BK293 := n0_; have HB := n1_; have BK294 := n2_; have GW294 := n3_; have GE294 := n4_; have NB293_294 := n5_; have NB294_293 := n6_; clear n0_ n1_ n2_ n3_ n4_ n5_ n6_; clear hb hbox hg) | ((with_reducible refine gate_dst (N := 3) rfl ?_); refine box_ev (N := 3) (cs := #[.int .i64 0, .string (⟨#[]⟩ : ByteArray), .int .i64 0, .int .i64 0]) (t := 110) ?_; intro gb295 hg w4 hbox hb; have n0_ := KB BK293 hb; have n1_ := KB BK294 hb; have n2_ := BS (w := w) hb; have n3_ := Aside0.mk (hbox); have n4_ := SZ (w := w) hg; have n5_ := SZ (w := w) hg; have n6_ := NL BK293 hg; have n7_ := NG BK293 hg; have n8_ := NL BK294 hg; have n9_ := NG BK294 hg; clear BK293 BK294 HB; have BK293 := n0_; have BK294 := n1_; have HB := n2_; have BK295 := n3_; have GW295 := n4_; have GE295 := n5_; have NB293_295 := n6_; have NB295_293 := n7_; have NB294_295 := n8_; have NB295_294 := n9_; clear n0_ n1_ n2_ n3_ n4_ n5_ n6_ n7_ n8_ n9_; clear hb hbox hg; have hnb5 := NB293_294.out; have hnc5 := NB294_293.out; have hnb6 := NB293_295.out; have hnc6 := NB295_293.out; obtain ⟨hcz7_0, hcz7_1, hcz7_2, hcz7_3, hfz7_0, hfz7_1, hfz7_2, hfz7_3⟩ := cz4 BK293.out; have hnb8 := NB295_294.out; have hnc8 := NB294_295.out; obtain ⟨hcz9_0, hcz9_1, hcz9_2, hcz9_3, hfz9_0, hfz9_1, hfz9_2, hfz9_3⟩ := cz4 BK295.out; obtain ⟨hcz10_0, hcz10_1, hcz10_2, hcz10_3, hfz10_0, hfz10_1, hfz10_2, hfz10_3⟩ := cz4 BK294.out))
 refine bodyPost_ret (results_cell_row rfl _ _ gb294 110 #[.int .i64 a0_0, .string a0_1, .int .i64 a0_2, .int .i64 a0_3] (0, 0) _ rfl (by (with_reducible repeat (first | refine blk_drewN ?_ _ | refine blk_drew ?_ | refine blk_alloc ?_ _)); refine blk_put (cs := #[.int .i64 a0_0, .string a0_1, .int .i64 a0_2, .int .i64 0]) ?_ 3 _ rfl; (with_reducible repeat (first | refine blk_drewN ?_ _ | refine blk_drew ?_ | refine blk_alloc ?_ _)); refine blk_put (cs := #[.int .i64 a0_0, .string a0_1, .int .i64 0, .int .i64 0]) ?_ 2 _ rfl; (with_reducible repeat (first | refine blk_drewN ?_ _ | refine blk_drew ?_ | refine blk_alloc ?_ _)); refine blk_put (cs := #[.int .i64 a0_0, .string (⟨#[]⟩ : ByteArray), .int .i64 0, .int .i64 0]) ?_ 1 _ rfl; (with_reducible repeat (first | refine blk_drewN ?_ _ | refine blk_drew ?_ | refine blk_alloc ?_ _)); refine blk_put (cs := #[.int .i64 0, .string (⟨#[]⟩ : ByteArray), .int .i64 0, .int .i64 0]) ?_ 0 _ rfl; (with_reducible repeat (first | refine blk_drewN ?_ _ | refine blk_drew ?_ | refine blk_alloc ?_ _)); refine blk_far ?_ NB294_295.out _; (with_reducible repeat (first | refine blk_drewN ?_ _ | refine blk_drew ?_ | refine blk_alloc ?_ _)); refine blk_far ?_ NB294_295.out _; (with_reducible repeat (first | refine blk_drewN ?_ _ | refine blk_drew ?_ | refine blk_alloc ?_ _)); refine blk_far ?_ NB294_295.out _; (with_reducible repeat (first | refine blk_drewN ?_ _ | refine blk_drew ?_ | refine blk_alloc ?_ _)); refine blk_far ?_ NB294_295.out _; (with_reducible repeat (first | refine blk_drewN ?_ _ | refine blk_drew ?_ | refine blk_alloc ?_ _)); exact BK294.out) Try.underlying110 rfl (by kernel_rfl)) rfl ?_
 exact ⟨EWW, BL⟩
end Go.Proofs.Ythjcicmmbmagbaa.PFnExactIsPuzzle
