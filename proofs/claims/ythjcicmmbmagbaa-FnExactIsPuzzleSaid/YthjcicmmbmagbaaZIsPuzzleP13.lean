/- Walks of functions: what each computes. -/
import Derived.Test.YthjcicmmbmagbaaZIsPuzzleP0
import Derived.Test.YthjcicmmbmagbaaZIsPuzzleP1
import Derived.Test.YthjcicmmbmagbaaZIsPuzzleP11
import Derived.Test.YthjcicmmbmagbaaZIsPuzzleP12
import Derived.Test.YthjcicmmbmagbaaZIsPuzzleW
import Derived.Test.YthjcicmmbmagbaaZIsPuzzleShelf
import Derived.Test.YthjcicmmbmagbaaZIsPuzzleHandSort
import Derived.Test.YthjcicmmbmagbaaZIsPuzzleHandForm
import Derived.Test.YthjcicmmbmagbaaZIsPuzzleHandAlone
import Derived.Test.YthjcicmmbmagbaaZIsPuzzleHandReach
namespace Go.Proofs.Ythjcicmmbmagbaa.PFnExactIsPuzzle
open Go.RowKit Go.Proofs.YthjcicmmbmagbaaW.PrintWords Go.Proofs.YthjcicmmbmagbaaW.PrintLast Go.Proofs.YthjcicmmbmagbaaW.PrintMore Go.Proofs.Ythjcicmmbmagbaa.Sq
attribute [local go_sem] max2_int min2_int max_two min_two max_three min_three max_four min_four
set_option linter.unusedVariables false
set_option linter.unusedSimpArgs false
attribute [local go_sem high] eqA66
def impl_TurnGrid.f (k : Nat) (a0_0 : Int) (a0_1 : Int) (a0_2 : ByteArray) : Option (Int × Int × ByteArray) := (impl_IsGrid.f k a0_0 a0_1 a0_2).bind fun t356 => (if t356 = true then ((impl_Backwards.f a0_2).bind fun t357 => (some (a0_0, a0_1, t357))) else (some (0, 0, (⟨#[]⟩ : ByteArray))))
set_option maxHeartbeats 8000000 in
set_option maxRecDepth 100000 in
theorem impl_TurnGrid.calls (k : Nat) (a0_0 : Int) (a0_1 : Int) (a0_2 : ByteArray) (r1 : Int) (r2 : Int) (r3 : ByteArray) (w : World) (h : impl_TurnGrid.f k a0_0 a0_1 a0_2 = some (r1, r2, r3)) :
  Calls Try.prog 176 #[.agg #[.int .i64 a0_0, .int .i64 a0_1, .string a0_2]] w fun e w' => e = .returned (.agg #[.int .i64 r1, .int .i64 r2, .string r3]) ∧ Below w.heap.size w w' := by
 have hu66 := Try.underlying66
 have HB := Aside0.mk (Below.refl w.heap.size w)
 have H : ((impl_IsGrid.f k a0_0 a0_1 a0_2).bind fun t356 => (if t356 = true then ((impl_Backwards.f a0_2).bind fun t357 => (some (a0_0, a0_1, t357))) else (some (0, 0, (⟨#[]⟩ : ByteArray))))) = some (r1, r2, r3) := h
 clear h
 obtain ⟨t356, A2, H⟩ := be H
 replace H := Aside0.mk H
 go_enter Try.func176, Try.ntmps176
 go_wp2_with (first | ((with_reducible refine gate_dst (N := 1) rfl ?_); refine box_ev (N := 1) (cs := #[.int .i64 a0_0, .int .i64 a0_1, .string a0_2]) (t := 66) ?_; intro gb354 hg w9000 hbox hb; have n0_ := BS (w := w) hb; have n1_ := Aside0.mk (hbox); have n2_ := SZ (w := w) hg; have n3_ := SZ (w := w) hg; clear HB; have HB := n0_; have BK354 := n1_; have GW354 := n2_; have GE354 := n3_; clear n0_ n1_ n2_ n3_; clear hb hbox hg) | ((with_reducible refine gate_dst (N := 2) rfl ?_); refine box_ev (N := 2) (cs := #[.int .i64 0, .int .i64 0, .string (⟨#[]⟩ : ByteArray)]) (t := 66) ?_; intro gb355 hg w9001 hbox hb; have n0_ := KB BK354 hb; have n1_ := BS (w := w) hb; have n2_ := Aside0.mk (hbox); have n3_ := SZ (w := w) hg; have n4_ := SZ (w := w) hg; have n5_ := NL BK354 hg; have n6_ := NG BK354 hg; clear BK354 HB; have BK354 := n0_; have HB := n1_; have BK355 := n2_; have GW355 := n3_; have GE355 := n4_; have NB354_355 := n5_; have NB355_354 := n6_; clear n0_ n1_ n2_ n3_ n4_ n5_ n6_; clear hb hbox hg; have hnb9002 := NB354_355.out; have hnc9002 := NB355_354.out; obtain ⟨hcz9003_0, hcz9003_1, hcz9003_2, hfz9003_0, hfz9003_1, hfz9003_2⟩ := cz3 BK354.out; refine stop_ ?_))
 refine Hide.mk ?_
 replace H := H.out
 by_cases c3 : t356 = true
 ·subst c3
  rw [if_pos rfl] at H
  obtain ⟨t357, A4, H⟩ := be H
  simp only [Option.some.injEq, Prod.mk.injEq] at H
  obtain ⟨rfl, rfl, rfl⟩ := H
  try go_wp2_with (first | ((with_reducible refine gate_callee (f := 138) rfl ?_); refine goesS (some 4) Try.func138 #[.agg #[.int .i64 a0_0, .int .i64 a0_1, .string a0_2]] ?_; (with_reducible refine (impl_IsGrid.calls k a0_0 a0_1 a0_2 _ _ A2.out).mono ?_); rintro e w9004 ⟨rfl, hb⟩; refine ⟨_, rfl, ?_⟩; replace BK354 := KB BK354 hb; replace BK355 := KB BK355 hb; replace HB := BS (w := w) hb; (try clear hb); obtain ⟨hcz9005_0, hcz9005_1, hcz9005_2, hfz9005_0, hfz9005_1, hfz9005_2⟩ := cz3 BK354.out) | ((with_reducible refine gate_callee (f := 156) rfl ?_); refine goesS (some 9) Try.func156 #[.string a0_2] ?_; (with_reducible refine (impl_Backwards.calls a0_2 t357 _ A4.out).mono ?_); rintro e w9006 ⟨rfl, hb⟩; refine ⟨_, rfl, ?_⟩; replace BK354 := KB BK354 hb; replace BK355 := KB BK355 hb; replace HB := BS (w := w) hb; (try clear hb); obtain ⟨hcz9007_0, hcz9007_1, hcz9007_2, hfz9007_0, hfz9007_1, hfz9007_2⟩ := cz3 BK354.out; obtain ⟨hcz9008_0, hcz9008_1, hcz9008_2, hfz9008_0, hfz9008_1, hfz9008_2⟩ := cz3 BK355.out))
  refine bodyPost_ret (results_cell_row rfl _ _ gb355 66 #[.int .i64 a0_0, .int .i64 a0_1, .string t357] (0, 0) _ rfl (by (with_reducible repeat (first | refine blk_drewN ?_ _ | refine blk_drew ?_ | refine blk_alloc ?_ _)); refine blk_put (cs := #[.int .i64 a0_0, .int .i64 a0_1, .string (⟨#[]⟩ : ByteArray)]) ?_ 2 _ rfl; (with_reducible repeat (first | refine blk_drewN ?_ _ | refine blk_drew ?_ | refine blk_alloc ?_ _)); refine blk_put (cs := #[.int .i64 a0_0, .int .i64 0, .string (⟨#[]⟩ : ByteArray)]) ?_ 1 _ rfl; (with_reducible repeat (first | refine blk_drewN ?_ _ | refine blk_drew ?_ | refine blk_alloc ?_ _)); refine blk_put (cs := #[.int .i64 0, .int .i64 0, .string (⟨#[]⟩ : ByteArray)]) ?_ 0 _ rfl; (with_reducible repeat (first | refine blk_drewN ?_ _ | refine blk_drew ?_ | refine blk_alloc ?_ _)); refine blk_far ?_ NB355_354.out _; (with_reducible repeat (first | refine blk_drewN ?_ _ | refine blk_drew ?_ | refine blk_alloc ?_ _)); exact BK355.out) Try.underlying66 rfl (by kernel_rfl)) rfl ?_
  exact ⟨EWW, BL⟩
 ·replace c3 := Bool.eq_false_iff.mpr c3
  subst c3
  rw [if_neg Bool.false_ne_true] at H
  simp only [Option.some.injEq, Prod.mk.injEq] at H
  obtain ⟨rfl, rfl, rfl⟩ := H
  try go_wp2_with (first | ((with_reducible refine gate_callee (f := 138) rfl ?_); refine goesS (some 4) Try.func138 #[.agg #[.int .i64 a0_0, .int .i64 a0_1, .string a0_2]] ?_; (with_reducible refine (impl_IsGrid.calls k a0_0 a0_1 a0_2 _ _ A2.out).mono ?_); rintro e w9004 ⟨rfl, hb⟩; refine ⟨_, rfl, ?_⟩; replace BK354 := KB BK354 hb; replace BK355 := KB BK355 hb; replace HB := BS (w := w) hb; (try clear hb); obtain ⟨hcz9005_0, hcz9005_1, hcz9005_2, hfz9005_0, hfz9005_1, hfz9005_2⟩ := cz3 BK355.out))
  refine bodyPost_ret (results_cell_row rfl _ _ gb355 66 #[.int .i64 0, .int .i64 0, .string (⟨#[]⟩ : ByteArray)] (0, 0) _ rfl (by (with_reducible repeat (first | refine blk_drewN ?_ _ | refine blk_drew ?_ | refine blk_alloc ?_ _)); refine blk_put (cs := #[.int .i64 0, .int .i64 0, .string (⟨#[]⟩ : ByteArray)]) ?_ 2 _ rfl; (with_reducible repeat (first | refine blk_drewN ?_ _ | refine blk_drew ?_ | refine blk_alloc ?_ _)); refine blk_put (cs := #[.int .i64 0, .int .i64 0, .string (⟨#[]⟩ : ByteArray)]) ?_ 1 _ rfl; (with_reducible repeat (first | refine blk_drewN ?_ _ | refine blk_drew ?_ | refine blk_alloc ?_ _)); refine blk_put (cs := #[.int .i64 0, .int .i64 0, .string (⟨#[]⟩ : ByteArray)]) ?_ 0 _ rfl; (with_reducible repeat (first | refine blk_drewN ?_ _ | refine blk_drew ?_ | refine blk_alloc ?_ _)); exact BK355.out) Try.underlying66 rfl (by kernel_rfl)) rfl ?_
  exact ⟨EWW, BL⟩
def impl_IsSymmetric.f (k : Nat) (a0_0 : Int) (a0_1 : Int) (a0_2 : ByteArray) : Option (Bool) := (impl_IsGrid.f k a0_0 a0_1 a0_2).bind fun t359 => (if t359 = true then ((impl_TurnGrid.f k a0_0 a0_1 a0_2).bind fun bt360 => (some (a0_0 == bt360.1 && (a0_1 == bt360.2.1 && (a0_2.toList == bt360.2.2.toList))))) else (some false))
def impl_IsSymmetric.T1 : Bool × List (List Nat × List Nat) := (true, [([], []), ([0], [0]), ([1, 1], [1]), ([2], [2]), ([2], [2]), ([4, 2, 2], [2, 4]), ([3, 5, 2], [2, 3, 5]), ([2, 6], [2, 6]), ([7, 5, 0, 1, 2, 3, 4, 5, 6, 7], [7])])
def impl_IsSymmetric.B1 : List Nat := [0, 1, 3, 7, 7, 23, 63, 127, 255]
theorem impl_IsSymmetric.tab1 : rtab .any (opsOf Try.f139 1) = impl_IsSymmetric.T1 := by kernel_rfl
theorem impl_IsSymmetric.bits1 : waitsOk impl_IsSymmetric.T1.2 impl_IsSymmetric.B1 = true := by kernel_rfl
set_option maxHeartbeats 8000000 in
set_option maxRecDepth 100000 in
theorem impl_IsSymmetric.calls (k : Nat) (a0_0 : Int) (a0_1 : Int) (a0_2 : ByteArray) (r : Bool) (w : World) (h : impl_IsSymmetric.f k a0_0 a0_1 a0_2 = some r) :
  Calls Try.prog 139 #[.agg #[.int .i64 a0_0, .int .i64 a0_1, .string a0_2]] w fun e w' => e = .returned (.bool r) ∧ Below w.heap.size w w' := by
 have hu66 := Try.underlying66
 have HB := Aside0.mk (Below.refl w.heap.size w)
 have H : ((impl_IsGrid.f k a0_0 a0_1 a0_2).bind fun t359 => (if t359 = true then ((impl_TurnGrid.f k a0_0 a0_1 a0_2).bind fun bt360 => (some (a0_0 == bt360.1 && (a0_1 == bt360.2.1 && (a0_2.toList == bt360.2.2.toList))))) else (some false))) = some r := h
 clear h
 obtain ⟨t359, A2, H⟩ := be H
 replace H := Aside0.mk H
 go_enter Try.func139, Try.ntmps139
 try go_wp2_with (first | ((with_reducible refine gate_dst (N := 1) rfl ?_); refine box_ev (N := 1) (cs := #[.int .i64 a0_0, .int .i64 a0_1, .string a0_2]) (t := 66) ?_; intro gb358 hg w9000 hbox hb; have n0_ := BS (w := w) hb; have n1_ := Aside0.mk (hbox); have n2_ := SZ (w := w) hg; have n3_ := SZ (w := w) hg; clear HB; have HB := n0_; have BK358 := n1_; have GW358 := n2_; have GE358 := n3_; clear n0_ n1_ n2_ n3_; clear hb hbox hg))
 have n0_ := Aside0.mk (blk_drew BK358.out)
 have n1_ := Aside0.mk (below_drew1 HB.out)
 clear BK358
 clear HB
 have BK358 := n0_
 have HB := n1_
 clear n0_ n1_
 refine start_ (n := 9) (S := fun w' => w'.cell? ⟨gb358, 0, none⟩ = some (.int .i64 a0_0) ∧ w'.cell? ⟨gb358, 1, none⟩ = some (.int .i64 a0_1) ∧ w'.cell? ⟨gb358, 2, none⟩ = some (.string a0_2)) (ds := []) #[false, false, false, false, false, false, false, false, false] (by kernel_rfl) rfl rfl ⟨(blk_cell BK358.out 0).trans rfl, (blk_cell BK358.out 1).trans rfl, (blk_cell BK358.out 2).trans rfl⟩ (fun hHeld => ?_); refine with_tabW impl_IsSymmetric.tab1 impl_IsSymmetric.bits1 (fun HT_ HW_ => ?_)
 generalize w9000.drew = w9001 at BK358 HB hHeld ⊢
 refine take_ (i := 0) (N := some 3) (v := ?_) (a' := ?_) #[true, false, false, false, false, false, false, false, false] rfl rfl (take_ofW HT_.out HW_.out (by kernel_rfl)) (fun _ _ _ h => h) (Or.inl ⟨by rfl, ?_⟩) hHeld ?_ ?_
 rotate_left
 ·rintro w' ⟨s0, s1, s2⟩
  go_simp
  with_reducible rfl
 rotate_left
 ·simp only [Act.put, PT, i64_w, i32_w]
  rfl
 refine one_ (i := 1) (N := some 4) #[true, true, false, false, false, false, false, false, false] rfl rfl (one_of HT_.out (by kernel_rfl)) (by decide) (fun K hK => ?_)
 refine goes_ Try.func138 (by kernel_rfl) rfl #[.agg #[.int .i64 a0_0, .int .i64 a0_1, .string a0_2]] (by rfl) rfl rfl (by (try simp only [List.map_toArray, List.map_cons, List.map_nil]); first | done | rfl | (simp only [List.length_drop, List.length_take]; rfl)) ?_
 with_reducible refine (impl_IsGrid.calls k a0_0 a0_1 a0_2 _ _ A2.out).mono ?_
 rintro e w9002 ⟨rfl, hb⟩
 refine ⟨_, rfl, ?_⟩
 have n0_ := KB BK358 hb
 have n1_ := BS (w := w) hb
 clear BK358
 clear HB
 have BK358 := n0_
 have HB := n1_
 clear n0_ n1_
 (try clear hb)
 (try clear hb2)
 (try clear hk)
 (try clear hi)
 refine hK.out _ _ ⟨(blk_cell BK358.out 0).trans rfl, (blk_cell BK358.out 1).trans rfl, (blk_cell BK358.out 2).trans rfl⟩ (fun hHeld => ?_)
 clear hK K
 refine norm_ (a' := ?_) ?_ ?_
 rotate_left
 ·show Act.put _ (some 4) _ = _
  simp only [Act.put, PT, i64_w, i32_w]
  rfl
 replace H := H.out
 by_cases c3 : t359 = true
 ·subst c3
  rw [if_pos rfl] at H
  obtain ⟨⟨t360, t361, t362⟩, A4, H⟩ := be H
  dsimp only at H
  obtain rfl := Option.some.inj H
  refine puS (i := 2) (N := some 5) #[true, true, true, false, false, false, false, false, false] (any_of HT_.out (by kernel_rfl)) ?_
  refine take_ (i := 3) (N := some 6) (v := ?_) (a' := ?_) #[true, true, true, true, false, false, false, false, false] rfl rfl (take_ofW HT_.out HW_.out (by kernel_rfl)) (fun _ _ _ h => h) (Or.inl ⟨by rfl, ?_⟩) hHeld ?_ ?_
  rotate_left
  ·rintro w' ⟨s0, s1, s2⟩
   go_simp
   with_reducible rfl
  rotate_left
  ·simp only [Act.put, PT, i64_w, i32_w]
   rfl
  refine take_ (i := 4) (N := some 7) (v := ?_) (a' := ?_) #[true, true, true, true, true, false, false, false, false] rfl rfl (take_ofW HT_.out HW_.out (by kernel_rfl)) (fun _ _ _ h => h) (Or.inl ⟨by rfl, ?_⟩) hHeld ?_ ?_
  rotate_left
  ·rintro w' ⟨s0, s1, s2⟩
   go_simp
   with_reducible rfl
  rotate_left
  ·simp only [Act.put, PT, i64_w, i32_w]
   rfl
  refine one_ (i := 5) (N := some 8) #[true, true, true, true, true, true, false, false, false] rfl rfl (one_of HT_.out (by kernel_rfl)) (by decide) (fun K hK => ?_)
  refine goes_ Try.func176 (by kernel_rfl) rfl #[.agg #[.int .i64 a0_0, .int .i64 a0_1, .string a0_2]] (by rfl) rfl rfl (by (try simp only [List.map_toArray, List.map_cons, List.map_nil]); first | done | rfl | (simp only [List.length_drop, List.length_take]; rfl)) ?_
  with_reducible refine (impl_TurnGrid.calls k a0_0 a0_1 a0_2 t360 t361 t362 _ A4.out).mono ?_
  rintro e w9003 ⟨rfl, hb⟩
  refine ⟨_, rfl, ?_⟩
  have n0_ := KB BK358 hb
  have n1_ := BS (w := w) hb
  clear BK358
  clear HB
  have BK358 := n0_
  have HB := n1_
  clear n0_ n1_
  (try clear hb)
  (try clear hb2)
  (try clear hk)
  (try clear hi)
  refine hK.out _ _ ⟨(blk_cell BK358.out 0).trans rfl, (blk_cell BK358.out 1).trans rfl, (blk_cell BK358.out 2).trans rfl⟩ (fun hHeld => ?_)
  clear hK K
  refine norm_ (a' := ?_) ?_ ?_
  rotate_left
  ·show Act.put _ (some 8) _ = _
   simp only [Act.put, PT, i64_w, i32_w]
   rfl
  refine puS (i := 6) (N := some 9) #[true, true, true, true, true, true, true, false, false] (any_of HT_.out (by kernel_rfl)) ?_
  refine puS (i := 7) (N := some 10) #[true, true, true, true, true, true, true, true, false] (any_of HT_.out (by kernel_rfl)) ?_
  refine puS (i := 8) (N := some 2) #[true, true, true, true, true, true, true, true, true] (any_of HT_.out (by kernel_rfl)) ?_
  refine done_ (done_of HT_.out (by kernel_rfl)) ?_
  try go_wp2
  go_ret
  exact ⟨EWW, BL⟩
 ·replace c3 := Bool.eq_false_iff.mpr c3
  subst c3
  rw [if_neg Bool.false_ne_true] at H
  obtain rfl := Option.some.inj H
  refine puS (i := 2) (N := some 5) #[true, true, true, false, false, false, false, false, false] (any_of HT_.out (by kernel_rfl)) ?_
  refine puU (i := 3) (N := some 6) #[true, true, true, true, false, false, false, false, false] (any_of HT_.out (by kernel_rfl)) ?_
  refine puU (i := 4) (N := some 7) #[true, true, true, true, true, false, false, false, false] (any_of HT_.out (by kernel_rfl)) ?_
  refine puU (i := 5) (N := some 8) #[true, true, true, true, true, true, false, false, false] (any_of HT_.out (by kernel_rfl)) ?_
  refine puU (i := 6) (N := some 9) #[true, true, true, true, true, true, true, false, false] (any_of HT_.out (by kernel_rfl)) ?_
  refine puS (i := 7) (N := some 10) #[true, true, true, true, true, true, true, true, false] (any_of HT_.out (by kernel_rfl)) ?_
  refine puS (i := 8) (N := some 2) #[true, true, true, true, true, true, true, true, true] (any_of HT_.out (by kernel_rfl)) ?_
  refine done_ (done_of HT_.out (by kernel_rfl)) ?_
  try go_wp2
  go_ret
  exact ⟨EWW, BL⟩
def impl_at.f (a0 : Int) (a1 : Int) : Option (Bool) := if a0 ≥ 0 then (some (decide (a0 < a1))) else (some false)
set_option maxHeartbeats 8000000 in
set_option maxRecDepth 100000 in
theorem impl_at.calls (a0 : Int) (a1 : Int) (r : Bool) (w : World) (h : impl_at.f a0 a1 = some r) :
  Calls Try.prog 109 #[.int .i64 a0, .int .i64 a1] w fun e w' => e = .returned (.bool r) ∧ Drawn0 w w' := by
 have H : (if a0 ≥ 0 then (some (decide (a0 < a1))) else (some false)) = some r := h
 clear h
 replace H := Aside0.mk H
 go_enter Try.func109, Try.ntmps109
 replace H := H.out
 by_cases c3 : a0 ≥ 0
 ·rw [if_pos c3] at H
  have c3b0 : decide (0 ≤ a0) = true := decide_eq_true c3
  clear c3
  obtain rfl := Option.some.inj H
  try go_wp2
  go_ret
  exact ⟨by first | rfl | (simp; done) | (simp [*]; done), by repeat (first | exact Drawn0.refl _ | apply Drawn0.step)⟩
 ·rw [if_neg c3] at H
  have c3b0 : decide (0 ≤ a0) = false := decide_eq_false c3
  clear c3
  obtain rfl := Option.some.inj H
  try go_wp2
  go_ret
  exact ⟨by first | rfl | (simp; done) | (simp [*]; done), by repeat (first | exact Drawn0.refl _ | apply Drawn0.step)⟩
def impl_PartsOf.f (k : Nat) (a0_0 : Int) (a0_1 : Int) (a0_2 : ByteArray) : Option Int := (impl_IsGrid.f k a0_0 a0_1 a0_2).bind fun t => if t = true then HandForm.parts a0_0 a0_1 a0_2 k (Array.replicate a0_2.size false) 0 0 else some 0
theorem impl_PartsOf.grid (k : Nat) (R C : Int) (s : ByteArray) (h : impl_IsGrid.f k R C s = some true) : (2 ≤ R ∧ R ≤ 6) ∧ (2 ≤ C ∧ C ≤ 6) ∧ (s.size : Int) = R * C := by
 unfold impl_IsGrid.f at h
 obtain ⟨t1, h1, h⟩ := Option.bind_eq_some_iff.mp h
 have j : ∀ x, impl_IsGrid.j0 k x R C s = some true → x = false := by
  intro x hx
  cases k with
  | zero => simp [impl_IsGrid.j0] at hx
  | succ k => cases x with
   | false => rfl
   | true => simp [impl_IsGrid.j0] at hx
 cases t1 with
 | false =>
  rw [if_neg (by decide)] at h
  cases (j _ h)
 | true =>
  rw [if_pos rfl] at h
  obtain ⟨t2, h2, h⟩ := Option.bind_eq_some_iff.mp h
  cases t2 with
  | false =>
   rw [if_neg (by decide)] at h
   cases (j _ h)
  | true =>
   rw [if_pos rfl] at h
   have h3 := j _ h
   have ir : ∀ a, impl_InRange.f a 2 6 = some true → 2 ≤ a ∧ a ≤ 6 := by
    intro a ha
    unfold impl_InRange.f at ha
    split at ha
    ·rename_i x
     exact ⟨x, of_decide_eq_true (Option.some.inj ha)⟩
    ·cases ha
   obtain ⟨r0, r1⟩ := ir _ h1
   obtain ⟨c0, c1⟩ := ir _ h2
   have m1 : R * C ≤ 6 * 6 := Int.mul_le_mul (by omega) (by omega) (by omega) (by omega)
   have m2 : 0 ≤ R * C := Int.mul_nonneg (by omega) (by omega)
   have hw : wrap64 (R * C) = R * C := by unfold wrap64; omega
   rw [hw] at h3
   exact ⟨⟨r0, r1⟩, ⟨c0, c1⟩, by simpa using h3⟩
theorem impl_PartsOf.calls (k : Nat) (a0_0 : Int) (a0_1 : Int) (a0_2 : ByteArray) (r : Int) (w : World) (h : impl_PartsOf.f k a0_0 a0_1 a0_2 = some r) :
  Calls Try.prog 177 #[.agg #[.int .i64 a0_0, .int .i64 a0_1, .string a0_2]] w fun e w' => e = .returned (.int .i64 r) ∧ Below w.heap.size w w' := by
 obtain ⟨t, h1, h2⟩ := Option.bind_eq_some_iff.mp h
 exact HandForm.partsOf_u k a0_0 a0_1 a0_2 t r w (fun V => impl_IsGrid.calls k a0_0 a0_1 a0_2 t V h1) (fun e => impl_PartsOf.grid k _ _ _ (e ▸ h1)) h2
def impl_IsConnected.f (k : Nat) (a0_0 : Int) (a0_1 : Int) (a0_2 : ByteArray) : Option (Bool) := (impl_PartsOf.f k a0_0 a0_1 a0_2).bind fun t364 => (some (t364 == 1))
set_option maxHeartbeats 8000000 in
set_option maxRecDepth 100000 in
theorem impl_IsConnected.calls (k : Nat) (a0_0 : Int) (a0_1 : Int) (a0_2 : ByteArray) (r : Bool) (w : World) (h : impl_IsConnected.f k a0_0 a0_1 a0_2 = some r) :
  Calls Try.prog 140 #[.agg #[.int .i64 a0_0, .int .i64 a0_1, .string a0_2]] w fun e w' => e = .returned (.bool r) ∧ Below w.heap.size w w' := by
 have hu66 := Try.underlying66
 have HB := Aside0.mk (Below.refl w.heap.size w)
 have H : ((impl_PartsOf.f k a0_0 a0_1 a0_2).bind fun t364 => (some (t364 == 1))) = some r := h
 clear h
 obtain ⟨t364, A2, H⟩ := be H
 obtain rfl := Option.some.inj H
 go_enter Try.func140, Try.ntmps140
 go_wp2_with (first | ((with_reducible refine gate_dst (N := 1) rfl ?_); refine box_ev (N := 1) (cs := #[.int .i64 a0_0, .int .i64 a0_1, .string a0_2]) (t := 66) ?_; intro gb363 hg w3 hbox hb; have n0_ := BS (w := w) hb; have n1_ := Aside0.mk (hbox); have n2_ := SZ (w := w) hg; have n3_ := SZ (w := w) hg; clear HB; have HB := n0_; have BK363 := n1_; have GW363 := n2_; have GE363 := n3_; clear n0_ n1_ n2_ n3_; clear hb hbox hg; obtain ⟨hcz4_0, hcz4_1, hcz4_2, hfz4_0, hfz4_1, hfz4_2⟩ := cz3 BK363.out) | ((with_reducible refine gate_callee (f := 177) rfl ?_); refine goesS (some 4) Try.func177 #[.agg #[.int .i64 a0_0, .int .i64 a0_1, .string a0_2]] ?_; (with_reducible refine (impl_PartsOf.calls k a0_0 a0_1 a0_2 t364 _ A2.out).mono ?_); rintro e w5 ⟨rfl, hb⟩; refine ⟨_, rfl, ?_⟩; replace BK363 := KB BK363 hb; replace HB := BS (w := w) hb; (try clear hb)))
 go_ret
 exact ⟨EWW, BL⟩
mutual
def impl_cells.j0 : Nat → Int → Int → Bool → Int → Int → Option (List Int)
 | 0, _, _, _, _, _ => none
 | k + 1, x5, x367000, x367001, x367002, x367003 => impl_cells.l0 k x5 ([] : List Int) x367003 0 x367000 x367001 x367002 x367003
def impl_cells.l0 : Nat → Int → List Int → Int → Int → Int → Bool → Int → Int → Option (List Int)
 | 0, _, _, _, _, _, _, _, _ => none
 | k + 1, x5, x6, x13, x14, x367000, x367001, x367002, x367003 => if x14 < x13 then (if x6.length < 17592186044416 then (impl_cells.l0 k x5 (x6 ++ [wrap64 (x367002 + (wrap64 (x14 * x5)))]) x13 (wrap64 (x14 + 1)) x367000 x367001 x367002 x367003) else (none)) else (some x6)
end
def impl_cells.f (k : Nat) (a0_0 : Int) (a0_1 : Int) (a0_2 : ByteArray) (a1_0 : Int) (a1_1 : Bool) (a1_2 : Int) (a1_3 : Int) : Option (List Int) := if a1_1 = true then (impl_cells.j0 k a0_1 a1_0 a1_1 a1_2 a1_3) else (impl_cells.j0 k 1 a1_0 a1_1 a1_2 a1_3)
set_option maxHeartbeats 8000000 in
set_option maxRecDepth 100000 in
theorem impl_cells.calls (k : Nat) (a0_0 : Int) (a0_1 : Int) (a0_2 : ByteArray) (a1_0 : Int) (a1_1 : Bool) (a1_2 : Int) (a1_3 : Int) (r : List Int) (w : World) (h : impl_cells.f k a0_0 a0_1 a0_2 a1_0 a1_1 a1_2 a1_3 = some r) :
  Calls Try.prog 200 #[.agg #[.int .i64 a0_0, .int .i64 a0_1, .string a0_2], .agg #[.int .i64 a1_0, .bool a1_1, .int .i64 a1_2, .int .i64 a1_3]] w fun e w' => ∃ v0_ : Value, e = .returned (v0_) ∧ Kd.R (Kd.int .i64) 3 w' w.heap.size (fun _ => True) v0_ r ∧ Below w.heap.size w w' := by
 have hu66 := Try.underlying66
 have hu153 := Try.underlying153
 have HB := Aside0.mk (Below.refl w.heap.size w)
 have H : (if a1_1 = true then (impl_cells.j0 k a0_1 a1_0 a1_1 a1_2 a1_3) else (impl_cells.j0 k 1 a1_0 a1_1 a1_2 a1_3)) = some r := h
 clear h
 have HC3 := Aside0.mk H
 clear H
 go_enter Try.func200, Try.ntmps200
 go_upto_if 9 with (first | ((with_reducible refine gate_dst (N := 2) rfl ?_); refine box_ev (N := 2) (cs := #[.int .i64 a0_0, .int .i64 a0_1, .string a0_2]) (t := 66) ?_; intro gb365 hg w4 hbox hb; have n0_ := BS (w := w) hb; have n1_ := Aside0.mk (hbox); have n2_ := SZ (w := w) hg; have n3_ := SZ (w := w) hg; clear HB; have HB := n0_; have BK365 := n1_; have GW365 := n2_; have GE365 := n3_; clear n0_ n1_ n2_ n3_; clear hb hbox hg) | ((with_reducible refine gate_dst (N := 3) rfl ?_); refine box_ev (N := 3) (cs := #[.int .i64 a1_0, .bool a1_1, .int .i64 a1_2, .int .i64 a1_3]) (t := 153) ?_; intro gb366 hg w5 hbox hb; have n0_ := KB BK365 hb; have n1_ := BS (w := w) hb; have n2_ := Aside0.mk (hbox); have n3_ := SZ (w := w) hg; have n4_ := SZ (w := w) hg; have n5_ := NL BK365 hg; have n6_ := NG BK365 hg; clear BK365 HB; have BK365 := n0_; have HB := n1_; have BK366 := n2_; have GW366 := n3_; have GE366 := n4_; have NB365_366 := n5_; have NB366_365 := n6_; clear n0_ n1_ n2_ n3_ n4_ n5_ n6_; clear hb hbox hg; have hnb6 := NB366_365.out; have hnc6 := NB365_366.out; obtain ⟨hcz7_0, hcz7_1, hcz7_2, hcz7_3, hfz7_0, hfz7_1, hfz7_2, hfz7_3⟩ := cz4 BK366.out))
 (try simp only [Act.put, List.setIfInBounds_toArray, List.set_cons_zero, List.set_cons_succ])
 go_cut [5] (fun v5 wc => ∃ (kq : Nat) (x5_2 : Int), v5 = .int .i64 x5_2 ∧ Aside0 (impl_cells.j0 kq x5_2 a1_0 a1_1 a1_2 a1_3 = some r) ∧ Aside0 (kq ≤ k) ∧ Aside0 (wc.heap[gb365]? = some (.cells #[.int .i64 a0_0, .int .i64 a0_1, .string a0_2] 66 (0, 0))) ∧ Aside0 (wc.heap[gb366]? = some (.cells #[.int .i64 a1_0, .bool a1_1, .int .i64 a1_2, .int .i64 a1_3] 153 (0, 0))) ∧ Aside0 (Below w.heap.size w wc))
 case first =>
  have H := HC3.out
  clear HC3
  by_cases c8 : a1_1 = true
  ·subst c8
   rw [if_pos rfl] at H
   have H' := Aside0.mk H
   clear H
   have hnb8000 := NB365_366.out
   have hnc8000 := NB366_365.out
   obtain ⟨hcz8001_0, hcz8001_1, hcz8001_2, hfz8001_0, hfz8001_1, hfz8001_2⟩ := cz3 BK365.out
   go_wp2
   go_meet
   case rel => exact ⟨_, (a0_1), EQ, H', ⟨by first | omega | exact Nat.le_refl _⟩, ⟨BK⟩, ⟨BK⟩, ⟨BL⟩⟩
  ·replace c8 := Bool.eq_false_iff.mpr c8
   subst c8
   rw [if_neg Bool.false_ne_true] at H
   have H' := Aside0.mk H
   clear H
   go_wp2
   go_meet
   case rel => exact ⟨_, (1), EQ, H', ⟨by first | omega | exact Nat.le_refl _⟩, ⟨BK⟩, ⟨BK⟩, ⟨BL⟩⟩
 case rest =>
  clear HC3
  try clear hcz7_0
  try clear hcz7_1
  try clear hcz7_2
  try clear hcz7_3
  try clear hfz7_0
  try clear hfz7_1
  try clear hfz7_2
  try clear hfz7_3
  obtain ⟨kq, x5_2, rfl, HA, HJ2, BK365, BK366, HB⟩ := hcut
  cases kq with
  | zero => exact absurd HA.out (by simp [impl_cells.j0])
  | succ kj2 =>
   have H := HA.out
   clear HA
   simp only [impl_cells.j0] at H
   have H' := Aside0.mk H
   clear H
   have hnb11 := NB366_365.out
   have hnc11 := NB365_366.out
   obtain ⟨hcz12_0, hcz12_1, hcz12_2, hcz12_3, hfz12_0, hfz12_1, hfz12_2, hfz12_3⟩ := cz4 BK366.out
   go_wp2
   go_loopg [6, 14] kj2 (fun kq v6 v14 w' => ∃ (x6_2 : List Int) (x14_2 : Int), v14 = .int .i64 x14_2 ∧ Aside0 (impl_cells.l0 kq x5_2 x6_2 a1_3 x14_2 a1_0 a1_1 a1_2 a1_3 = some r) ∧ Aside0 (kq ≤ kj2) ∧ Aside0 (Kd.R (Kd.int .i64) 3 w' w.heap.size (fun _ => True) v6 x6_2) ∧ Aside0 (w'.heap[gb365]? = some (.cells #[.int .i64 a0_0, .int .i64 a0_1, .string a0_2] 66 (0, 0))) ∧ Aside0 (w'.heap[gb366]? = some (.cells #[.int .i64 a1_0, .bool a1_1, .int .i64 a1_2, .int .i64 a1_3] 153 (0, 0))) ∧ Aside0 (Below w.heap.size w w'))
   case atStart => exact ⟨(([] : List Int)), (0), EQ, H', ⟨Nat.le_refl _⟩, ⟨by first | exact Kd.R_nil _ _ _ _ _ | exact Kd.N_nil _ _ _ _ _ | exact Kd.V_nil _ _ _ _ _ | exact Kd.Q_nil _ _ _ _ _ | exact Kd.S_nil _ _ _ _ _⟩, ⟨BK⟩, ⟨BK⟩, ⟨BL⟩⟩
   case round =>
    clear H'
    try clear hcz12_0
    try clear hcz12_1
    try clear hcz12_2
    try clear hcz12_3
    try clear hcz7_0
    try clear hcz7_1
    try clear hcz7_2
    try clear hcz7_3
    try clear hfz12_0
    try clear hfz12_1
    try clear hfz12_2
    try clear hfz12_3
    try clear hfz7_0
    try clear hfz7_1
    try clear hfz7_2
    try clear hfz7_3
    obtain ⟨x6_2, x14_2, rfl, HA, HK2, HO_6, BK365, BK366, HB⟩ := hrel
    cases gk with
    | zero => exact absurd HA.out (by simp [impl_cells.l0])
    | succ k2 =>
     have H := HA.out
     clear HA
     simp only [impl_cells.l0] at H
     by_cases c13 : x14_2 < a1_3
     ·rw [if_pos c13] at H
      have c13b0 : decide (x14_2 < a1_3) = true := decide_eq_true c13
      clear c13
      by_cases c14 : x6_2.length < 17592186044416
      ·rw [if_pos c14] at H
       have LMc14 := Aside0.mk c14
       clear c14
       obtain ⟨y367, hy367⟩ : ∃ y_ : List Int, y_ = (x6_2 ++ [wrap64 (a1_2 + (wrap64 (x14_2 * x5_2)))]) := ⟨_, rfl⟩
       replace H : (impl_cells.l0 k2 x5_2 y367 a1_3 (wrap64 (x14_2 + 1)) a1_0 a1_1 a1_2 a1_3) = some r := by first | (rw [hy367]; with_reducible exact H) | (have H2_ := (Option.bind_some _ _).symm.trans H; rw [hy367]; with_reducible exact H2_) | (have H2_ := (Option.bind_some _ _).symm.trans H; with_reducible exact H2_) | with_reducible exact H | (rw [hy367]; exact H) | exact H
       have Ny367 := Aside0.mk hy367
       clear hy367
       have H' := Aside0.mk H
       clear H
       have hnb5000 := NB366_365.out
       have hnc5000 := NB365_366.out
       obtain ⟨hcz5001_0, hcz5001_1, hcz5001_2, hcz5001_3, hfz5001_0, hfz5001_1, hfz5001_2, hfz5001_3⟩ := cz4 BK366.out
       go_wp2_with (first | ((with_reducible refine gate_builtin (b := .append) (xs := #[.tmp 17, .tmp 24]) rfl ?_); at_builtin; refine Kd.R_append (Kd.int .i64) (w0 := w) w.heap.size rfl (.tmp 17) (.tmp 24) 45 3 (.int .i64 0) 8 rfl Try.underlying45 info3 rfl (by decide) (by omega) u6 x6_2 (wrap64 (a1_2 + (wrap64 (x14_2 * x5_2)))) [.int .i64 (wrap64 (a1_2 + (wrap64 (x14_2 * x5_2))))] (fun _ => True) (fun _ => False) rfl rfl ?aP (fun _ hk => hk.elim) ?aF ?aO ?aB ?aS ?aL ?_; (case aP => exact rfl); (case aB => exact BL); (case aF => exact (fun _ _ => trivial)); (case aO => exact (RR HO_6)); (case aS => exact (below_size BL)); (case aL => have := LMc14.out; omega); intro v368 w5002 ho hb hg hat; rw [← Ny367.out] at ho; have n0_ := Aside0.mk (blk_grown (g := gb365) (o := .cells #[.int .i64 a0_0, .int .i64 a0_1, .string a0_2] 66 (0, 0)) BK hg (Kd.R_ne HO_6.out BK365.out (by decide))); have n1_ := Aside0.mk (blk_grown (g := gb366) (o := .cells #[.int .i64 a1_0, .bool a1_1, .int .i64 a1_2, .int .i64 a1_3] 153 (0, 0)) BK hg (Kd.R_ne HO_6.out BK366.out (by decide))); have n2_ := Aside0.mk (hb); have n3_ := Aside0.mk (ho); clear BK365 BK366 HB HO_6; have BK365 := n0_; have BK366 := n1_; have HB := n2_; have HO369 := n3_; clear n0_ n1_ n2_ n3_; clear ho hb hg hat))
       go_roundg k2
       case measure => have := HJ2.out; have := HK2.out; omega
       case rel => exact ⟨(y367), (wrap64 (x14_2 + 1)), EQ, H', ⟨by have := HJ2.out; have := HK2.out; omega⟩, ⟨(RR HO369)⟩, ⟨BK⟩, ⟨BK⟩, ⟨BL⟩⟩
      ·rw [if_neg c14] at H
       exact absurd H (by simp)
     ·rw [if_neg c13] at H
      have c13b0 : decide (x14_2 < a1_3) = false := decide_eq_false c13
      clear c13
      obtain rfl := Option.some.inj H
      go_wp2
      go_ret
      exact ⟨_, EWW, (RR HO_6), BL⟩
def impl_layout.l0 : Nat → List (List Int) → List (S153) → Int → Int → Int → Int → ByteArray → Option ((List (List Int)))
 | 0, _, _, _, _, _, _, _ => none
 | k + 1, x3, x7, x8, x9, x371000, x371001, x371002 => if x9 < x8 then (if 0 ≤ x9 then (if x9 < (x7.length : Int) then ((impl_cells.f k x371000 x371001 x371002 ((rd_T153 x7 x9).f0) ((rd_T153 x7 x9).f1) ((rd_T153 x7 x9).f2) ((rd_T153 x7 x9).f3)).bind fun t376 => (if x3.length < 5864062014805 then (impl_layout.l0 k (x3 ++ [t376]) x7 x8 (wrap64 (x9 + 1)) x371000 x371001 x371002) else (none))) else (none)) else (none)) else (some x3)
def impl_layout.f (k : Nat) (a0_0 : Int) (a0_1 : Int) (a0_2 : ByteArray) : Option ((List (List Int))) := (impl_SlotsOf.f k a0_0 a0_1 a0_2).bind fun t371 => (impl_layout.l0 k ([] : List (List Int)) t371 (t371.length : Int) 0 a0_0 a0_1 a0_2)
set_option maxHeartbeats 8000000 in
set_option maxRecDepth 100000 in
theorem impl_layout.calls (k : Nat) (a0_0 : Int) (a0_1 : Int) (a0_2 : ByteArray) (r : List (List Int)) (w : World) (h : impl_layout.f k a0_0 a0_1 a0_2 = some r) :
  Calls Try.prog 178 #[.agg #[.int .i64 a0_0, .int .i64 a0_1, .string a0_2]] w fun e w' => ∃ v0_ : Value, e = .returned (v0_) ∧ Kd.S (Kd.slice 3 (Kd.int .i64)) 45 w' w.heap.size (fun _ => True) v0_ r ∧ Below w.heap.size w w' := by
 have hu66 := Try.underlying66
 have hu153 := Try.underlying153
 have HB := Aside0.mk (Below.refl w.heap.size w)
 have H : ((impl_SlotsOf.f k a0_0 a0_1 a0_2).bind fun t371 => (impl_layout.l0 k ([] : List (List Int)) t371 (t371.length : Int) 0 a0_0 a0_1 a0_2)) = some r := h
 clear h
 obtain ⟨t371, A2, H⟩ := be H
 have H' := Aside0.mk H
 clear H
 go_enter Try.func178, Try.ntmps178
 go_wp2_with (first | ((with_reducible refine gate_dst (N := 1) rfl ?_); refine box_ev (N := 1) (cs := #[.int .i64 a0_0, .int .i64 a0_1, .string a0_2]) (t := 66) ?_; intro gb370 hg w3 hbox hb; have n0_ := BS (w := w) hb; have n1_ := Aside0.mk (hbox); have n2_ := SZ (w := w) hg; have n3_ := SZ (w := w) hg; clear HB; have HB := n0_; have BK370 := n1_; have GW370 := n2_; have GE370 := n3_; clear n0_ n1_ n2_ n3_; clear hb hbox hg; obtain ⟨hcz4_0, hcz4_1, hcz4_2, hfz4_0, hfz4_1, hfz4_2⟩ := cz3 BK370.out) | ((with_reducible refine gate_callee (f := 91) rfl ?_); refine goesS (some 7) Try.func91 #[.agg #[.int .i64 a0_0, .int .i64 a0_1, .string a0_2]] ?_; (with_reducible refine (impl_SlotsOf.calls k a0_0 a0_1 a0_2 t371 _ A2.out).mono ?_); rintro e w5 ⟨v372, rfl, ho0, hb⟩; refine ⟨_, rfl, ?_⟩; have n0_ := Aside0.mk (Kd.R_lower ho0 (below_size BL)); replace BK370 := KB BK370 hb; replace HB := BS (w := w) hb; have HO373 := n0_; clear n0_; (try clear hb); (try clear ho0); obtain ⟨Ao6, co6, eo6⟩ := Kd.R_slice HO373.out; subst eo6))
 go_loopg [3, 9] k (fun kq v3 v9 w' => ∃ (x3_1 : List (List Int)) (x9_1 : Int), v9 = .int .i64 x9_1 ∧ Aside0 (impl_layout.l0 kq x3_1 t371 (t371.length : Int) x9_1 a0_0 a0_1 a0_2 = some r) ∧ Aside0 (kq ≤ k) ∧ Aside0 (Kd.S (Kd.slice 3 (Kd.int .i64)) 45 w' w.heap.size (fun _ => True) v3 x3_1) ∧ Aside0 (Kd.R k153 153 w' w.heap.size (fun _ => True) (.slice Ao6 t371.length co6) t371) ∧ Aside0 (w'.heap[gb370]? = some (.cells #[.int .i64 a0_0, .int .i64 a0_1, .string a0_2] 66 (0, 0))) ∧ Aside0 (Below w.heap.size w w'))
 case atStart => exact ⟨(([] : List (List Int))), (0), EQ, H', ⟨Nat.le_refl _⟩, ⟨by first | exact Kd.S_nil _ _ _ _ _ | exact Kd.N_nil _ _ _ _ _ | exact Kd.V_nil _ _ _ _ _ | exact Kd.Q_nil _ _ _ _ _ | exact Kd.R_nil _ _ _ _ _⟩, ⟨(RR HO373)⟩, ⟨BK⟩, ⟨BL⟩⟩
 case round =>
  clear H'
  try clear hcz4_0
  try clear hcz4_1
  try clear hcz4_2
  try clear hfz4_0
  try clear hfz4_1
  try clear hfz4_2
  obtain ⟨x3_1, x9_1, rfl, HA, HK1, HO_3, HO_7, BK370, HB⟩ := hrel
  cases gk with
  | zero => exact absurd HA.out (by simp [impl_layout.l0])
  | succ k1 =>
   have H := HA.out
   clear HA
   simp only [impl_layout.l0] at H
   by_cases c7 : x9_1 < (t371.length : Int)
   ·rw [if_pos c7] at H
    have c7b0 : decide (x9_1 < (t371.length : Int)) = true := decide_eq_true c7
    clear c7
    by_cases c8 : 0 ≤ x9_1
    ·rw [if_pos c8] at H
     have c8b0 : decide (0 ≤ x9_1) = true := decide_eq_true c8
     clear c8
     by_cases c9 : x9_1 < (t371.length : Int)
     ·rw [if_pos c9] at H
      have c9b0 : decide (x9_1 < (t371.length : Int)) = true := decide_eq_true c9
      clear c9
      obtain ⟨t376, A10, H⟩ := be H
      by_cases c11 : x3_1.length < 5864062014805
      ·rw [if_pos c11] at H
       have LMc11 := Aside0.mk c11
       clear c11
       obtain ⟨y379, hy379⟩ : ∃ y_ : List (List Int), y_ = (x3_1 ++ [t376]) := ⟨_, rfl⟩
       replace H : (impl_layout.l0 k1 y379 t371 (t371.length : Int) (wrap64 (x9_1 + 1)) a0_0 a0_1 a0_2) = some r := by first | (rw [hy379]; with_reducible exact H) | (have H2_ := (Option.bind_some _ _).symm.trans H; rw [hy379]; with_reducible exact H2_) | (have H2_ := (Option.bind_some _ _).symm.trans H; with_reducible exact H2_) | with_reducible exact H | (rw [hy379]; exact H) | exact H
       have Ny379 := Aside0.mk hy379
       clear hy379
       have H' := Aside0.mk H
       clear H
       have p374 : 0 ≤ (x9_1 : Int) := OD
       have q374 : x9_1 < (t371.length : Int) := OD
       obtain ⟨ad374, e374, hx374_0, hx374_1, hx374_2, hx374_3⟩ := at_T153 (Kd.R_reads' HO_7.out).2.2 x9_1 p374 q374
       cases e374
       replace p374 := eq_true p374
       replace q374 := eq_true q374
       go_wp2_with (first | ((with_reducible refine gate_dst (N := 5) rfl ?_); refine box_ev (N := 5) (cs := #[.int .i64 0, .bool false, .int .i64 0, .int .i64 0]) (t := 153) ?_; intro gb375 hg w7000 hbox hb; have n0_ := Aside0.mk (Kd.S_below (SR HO_3) hb); have n1_ := Aside0.mk (Kd.R_below (Kd.R_elderB (RR HO_7) gb375 (Nat.le_of_eq hg.symm)) hb); have n2_ := KB BK370 hb; have n3_ := BS (w := w) hb; have n4_ := Aside0.mk (hbox); have n5_ := SZ (w := w) hg; have n6_ := SZ (w := w) hg; have n7_ := NL BK370 hg; have n8_ := NG BK370 hg; clear HO_3 HO_7 BK370 HB; have HO_3 := n0_; have HO_7 := n1_; have BK370 := n2_; have HB := n3_; have BK375 := n4_; have GW375 := n5_; have GE375 := n6_; have NB370_375 := n7_; have NB375_370 := n8_; clear n0_ n1_ n2_ n3_ n4_ n5_ n6_ n7_ n8_; clear hb hbox hg; have hnb7001 := NB375_370.out; have hnc7001 := NB370_375.out; obtain ⟨hcz7002_0, hcz7002_1, hcz7002_2, hcz7002_3, hfz7002_0, hfz7002_1, hfz7002_2, hfz7002_3⟩ := cz4 BK375.out; obtain ⟨hcz7003_0, hcz7003_1, hcz7003_2, hfz7003_0, hfz7003_1, hfz7003_2⟩ := cz3 BK370.out) | ((with_reducible refine gate_callee (f := 200) rfl ?_); refine goesS (some 16) Try.func200 #[.agg #[.int .i64 a0_0, .int .i64 a0_1, .string a0_2], .agg #[.int .i64 ((rd_T153 t371 x9_1).f0), .bool ((rd_T153 t371 x9_1).f1), .int .i64 ((rd_T153 t371 x9_1).f2), .int .i64 ((rd_T153 t371 x9_1).f3)]] ?_; (with_reducible refine (impl_cells.calls k1 a0_0 a0_1 a0_2 ((rd_T153 t371 x9_1).f0) ((rd_T153 t371 x9_1).f1) ((rd_T153 t371 x9_1).f2) ((rd_T153 t371 x9_1).f3) t376 _ A10.out).mono ?_); rintro e w7004 ⟨v377, rfl, ho0, hb⟩; refine ⟨_, rfl, ?_⟩; have n0_ := Aside0.mk (Kd.S_elder' (by (with_reducible repeat (first | apply Kd.S_alloc | apply Kd.S_drewN | apply Kd.S_drew)); exact (Kd.S_mono (Kd.S_far (p := ⟨gb375, 3, none⟩) (Kd.S_far (p := ⟨gb375, 2, none⟩) (Kd.S_far (p := ⟨gb375, 1, none⟩) (Kd.S_far (p := ⟨gb375, 0, none⟩) (Kd.S_types HO_3.out BK375.out (by decide)) (fun _ hk => hk.2) (.int .i64 ((rd_T153 t371 x9_1).f0))) (fun _ hk => hk.2) (.bool ((rd_T153 t371 x9_1).f1))) (fun _ hk => hk.2) (.int .i64 ((rd_T153 t371 x9_1).f2))) (fun _ hk => hk.2) (.int .i64 ((rd_T153 t371 x9_1).f3))) (fun _ h_ => h_.1))) (Kd.R_base ho0) hb); have n1_ := Aside0.mk (Kd.R_below (by (with_reducible repeat (first | apply Kd.R_alloc | apply Kd.R_drewN | apply Kd.R_drew)); exact (Kd.R_mono (Kd.R_far (p := ⟨gb375, 3, none⟩) (Kd.R_far (p := ⟨gb375, 2, none⟩) (Kd.R_far (p := ⟨gb375, 1, none⟩) (Kd.R_far (p := ⟨gb375, 0, none⟩) (Kd.R_mono HO_7.out (fun k_ hk => (⟨hk, hk.2⟩ : _ ∧ k_ ≠ gb375))) (fun _ hk => hk.2) (.int .i64 ((rd_T153 t371 x9_1).f0))) (fun _ hk => hk.2) (.bool ((rd_T153 t371 x9_1).f1))) (fun _ hk => hk.2) (.int .i64 ((rd_T153 t371 x9_1).f2))) (fun _ hk => hk.2) (.int .i64 ((rd_T153 t371 x9_1).f3))) (fun _ h_ => h_.1))) hb); have n2_ := Aside0.mk (Kd.R_lower ho0 (below_size BL)); have n3_ := Aside0.mk (blk_below (g := gb370) (o := .cells #[.int .i64 a0_0, .int .i64 a0_1, .string a0_2] 66 (0, 0)) (by (with_reducible repeat (first | refine blk_drewN ?_ _ | refine blk_drew ?_ | refine blk_alloc ?_ _)); refine blk_far ?_ NB370_375.out _; (with_reducible repeat (first | refine blk_drewN ?_ _ | refine blk_drew ?_ | refine blk_alloc ?_ _)); refine blk_far ?_ NB370_375.out _; (with_reducible repeat (first | refine blk_drewN ?_ _ | refine blk_drew ?_ | refine blk_alloc ?_ _)); refine blk_far ?_ NB370_375.out _; (with_reducible repeat (first | refine blk_drewN ?_ _ | refine blk_drew ?_ | refine blk_alloc ?_ _)); refine blk_far ?_ NB370_375.out _; (with_reducible repeat (first | refine blk_drewN ?_ _ | refine blk_drew ?_ | refine blk_alloc ?_ _)); exact BK370.out) hb); have n4_ := Aside0.mk (blk_below (g := gb375) (o := .cells #[.int .i64 ((rd_T153 t371 x9_1).f0), .bool ((rd_T153 t371 x9_1).f1), .int .i64 ((rd_T153 t371 x9_1).f2), .int .i64 ((rd_T153 t371 x9_1).f3)] 153 (0, 0)) (by (with_reducible repeat (first | refine blk_drewN ?_ _ | refine blk_drew ?_ | refine blk_alloc ?_ _)); refine blk_put (cs := #[.int .i64 ((rd_T153 t371 x9_1).f0), .bool ((rd_T153 t371 x9_1).f1), .int .i64 ((rd_T153 t371 x9_1).f2), .int .i64 0]) ?_ 3 _ rfl; (with_reducible repeat (first | refine blk_drewN ?_ _ | refine blk_drew ?_ | refine blk_alloc ?_ _)); refine blk_put (cs := #[.int .i64 ((rd_T153 t371 x9_1).f0), .bool ((rd_T153 t371 x9_1).f1), .int .i64 0, .int .i64 0]) ?_ 2 _ rfl; (with_reducible repeat (first | refine blk_drewN ?_ _ | refine blk_drew ?_ | refine blk_alloc ?_ _)); refine blk_put (cs := #[.int .i64 ((rd_T153 t371 x9_1).f0), .bool false, .int .i64 0, .int .i64 0]) ?_ 1 _ rfl; (with_reducible repeat (first | refine blk_drewN ?_ _ | refine blk_drew ?_ | refine blk_alloc ?_ _)); refine blk_put (cs := #[.int .i64 0, .bool false, .int .i64 0, .int .i64 0]) ?_ 0 _ rfl; (with_reducible repeat (first | refine blk_drewN ?_ _ | refine blk_drew ?_ | refine blk_alloc ?_ _)); exact BK375.out) hb); replace HB := BS (w := w) hb; clear HO_3 HO_7 BK370 BK375; have HO_3 := n0_; have HO_7 := n1_; have HO378 := n2_; have BK370 := n3_; have BK375 := n4_; clear n0_ n1_ n2_ n3_ n4_; (try clear hb); (try clear hk); (try clear ho0); obtain ⟨Ao7005, co7005, eo7005⟩ := Kd.R_slice HO378.out; subst eo7005) | ((with_reducible refine gate_builtin (b := .append) (xs := #[.tmp 13, .tmp 17]) rfl ?_); at_builtin; refine Kd.S_append (Kd.slice 3 (Kd.int .i64)) (w0 := w) w.heap.size rfl (.tmp 13) (.tmp 17) 173 45 (.slice none 0 0) 24 rfl Try.underlying173 info45 rfl (by decide) (by omega) u3 x3_1 t376 [.slice Ao7005 t376.length co7005] (fun _ => True) (fun k_ => some k_ = (.slice Ao7005 t376.length co7005 : Value).ownBlock) rfl rfl ?aP (fun k_ hk_ => ((Kd.R_mono (ok' := fun k_ => ((fun _ => True)) k_ ∧ some k_ ≠ (u3 : Value).ownBlock) (Kd.R_apart' (HO378.out) (Kd.S_typed HO_3.out) (by decide)) (fun k_ hk => ⟨trivial, hk.2⟩))).1 k_ hk_.symm) ?aF ?aO ?aB ?aS ?aL ?_; (case aP => exact Kd.M_row (Kd.R_mono (Kd.R_tight rfl (Kd.R_mono (ok' := fun k_ => ((fun _ => True)) k_ ∧ some k_ ≠ (u3 : Value).ownBlock) (Kd.R_apart' (HO378.out) (Kd.S_typed HO_3.out) (by decide)) (fun k_ hk => ⟨trivial, hk.2⟩))) (fun _ h_ => h_))); (case aB => exact BL); (case aF => exact (fun _ _ => trivial)); (case aO => exact (by (with_reducible repeat (first | apply Kd.S_alloc | apply Kd.S_drewN | apply Kd.S_drew)); exact Kd.S_mono HO_3.out (fun k_ hk => ⟨trivial, fun e_ => hk.2 e_⟩))); (case aS => exact (below_size BL)); (case aL => have := LMc11.out; omega); intro v380 w7006 ho hb hg hat; rw [← Ny379.out] at ho; have n0_ := Aside0.mk (Kd.R_over' (RR HO_7) (Kd.S_typed (SR HO_3)) (by decide) hg); have n1_ := Aside0.mk (blk_grown (g := gb370) (o := .cells #[.int .i64 a0_0, .int .i64 a0_1, .string a0_2] 66 (0, 0)) BK hg (Kd.S_ne HO_3.out BK370.out (by decide))); have n2_ := Aside0.mk (blk_grown (g := gb375) (o := .cells #[.int .i64 ((rd_T153 t371 x9_1).f0), .bool ((rd_T153 t371 x9_1).f1), .int .i64 ((rd_T153 t371 x9_1).f2), .int .i64 ((rd_T153 t371 x9_1).f3)] 153 (0, 0)) BK hg (Kd.S_ne HO_3.out BK375.out (by decide))); have n3_ := Aside0.mk (hb); have n4_ := Aside0.mk (ho); clear HO_7 BK370 BK375 HB HO_3 HO378; have HO_7 := n0_; have BK370 := n1_; have BK375 := n2_; have HB := n3_; have HO381 := n4_; clear n0_ n1_ n2_ n3_ n4_; clear ho hb hg hat))
       go_roundg k1
       case measure => have := HK1.out; omega
       case rel => exact ⟨(y379), (wrap64 (x9_1 + 1)), EQ, H', ⟨by have := HK1.out; omega⟩, ⟨(SR HO381)⟩, ⟨by (with_reducible repeat (first | apply Kd.R_alloc | apply Kd.R_drewN | apply Kd.R_drew)); exact Kd.R_mono HO_7.out (fun _ hk => trivial)⟩, ⟨BK⟩, ⟨BL⟩⟩
      ·rw [if_neg c11] at H
       exact absurd H (by simp)
     ·rw [if_neg c9] at H
      exact absurd H (by simp)
    ·rw [if_neg c8] at H
     exact absurd H (by simp)
   ·rw [if_neg c7] at H
    have c7b0 : decide (x9_1 < (t371.length : Int)) = false := decide_eq_false c7
    clear c7
    obtain rfl := Option.some.inj H
    go_wp2
    go_ret
    exact ⟨_, EWW, (SR HO_3), BL⟩
def slices_Index_int_int.l0 : Nat → List Int → Int → Int → Int → Option (Int)
 | 0, _, _, _, _ => none
 | k + 1, x0, x1, x7, x8 => if x8 < x7 then (if 0 ≤ x8 then (if x8 < (x0.length : Int) then (if x1 = (rd x0 x8) then (some x8) else (slices_Index_int_int.l0 k x0 x1 x7 (wrap64 (x8 + 1)))) else (none)) else (none)) else (some (-1))
def slices_Index_int_int.f (k : Nat) (l0 : List Int) (a1 : Int) : Option (Int) := slices_Index_int_int.l0 k l0 a1 (l0.length : Int) 0
set_option maxHeartbeats 8000000 in
set_option maxRecDepth 100000 in
theorem slices_Index_int_int.calls (k : Nat) (A0 : Option Addr) (c0 : Nat) (l0 : List Int) (a1 : Int) (r : Int) (w : World) (hr0 : Kd.C (Kd.int .i64) w A0 l0.length l0) (hc0 : l0.length ≤ c0) (h : slices_Index_int_int.f k l0 a1 = some r) :
  Calls Try.prog 215 #[.slice A0 l0.length c0, .int .i64 a1] w fun e w' => e = .returned (.int .i64 r) ∧ Drawn0 w w' := by
 have HR0 := Aside0.mk hr0
 have HC0 := Aside0.mk hc0
 clear hr0 hc0
 have H : (slices_Index_int_int.l0 k l0 a1 (l0.length : Int) 0) = some r := h
 clear h
 have H' := Aside0.mk H
 clear H
 go_enter Try.func215, Try.ntmps215
 go_wp2
 go_loopg [8] k (fun kq v8 w' => ∃ (x8_1 : Int), v8 = .int .i64 x8_1 ∧ Aside0 (slices_Index_int_int.l0 kq l0 a1 (l0.length : Int) x8_1 = some r) ∧ Aside0 (kq ≤ k) ∧ Drawn0 w w')
 case atStart => exact ⟨(0), EQ, H', ⟨Nat.le_refl _⟩, by repeat (first | exact Drawn0.refl _ | apply Drawn0.step)⟩
 case round =>
  clear H'
  obtain ⟨x8_1, rfl, HA, HK1, ⟨m1, rfl⟩⟩ := hrel
  cases gk with
  | zero => exact absurd HA.out (by simp [slices_Index_int_int.l0])
  | succ k1 =>
   have H := HA.out
   clear HA
   simp only [slices_Index_int_int.l0] at H
   by_cases c3 : x8_1 < (l0.length : Int)
   ·rw [if_pos c3] at H
    have c3b0 : decide (x8_1 < (l0.length : Int)) = true := decide_eq_true c3
    clear c3
    by_cases c4 : 0 ≤ x8_1
    ·rw [if_pos c4] at H
     have c4b0 : decide (0 ≤ x8_1) = true := decide_eq_true c4
     clear c4
     by_cases c5 : x8_1 < (l0.length : Int)
     ·rw [if_pos c5] at H
      have c5b0 : decide (x8_1 < (l0.length : Int)) = true := decide_eq_true c5
      clear c5
      have p382 : 0 ≤ (x8_1 : Int) := OD
      have q382 : x8_1 < (l0.length : Int) := OD
      obtain ⟨ad382, e382, hx382_0⟩ := Kd.at_int HR0.out x8_1 p382 q382
      cases e382
      replace p382 := eq_true p382
      replace q382 := eq_true q382
      by_cases c6 : a1 = (rd l0 x8_1)
      ·rw [if_pos c6] at H
       have c6b0 : (a1 == (rd l0 x8_1)) = true := beq_iff_eq.mpr c6
       have c6b1 : (a1 != (rd l0 x8_1)) = false := bne_eq_false_iff_eq.mpr c6
       clear c6
       obtain rfl := Option.some.inj H
       go_wp2
       go_ret
       exact ⟨by first | rfl | (simp; done) | (simp [*]; done), by repeat (first | exact Drawn0.refl _ | apply Drawn0.step)⟩
      ·rw [if_neg c6] at H
       have c6b0 : (a1 == (rd l0 x8_1)) = false := beq_eq_false_iff_ne.mpr c6
       have c6b1 : (a1 != (rd l0 x8_1)) = true := bne_iff_ne.mpr c6
       have H' := Aside0.mk H
       clear H
       go_wp2
       go_roundg k1
       case measure => have := HK1.out; omega
       case rel => exact ⟨(wrap64 (x8_1 + 1)), EQ, H', ⟨by have := HK1.out; omega⟩, by repeat (first | exact Drawn0.refl _ | apply Drawn0.step)⟩
     ·rw [if_neg c5] at H
      exact absurd H (by simp)
    ·rw [if_neg c4] at H
     exact absurd H (by simp)
   ·rw [if_neg c3] at H
    have c3b0 : decide (x8_1 < (l0.length : Int)) = false := decide_eq_false c3
    clear c3
    obtain rfl := Option.some.inj H
    go_wp2
    go_ret
    exact ⟨by first | rfl | (simp; done) | (simp [*]; done), by repeat (first | exact Drawn0.refl _ | apply Drawn0.step)⟩
def slices_Contains_int_int.f (k : Nat) (l0 : List Int) (a1 : Int) : Option (Bool) := (slices_Index_int_int.f k l0 a1).bind fun t383 => (some (decide (t383 ≥ 0)))
set_option maxHeartbeats 8000000 in
set_option maxRecDepth 100000 in
theorem slices_Contains_int_int.calls (k : Nat) (A0 : Option Addr) (c0 : Nat) (l0 : List Int) (a1 : Int) (r : Bool) (w : World) (hr0 : Kd.C (Kd.int .i64) w A0 l0.length l0) (hc0 : l0.length ≤ c0) (h : slices_Contains_int_int.f k l0 a1 = some r) :
  Calls Try.prog 210 #[.slice A0 l0.length c0, .int .i64 a1] w fun e w' => e = .returned (.bool r) ∧ Drawn0 w w' := by
 have HR0 := Aside0.mk hr0
 have HC0 := Aside0.mk hc0
 clear hr0 hc0
 have H : ((slices_Index_int_int.f k l0 a1).bind fun t383 => (some (decide (t383 ≥ 0)))) = some r := h
 clear h
 obtain ⟨t383, A3, H⟩ := be H
 obtain rfl := Option.some.inj H
 go_enter Try.func210, Try.ntmps210
 go_wp2_with (first | ((with_reducible refine gate_callee (f := 215) rfl ?_); refine goesS (some 7) Try.func215 #[.slice A0 l0.length c0, .int .i64 a1] ?_; (with_reducible refine (slices_Index_int_int.calls k _ _ l0 a1 t383 _ ?side1 ?side2 A3.out).mono ?_); (case side1 => repeat (first | exact HR0.out | (with_reducible refine Kd.C_alloc ?_ _) | (with_reducible refine Kd.C_drewN ?_ _) | (with_reducible refine Kd.C_drew ?_))); (case side2 => exact HC0.out); rintro e w' ⟨rfl, ⟨nd, rfl⟩⟩; refine ⟨_, rfl, ?_⟩))
 go_ret
 exact ⟨by first | rfl | (simp; done) | (simp [*]; done), by repeat (first | exact Drawn0.refl _ | apply Drawn0.step)⟩
def impl_SlotsAt.l0 : Nat → Int → List Int → List (List Int) → Int → Int → Option (List Int)
 | 0, _, _, _, _, _ => none
 | k + 1, x1, x5, x9, x10, x11 => if x11 < x10 then (if 0 ≤ x11 then (if x11 < (x9.length : Int) then ((slices_Contains_int_int.f k (rd_L10 x9 x11) x1).bind fun t389 => (if t389 = true then (if x5.length < 17592186044416 then (impl_SlotsAt.l0 k x1 (x5 ++ [x11]) x9 x10 (wrap64 (x11 + 1))) else (none)) else (impl_SlotsAt.l0 k x1 x5 x9 x10 (wrap64 (x11 + 1))))) else (none)) else (none)) else (some x5)
def impl_SlotsAt.f (k : Nat) (a0_0 : Int) (a0_1 : Int) (a0_2 : ByteArray) (a1 : Int) : Option (List Int) := (impl_layout.f k a0_0 a0_1 a0_2).bind fun t385 => (impl_SlotsAt.l0 k a1 ([] : List Int) t385 (t385.length : Int) 0)
set_option maxHeartbeats 8000000 in
set_option maxRecDepth 100000 in
theorem impl_SlotsAt.calls (k : Nat) (a0_0 : Int) (a0_1 : Int) (a0_2 : ByteArray) (a1 : Int) (r : List Int) (w : World) (h : impl_SlotsAt.f k a0_0 a0_1 a0_2 a1 = some r) :
  Calls Try.prog 201 #[.agg #[.int .i64 a0_0, .int .i64 a0_1, .string a0_2], .int .i64 a1] w fun e w' => ∃ v0_ : Value, e = .returned (v0_) ∧ Kd.R (Kd.int .i64) 3 w' w.heap.size (fun _ => True) v0_ r ∧ Below w.heap.size w w' := by
 have hu66 := Try.underlying66
 have HB := Aside0.mk (Below.refl w.heap.size w)
 have H : ((impl_layout.f k a0_0 a0_1 a0_2).bind fun t385 => (impl_SlotsAt.l0 k a1 ([] : List Int) t385 (t385.length : Int) 0)) = some r := h
 clear h
 obtain ⟨t385, A3, H⟩ := be H
 have H' := Aside0.mk H
 clear H
 go_enter Try.func201, Try.ntmps201
 go_wp2_with (first | ((with_reducible refine gate_dst (N := 2) rfl ?_); refine box_ev (N := 2) (cs := #[.int .i64 a0_0, .int .i64 a0_1, .string a0_2]) (t := 66) ?_; intro gb384 hg w4 hbox hb; have n0_ := BS (w := w) hb; have n1_ := Aside0.mk (hbox); have n2_ := SZ (w := w) hg; have n3_ := SZ (w := w) hg; clear HB; have HB := n0_; have BK384 := n1_; have GW384 := n2_; have GE384 := n3_; clear n0_ n1_ n2_ n3_; clear hb hbox hg; obtain ⟨hcz5_0, hcz5_1, hcz5_2, hfz5_0, hfz5_1, hfz5_2⟩ := cz3 BK384.out) | ((with_reducible refine gate_callee (f := 178) rfl ?_); refine goesS (some 9) Try.func178 #[.agg #[.int .i64 a0_0, .int .i64 a0_1, .string a0_2]] ?_; (with_reducible refine (impl_layout.calls k a0_0 a0_1 a0_2 t385 _ A3.out).mono ?_); rintro e w6 ⟨v386, rfl, ho0, hb⟩; refine ⟨_, rfl, ?_⟩; have n0_ := Aside0.mk (Kd.S_lower ho0 (below_size BL)); replace BK384 := KB BK384 hb; replace HB := BS (w := w) hb; have HO387 := n0_; clear n0_; (try clear hb); (try clear ho0); obtain ⟨Ao7, co7, eo7⟩ := Kd.S_slice HO387.out; subst eo7))
 go_loopg [5, 11] k (fun kq v5 v11 w' => ∃ (x5_1 : List Int) (x11_1 : Int), v11 = .int .i64 x11_1 ∧ Aside0 (impl_SlotsAt.l0 kq a1 x5_1 t385 (t385.length : Int) x11_1 = some r) ∧ Aside0 (kq ≤ k) ∧ Aside0 (Kd.R (Kd.int .i64) 3 w' w.heap.size (fun _ => True) v5 x5_1) ∧ Aside0 (Kd.S (Kd.slice 3 (Kd.int .i64)) 45 w' w.heap.size (fun k_ => some k_ ≠ (v5 : Value).ownBlock) (.slice Ao7 t385.length co7) t385) ∧ Aside0 (w'.heap[gb384]? = some (.cells #[.int .i64 a0_0, .int .i64 a0_1, .string a0_2] 66 (0, 0))) ∧ Aside0 (Below w.heap.size w w'))
 case atStart => exact ⟨(([] : List Int)), (0), EQ, H', ⟨Nat.le_refl _⟩, ⟨by first | exact Kd.R_nil _ _ _ _ _ | exact Kd.N_nil _ _ _ _ _ | exact Kd.V_nil _ _ _ _ _ | exact Kd.Q_nil _ _ _ _ _ | exact Kd.S_nil _ _ _ _ _⟩, ⟨by (with_reducible repeat (first | apply Kd.S_alloc | apply Kd.S_drewN | apply Kd.S_drew)); exact Kd.S_mono HO387.out (fun _ hk => (by simp [Value.ownBlock]))⟩, ⟨BK⟩, ⟨BL⟩⟩
 case round =>
  clear H'
  try clear hcz5_0
  try clear hcz5_1
  try clear hcz5_2
  try clear hfz5_0
  try clear hfz5_1
  try clear hfz5_2
  obtain ⟨x5_1, x11_1, rfl, HA, HK1, HO_5, HO_9, BK384, HB⟩ := hrel
  cases gk with
  | zero => exact absurd HA.out (by simp [impl_SlotsAt.l0])
  | succ k1 =>
   have H := HA.out
   clear HA
   simp only [impl_SlotsAt.l0] at H
   by_cases c8 : x11_1 < (t385.length : Int)
   ·rw [if_pos c8] at H
    have c8b0 : decide (x11_1 < (t385.length : Int)) = true := decide_eq_true c8
    clear c8
    by_cases c9 : 0 ≤ x11_1
    ·rw [if_pos c9] at H
     have c9b0 : decide (0 ≤ x11_1) = true := decide_eq_true c9
     clear c9
     by_cases c10 : x11_1 < (t385.length : Int)
     ·rw [if_pos c10] at H
      have c10b0 : decide (x11_1 < (t385.length : Int)) = true := decide_eq_true c10
      clear c10
      obtain ⟨t389, A11, H⟩ := be H
      have p388 : 0 ≤ (x11_1 : Int) := OD
      have q388 : x11_1 < (t385.length : Int) := OD
      obtain ⟨ad388, A388_0, c388_0, e388, hx388_0, hl388_0, hi388_0⟩ := at_L10 (Kd.S_reads' HO_9.out).2.2 x11_1 p388 q388
      cases e388
      obtain ⟨ce388, hce388, hMe388, hcc388⟩ := Kd.S_get HO_9.out [] x11_1 p388 (by first | exact q388 | exact OD | (have e_ := (Kd.S_reads' HO_9.out).1; omega))
      obtain ⟨ve388_0, rfl, ge388_0⟩ := hMe388
      have hv388_0 := hcc388 0 _ rfl
      rw [Nat.add_zero, show ((Kd.slice 3 (Kd.int .i64))).sz = 1 from rfl, Nat.mul_one] at hv388_0
      replace hv388_0 := Option.some.inj (hv388_0.symm.trans hx388_0)
      rw [hv388_0] at ge388_0
      have HL388_0 := Aside0.mk (show Kd.R (Kd.int .i64) 3 _ _ _ _ (rd_L10 t385 x11_1) from ge388_0)
      clear hv388_0 ge388_0
      clear hcc388 hce388
      have HR388_0 := Aside0.mk hi388_0
      have HC388_0 := Aside0.mk hl388_0
      clear hi388_0 hl388_0
      replace p388 := eq_true p388
      replace q388 := eq_true q388
      replace H := Aside0.mk H
      go_wp2_with (first | ((with_reducible refine gate_callee (f := 210) rfl ?_); refine goesS (some 18) Try.func210 #[.slice A388_0 (rd_L10 t385 x11_1).length c388_0, .int .i64 a1] ?_; (with_reducible refine (slices_Contains_int_int.calls k1 _ _ (rd_L10 t385 x11_1) a1 _ _ ?side1 ?side2 A11.out).mono ?_); (case side1 => repeat (first | exact (by repeat (first | (with_reducible exact HR388_0.out) | (with_reducible refine Kd.C_alloc ?_ _) | (with_reducible refine Kd.C_drewN ?_ _) | (with_reducible refine Kd.C_drew ?_) | exact HR388_0.out)) | (with_reducible refine Kd.C_alloc ?_ _) | (with_reducible refine Kd.C_drewN ?_ _) | (with_reducible refine Kd.C_drew ?_))); (case side2 => exact HC388_0.out); rintro e w' ⟨rfl, ⟨nd, rfl⟩⟩; refine ⟨_, rfl, ?_⟩; refine stop_ ?_))
      refine Hide.mk ?_
      replace H := H.out
      by_cases c12 : t389 = true
      ·subst c12
       rw [if_pos rfl] at H
       by_cases c13 : x5_1.length < 17592186044416
       ·rw [if_pos c13] at H
        have LMc13 := Aside0.mk c13
        clear c13
        obtain ⟨y390, hy390⟩ : ∃ y_ : List Int, y_ = (x5_1 ++ [x11_1]) := ⟨_, rfl⟩
        replace H : (impl_SlotsAt.l0 k1 a1 y390 t385 (t385.length : Int) (wrap64 (x11_1 + 1))) = some r := by first | (rw [hy390]; with_reducible exact H) | (have H2_ := (Option.bind_some _ _).symm.trans H; rw [hy390]; with_reducible exact H2_) | (have H2_ := (Option.bind_some _ _).symm.trans H; with_reducible exact H2_) | with_reducible exact H | (rw [hy390]; exact H) | exact H
        have Ny390 := Aside0.mk hy390
        clear hy390
        have H' := Aside0.mk H
        clear H
        try go_wp2_with (first | ((with_reducible refine gate_builtin (b := .append) (xs := #[.tmp 19, .tmp 21]) rfl ?_); at_builtin; refine Kd.R_append (Kd.int .i64) (w0 := w) w.heap.size rfl (.tmp 19) (.tmp 21) 45 3 (.int .i64 0) 8 rfl Try.underlying45 info3 rfl (by decide) (by omega) u5 x5_1 x11_1 [.int .i64 x11_1] (fun _ => True) (fun _ => False) rfl rfl ?aP (fun _ hk => hk.elim) ?aF ?aO ?aB ?aS ?aL ?_; (case aP => exact rfl); (case aB => exact BL); (case aF => exact (fun _ _ => trivial)); (case aO => exact (RR HO_5)); (case aS => exact (below_size BL)); (case aL => have := LMc13.out; omega); intro v391 w7000 ho hb hg hat; rw [← Ny390.out] at ho; have n0_ := Aside0.mk (Kd.S_after (ok := (fun _ => True)) (by (with_reducible repeat (first | apply Kd.S_alloc | apply Kd.S_drewN | apply Kd.S_drew)); exact Kd.S_mono HO_9.out (fun _ hk => ⟨trivial, hk⟩)) hg hat); have n1_ := Aside0.mk (blk_grown (g := gb384) (o := .cells #[.int .i64 a0_0, .int .i64 a0_1, .string a0_2] 66 (0, 0)) BK hg (Kd.R_ne HO_5.out BK384.out (by decide))); have n2_ := Aside0.mk (Kd.R_after (ok := (fun k_ => some k_ ≠ (.slice (some ad388) t385.length co7 : Value).ownBlock)) (by (with_reducible repeat (first | apply Kd.R_alloc | apply Kd.R_drewN | apply Kd.R_drew)); exact Kd.R_mono HL388_0.out (fun _ hk => ⟨hk.2, hk.1⟩)) hg hat); have n3_ := Aside0.mk (hb); have n4_ := Aside0.mk (ho); clear HO_9 BK384 HL388_0 HB HO_5; have HO_9 := n0_; have BK384 := n1_; have HL388_0 := n2_; have HB := n3_; have HO392 := n4_; clear n0_ n1_ n2_ n3_ n4_; clear ho hb hg hat))
        go_roundg k1
        case measure => have := HK1.out; omega
        case rel => exact ⟨(y390), (wrap64 (x11_1 + 1)), EQ, H', ⟨by have := HK1.out; omega⟩, ⟨(RR HO392)⟩, ⟨by (with_reducible repeat (first | apply Kd.S_alloc | apply Kd.S_drewN | apply Kd.S_drew)); exact Kd.S_mono HO_9.out (fun _ hk => hk.2)⟩, ⟨BK⟩, ⟨BL⟩⟩
       ·rw [if_neg c13] at H
        exact absurd H (by simp)
      ·replace c12 := Bool.eq_false_iff.mpr c12
       subst c12
       rw [if_neg Bool.false_ne_true] at H
       have H' := Aside0.mk H
       clear H
       try go_wp2
       go_roundg k1
       case measure => have := HK1.out; omega
       case rel => exact ⟨(x5_1), (wrap64 (x11_1 + 1)), EQ, H', ⟨by have := HK1.out; omega⟩, ⟨(RR HO_5)⟩, ⟨(SR HO_9)⟩, ⟨BK⟩, ⟨BL⟩⟩
     ·rw [if_neg c10] at H
      exact absurd H (by simp)
    ·rw [if_neg c9] at H
     exact absurd H (by simp)
   ·rw [if_neg c8] at H
    have c8b0 : decide (x11_1 < (t385.length : Int)) = false := decide_eq_false c8
    clear c8
    obtain rfl := Option.some.inj H
    go_wp2
    go_ret
    exact ⟨_, EWW, (RR HO_5), BL⟩
end Go.Proofs.Ythjcicmmbmagbaa.PFnExactIsPuzzle
