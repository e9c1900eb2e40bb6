/- Walks of functions: what each computes. -/
import Derived.Test.YthjcicmmbmagbaaZHardOfP0
import Derived.Test.YthjcicmmbmagbaaZHardOfP1
import Derived.Test.YthjcicmmbmagbaaZHardOfP13
import Derived.Test.YthjcicmmbmagbaaZHardOfP14
import Derived.Test.YthjcicmmbmagbaaZHardOfW
import Derived.Test.YthjcicmmbmagbaaZHardOfShelf
import Derived.Test.YthjcicmmbmagbaaZHardOfHandSort
import Derived.Test.YthjcicmmbmagbaaZHardOfHandForm
import Derived.Test.YthjcicmmbmagbaaZHardOfHandAlone
import Derived.Test.YthjcicmmbmagbaaZHardOfHandReach
namespace Go.Proofs.Ythjcicmmbmagbaa.PFnExactHardOf
open Go.RowKit Go.Proofs.YthjcicmmbmagbaaW.PrintWords Go.Proofs.YthjcicmmbmagbaaW.PrintLast Go.Proofs.YthjcicmmbmagbaaW.PrintMore Go.Proofs.Ythjcicmmbmagbaa.Sq
attribute [local go_sem] max2_int min2_int max_two min_two max_three min_three max_four min_four
set_option linter.unusedVariables false
set_option linter.unusedSimpArgs false
attribute [local go_sem high] eqA66
mutual
def impl_SlotsOf.l0 : Nat → List (S153) → Int → Int → Int → Int → Int → ByteArray → Option ((List (S153)))
 | 0, _, _, _, _, _, _, _ => none
 | k + 1, x3, x4, x13, x14, x392000, x392001, x392002 => if x14 < x13 then ((impl_run.f k x392000 x392001 x392002 x14 false).bind fun t393 => ((impl_run.f k x392000 x392001 x392002 x14 true).bind fun t394 => (if t393 ≥ 2 then (impl_SlotsOf.j1 k x3 x4 x14 t393 t394 x13 x14 true x392000 x392001 x392002) else (impl_SlotsOf.j1 k x3 x4 x14 t393 t394 x13 x14 (decide (t394 ≥ 2)) x392000 x392001 x392002)))) else (some x3)
def impl_SlotsOf.j1 : Nat → List (S153) → Int → Int → Int → Int → Int → Int → Bool → Int → Int → ByteArray → Option ((List (S153)))
 | 0, _, _, _, _, _, _, _, _, _, _, _ => none
 | k + 1, x3, x4, x5, x6, x7, x13, x14, x28, x392000, x392001, x392002 => if x28 = true then (impl_SlotsOf.j2 k x3 (wrap64 (x4 + 1)) x5 x6 x7 x13 x14 x392000 x392001 x392002) else (impl_SlotsOf.j2 k x3 x4 x5 x6 x7 x13 x14 x392000 x392001 x392002)
def impl_SlotsOf.j2 : Nat → List (S153) → Int → Int → Int → Int → Int → Int → Int → Int → ByteArray → Option ((List (S153)))
 | 0, _, _, _, _, _, _, _, _, _, _ => none
 | k + 1, x3, x4, x5, x6, x7, x13, x14, x392000, x392001, x392002 => if x6 ≥ 2 then (if x3.length < 4398046511104 then ((some (x3 ++ [(⟨x4, false, x5, x6⟩ : S153)] : List (S153))).bind fun y395 => (if x7 ≥ 2 then (if y395.length < 4398046511104 then (impl_SlotsOf.l0 k (y395 ++ [(⟨x4, true, x5, x7⟩ : S153)]) x4 x13 (wrap64 (x14 + 1)) x392000 x392001 x392002) else (none)) else (impl_SlotsOf.l0 k y395 x4 x13 (wrap64 (x14 + 1)) x392000 x392001 x392002))) else (none)) else (if x7 ≥ 2 then (if x3.length < 4398046511104 then (impl_SlotsOf.l0 k (x3 ++ [(⟨x4, true, x5, x7⟩ : S153)]) x4 x13 (wrap64 (x14 + 1)) x392000 x392001 x392002) else (none)) else (impl_SlotsOf.l0 k x3 x4 x13 (wrap64 (x14 + 1)) x392000 x392001 x392002))
end
def impl_SlotsOf.f (k : Nat) (a0_0 : Int) (a0_1 : Int) (a0_2 : ByteArray) : Option ((List (S153))) := (impl_IsGrid.f k a0_0 a0_1 a0_2).bind fun t392 => (if t392 = true then (impl_SlotsOf.l0 k ([] : List (S153)) 0 (a0_2.size : Int) 0 a0_0 a0_1 a0_2) else (some ([] : List (S153))))
def impl_SlotsOf.T8 : Bool × List (List Nat × List Nat) := (true, [([], []), ([], []), ([0, 1], [0, 1]), ([], []), ([], []), ([3, 4, 2], [3, 4]), ([2, 5, 0, 1, 2], [2]), ([5, 6, 0, 1, 2, 3, 4, 5, 6], [5])])
def impl_SlotsOf.B8 : List Nat := [0, 0, 3, 0, 0, 31, 63, 127]
theorem impl_SlotsOf.tab8 : rtab .any (opsOf Try.f91 8) = impl_SlotsOf.T8 := by kernel_rfl
theorem impl_SlotsOf.bits8 : waitsOk impl_SlotsOf.T8.2 impl_SlotsOf.B8 = true := by kernel_rfl
set_option maxHeartbeats 8000000 in
set_option maxRecDepth 100000 in
theorem impl_SlotsOf.calls (k : Nat) (a0_0 : Int) (a0_1 : Int) (a0_2 : ByteArray) (r : List (S153)) (w : World) (h : impl_SlotsOf.f k a0_0 a0_1 a0_2 = some r) :
  Calls Try.prog 91 #[.agg #[.int .i64 a0_0, .int .i64 a0_1, .string a0_2]] w fun e w' => ∃ v0_ : Value, e = .returned (v0_) ∧ Kd.R k153 153 w' w.heap.size (fun _ => True) v0_ r ∧ Below w.heap.size w w' := by
 have hu66 := Try.underlying66
 have hu153 := Try.underlying153
 have HB := Aside0.mk (Below.refl w.heap.size w)
 have H : ((impl_IsGrid.f k a0_0 a0_1 a0_2).bind fun t392 => (if t392 = true then (impl_SlotsOf.l0 k ([] : List (S153)) 0 (a0_2.size : Int) 0 a0_0 a0_1 a0_2) else (some ([] : List (S153))))) = some r := h
 clear h
 obtain ⟨t392, A2, H⟩ := be H
 replace H := Aside0.mk H
 go_enter Try.func91, Try.ntmps91
 go_wp2_with (first | ((with_reducible refine gate_dst (N := 1) rfl ?_); refine box_ev (N := 1) (cs := #[.int .i64 a0_0, .int .i64 a0_1, .string a0_2]) (t := 66) ?_; intro gb391 hg w9000 hbox hb; have n0_ := BS (w := w) hb; have n1_ := Aside0.mk (hbox); have n2_ := SZ (w := w) hg; have n3_ := SZ (w := w) hg; clear HB; have HB := n0_; have BK391 := n1_; have GW391 := n2_; have GE391 := n3_; clear n0_ n1_ n2_ n3_; clear hb hbox hg; obtain ⟨hcz9001_0, hcz9001_1, hcz9001_2, hfz9001_0, hfz9001_1, hfz9001_2⟩ := cz3 BK391.out) | ((with_reducible refine gate_callee (f := 138) rfl ?_); refine goesS (some 9) Try.func138 #[.agg #[.int .i64 a0_0, .int .i64 a0_1, .string a0_2]] ?_; (with_reducible refine (impl_IsGrid.calls k a0_0 a0_1 a0_2 _ _ A2.out).mono ?_); rintro e w9002 ⟨rfl, hb⟩; refine ⟨_, rfl, ?_⟩; replace BK391 := KB BK391 hb; replace HB := BS (w := w) hb; (try clear hb); obtain ⟨hcz9003_0, hcz9003_1, hcz9003_2, hfz9003_0, hfz9003_1, hfz9003_2⟩ := cz3 BK391.out; refine stop_ ?_))
 refine Hide.mk ?_
 replace H := H.out
 by_cases c3 : t392 = true
 ·subst c3
  rw [if_pos rfl] at H
  have H' := Aside0.mk H
  clear H
  try go_wp2
  go_loopg [3, 4, 14] k (fun kq v3 v4 v14 w' => ∃ (x3_1 : List (S153)) (x4_1 : Int) (x14_1 : Int), v4 = .int .i64 x4_1 ∧ v14 = .int .i64 x14_1 ∧ Aside0 (impl_SlotsOf.l0 kq x3_1 x4_1 (a0_2.size : Int) x14_1 a0_0 a0_1 a0_2 = some r) ∧ Aside0 (kq ≤ k) ∧ Aside0 (Kd.R k153 153 w' w.heap.size (fun _ => True) v3 x3_1) ∧ Aside0 (w'.heap[gb391]? = some (.cells #[.int .i64 a0_0, .int .i64 a0_1, .string a0_2] 66 (0, 0))) ∧ Aside0 (Below w.heap.size w w'))
  case atStart => exact ⟨(([] : List (S153))), (0), (0), EQ, EQ, H', ⟨Nat.le_refl _⟩, ⟨by first | exact Kd.R_nil _ _ _ _ _ | exact Kd.N_nil _ _ _ _ _ | exact Kd.V_nil _ _ _ _ _ | exact Kd.Q_nil _ _ _ _ _ | exact Kd.S_nil _ _ _ _ _⟩, ⟨BK⟩, ⟨BL⟩⟩
  case round =>
   clear H'
   try clear c3
   try clear hcz9001_0
   try clear hcz9001_1
   try clear hcz9001_2
   try clear hcz9003_0
   try clear hcz9003_1
   try clear hcz9003_2
   try clear hfz9001_0
   try clear hfz9001_1
   try clear hfz9001_2
   try clear hfz9003_0
   try clear hfz9003_1
   try clear hfz9003_2
   obtain ⟨x3_1, x4_1, x14_1, rfl, rfl, HA, HK1, HO_3, BK391, HB⟩ := hrel
   cases gk with
   | zero => exact absurd HA.out (by simp [impl_SlotsOf.l0])
   | succ k1 =>
    have H := HA.out
    clear HA
    simp only [impl_SlotsOf.l0] at H
    by_cases c8 : x14_1 < (a0_2.size : Int)
    ·rw [if_pos c8] at H
     have c8b0 : decide (x14_1 < (a0_2.size : Int)) = true := decide_eq_true c8
     clear c8
     obtain ⟨t393, A9, H⟩ := be H
     obtain ⟨t394, A10, H⟩ := be H
     have HC11 := Aside0.mk H
     clear H
     try go_wp2
     have n0_ := Aside0.mk (Kd.R_drew HO_3.out)
     have n1_ := Aside0.mk (blk_drew BK391.out)
     have n2_ := Aside0.mk (below_drew1 HB.out)
     clear HO_3
     clear BK391
     clear HB
     have HO_3 := n0_
     have BK391 := n1_
     have HB := n2_
     clear n0_ n1_ n2_
     refine start_ (n := 8) (S := fun w' => w'.cell? ⟨gb391, 0, none⟩ = some (.int .i64 a0_0) ∧ w'.cell? ⟨gb391, 1, none⟩ = some (.int .i64 a0_1) ∧ w'.cell? ⟨gb391, 2, none⟩ = some (.string a0_2)) (ds := []) #[false, false, false, false, false, false, false, false] (by kernel_rfl) rfl rfl ⟨(blk_cell BK391.out 0).trans rfl, (blk_cell BK391.out 1).trans rfl, (blk_cell BK391.out 2).trans rfl⟩ (fun hHeld => ?_); refine with_tabW impl_SlotsOf.tab8 impl_SlotsOf.bits8 (fun HT_ HW_ => ?_)
     generalize wr.drew = w9004 at HO_3 BK391 HB hHeld ⊢
     refine puS (i := 1) (N := some 18) #[false, true, false, false, false, false, false, false] (any_of HT_.out (by kernel_rfl)) ?_
     refine puS (i := 4) (N := some 21) #[false, true, false, false, true, false, false, false] (any_of HT_.out (by kernel_rfl)) ?_
     refine take_ (i := 0) (N := some 17) (v := ?_) (a' := ?_) #[true, true, false, false, true, false, false, false] rfl rfl (take_ofW HT_.out HW_.out (by kernel_rfl)) (fun _ _ _ h => h) (Or.inl ⟨by rfl, ?_⟩) hHeld ?_ ?_
     rotate_left
     ·rintro w' ⟨s0, s1, s2⟩
      go_simp
      with_reducible rfl
     rotate_left
     ·simp only [Act.put, PT, i64_w, i32_w]
      rfl
     refine take_ (i := 3) (N := some 20) (v := ?_) (a' := ?_) #[true, true, false, true, true, false, false, false] rfl rfl (take_ofW HT_.out HW_.out (by kernel_rfl)) (fun _ _ _ h => h) (Or.inl ⟨by rfl, ?_⟩) hHeld ?_ ?_
     rotate_left
     ·rintro w' ⟨s0, s1, s2⟩
      go_simp
      with_reducible rfl
     rotate_left
     ·simp only [Act.put, PT, i64_w, i32_w]
      rfl
     refine one_ (i := 2) (N := some 19) #[true, true, true, true, true, false, false, false] rfl rfl (one_of HT_.out (by kernel_rfl)) (by decide) (fun K hK => ?_)
     refine goes_ Try.func143 (by kernel_rfl) rfl #[.agg #[.int .i64 a0_0, .int .i64 a0_1, .string a0_2], .int .i64 x14_1, .bool false] (by rfl) rfl rfl (by (try simp only [List.map_toArray, List.map_cons, List.map_nil]); first | done | rfl | (simp only [List.length_drop, List.length_take]; rfl)) ?_
     with_reducible refine (impl_run.calls k1 a0_0 a0_1 a0_2 x14_1 false t393 _ A9.out).mono ?_
     rintro e w9005 ⟨rfl, hb⟩
     refine ⟨_, rfl, ?_⟩
     have n0_ := RB HO_3 hb
     have n1_ := KB BK391 hb
     have n2_ := BS (w := w) hb
     clear HO_3
     clear BK391
     clear HB
     have HO_3 := n0_
     have BK391 := n1_
     have HB := n2_
     clear n0_ n1_ n2_
     (try clear hb)
     (try clear hb2)
     (try clear hk)
     (try clear hi)
     refine hK.out _ _ ⟨(blk_cell BK391.out 0).trans rfl, (blk_cell BK391.out 1).trans rfl, (blk_cell BK391.out 2).trans rfl⟩ (fun hHeld => ?_)
     clear hK K
     refine norm_ (a' := ?_) ?_ ?_
     rotate_left
     ·show Act.put _ (some 19) _ = _
      simp only [Act.put, PT, i64_w, i32_w]
      rfl
     refine one_ (i := 5) (N := some 22) #[true, true, true, true, true, true, false, false] rfl rfl (one_of HT_.out (by kernel_rfl)) (by decide) (fun K hK => ?_)
     refine goes_ Try.func143 (by kernel_rfl) rfl #[.agg #[.int .i64 a0_0, .int .i64 a0_1, .string a0_2], .int .i64 x14_1, .bool true] (by rfl) rfl rfl (by (try simp only [List.map_toArray, List.map_cons, List.map_nil]); first | done | rfl | (simp only [List.length_drop, List.length_take]; rfl)) ?_
     with_reducible refine (impl_run.calls k1 a0_0 a0_1 a0_2 x14_1 true t394 _ A10.out).mono ?_
     rintro e w9006 ⟨rfl, hb⟩
     refine ⟨_, rfl, ?_⟩
     have n0_ := RB HO_3 hb
     have n1_ := KB BK391 hb
     have n2_ := BS (w := w) hb
     clear HO_3
     clear BK391
     clear HB
     have HO_3 := n0_
     have BK391 := n1_
     have HB := n2_
     clear n0_ n1_ n2_
     (try clear hb)
     (try clear hb2)
     (try clear hk)
     (try clear hi)
     refine hK.out _ _ ⟨(blk_cell BK391.out 0).trans rfl, (blk_cell BK391.out 1).trans rfl, (blk_cell BK391.out 2).trans rfl⟩ (fun hHeld => ?_)
     clear hK K
     refine norm_ (a' := ?_) ?_ ?_
     rotate_left
     ·show Act.put _ (some 22) _ = _
      simp only [Act.put, PT, i64_w, i32_w]
      rfl
     refine puS (i := 6) (N := some 6) #[true, true, true, true, true, true, true, false] (any_of HT_.out (by kernel_rfl)) ?_
     refine puS (i := 7) (N := some 7) #[true, true, true, true, true, true, true, true] (any_of HT_.out (by kernel_rfl)) ?_
     refine done_ (done_of HT_.out (by kernel_rfl)) ?_
     go_upto_region 9 with (fail)
     go_cut [28] (fun v28 wc => ∃ (kq : Nat) (x28_10 : Bool), v28 = .bool x28_10 ∧ Aside0 (impl_SlotsOf.j1 kq x3_1 x4_1 x14_1 t393 t394 (a0_2.size : Int) x14_1 x28_10 a0_0 a0_1 a0_2 = some r) ∧ Aside0 (kq ≤ k1) ∧ Aside0 (Kd.R k153 153 wc w.heap.size (fun _ => True) u3 x3_1) ∧ Aside0 (wc.heap[gb391]? = some (.cells #[.int .i64 a0_0, .int .i64 a0_1, .string a0_2] 66 (0, 0))) ∧ Aside0 (Below w.heap.size w wc))
     case first =>
      have H := HC11.out
      clear HC11
      by_cases c15 : t393 ≥ 2
      ·rw [if_pos c15] at H
       have c15b0 : decide (2 ≤ t393) = true := decide_eq_true c15
       clear c15
       (first | rw [c15b0] | (simp only [i64_w, i32_w]; rw [c15b0]) | skip)
       have H' := Aside0.mk H
       clear H
       go_wp2
       go_meet
       case rel => exact ⟨_, (true), EQ, H', ⟨by have := HK1.out; first | omega | exact Nat.le_refl _⟩, ⟨(RR HO_3)⟩, ⟨BK⟩, ⟨BL⟩⟩
      ·rw [if_neg c15] at H
       have c15b0 : decide (2 ≤ t393) = false := decide_eq_false c15
       clear c15
       (first | rw [c15b0] | (simp only [i64_w, i32_w]; rw [c15b0]) | skip)
       have H' := Aside0.mk H
       clear H
       go_wp2
       go_meet
       case rel => exact ⟨_, (decide (t394 ≥ 2)), EQ, H', ⟨by have := HK1.out; first | omega | exact Nat.le_refl _⟩, ⟨(RR HO_3)⟩, ⟨BK⟩, ⟨BL⟩⟩
     case rest =>
      clear HC11
      try clear c3
      try clear c8
      try clear c8b0
      try clear hcz9001_0
      try clear hcz9001_1
      try clear hcz9001_2
      try clear hcz9003_0
      try clear hcz9003_1
      try clear hcz9003_2
      try clear hfz9001_0
      try clear hfz9001_1
      try clear hfz9001_2
      try clear hfz9003_0
      try clear hfz9003_1
      try clear hfz9003_2
      obtain ⟨kq, x28_10, rfl, HA, HJ10, HO_3, BK391, HB⟩ := hcut
      cases kq with
      | zero => exact absurd HA.out (by simp [impl_SlotsOf.j1])
      | succ kj10 =>
       have H := HA.out
       clear HA
       simp only [impl_SlotsOf.j1] at H
       have HC16 := Aside0.mk H
       clear H
       go_upto_if 28 with (fail)
       go_cut [4] (fun v4 wc => ∃ (kq : Nat) (x4_15 : Int), v4 = .int .i64 x4_15 ∧ Aside0 (impl_SlotsOf.j2 kq x3_1 x4_15 x14_1 t393 t394 (a0_2.size : Int) x14_1 a0_0 a0_1 a0_2 = some r) ∧ Aside0 (kq ≤ kj10) ∧ Aside0 (Kd.R k153 153 wc w.heap.size (fun _ => True) u3 x3_1) ∧ Aside0 (wc.heap[gb391]? = some (.cells #[.int .i64 a0_0, .int .i64 a0_1, .string a0_2] 66 (0, 0))) ∧ Aside0 (Below w.heap.size w wc))
       case first =>
        have H := HC16.out
        clear HC16
        by_cases c17 : x28_10 = true
        ·subst c17
         rw [if_pos rfl] at H
         have H' := Aside0.mk H
         clear H
         go_wp2
         go_meet
         case rel => exact ⟨_, (wrap64 (x4_1 + 1)), EQ, H', ⟨by have := HK1.out; have := HJ10.out; first | omega | exact Nat.le_refl _⟩, ⟨(RR HO_3)⟩, ⟨BK⟩, ⟨BL⟩⟩
        ·replace c17 := Bool.eq_false_iff.mpr c17
         subst c17
         rw [if_neg Bool.false_ne_true] at H
         have H' := Aside0.mk H
         clear H
         go_wp2
         go_meet
         case rel => exact ⟨_, (x4_1), EQ, H', ⟨by have := HK1.out; have := HJ10.out; first | omega | exact Nat.le_refl _⟩, ⟨(RR HO_3)⟩, ⟨BK⟩, ⟨BL⟩⟩
       case rest =>
        clear HC16
        try clear c3
        try clear c8
        try clear c8b0
        try clear hcz9001_0
        try clear hcz9001_1
        try clear hcz9001_2
        try clear hcz9003_0
        try clear hcz9003_1
        try clear hcz9003_2
        try clear hfz9001_0
        try clear hfz9001_1
        try clear hfz9001_2
        try clear hfz9003_0
        try clear hfz9003_1
        try clear hfz9003_2
        obtain ⟨kq, x4_15, rfl, HA, HJ15, HO_3, BK391, HB⟩ := hcut
        cases kq with
        | zero => exact absurd HA.out (by simp [impl_SlotsOf.j2])
        | succ kj15 =>
         have H := HA.out
         clear HA
         simp only [impl_SlotsOf.j2] at H
         by_cases c18 : t393 ≥ 2
         ·rw [if_pos c18] at H
          have c18b0 : decide (2 ≤ t393) = true := decide_eq_true c18
          clear c18
          by_cases c19 : x3_1.length < 4398046511104
          ·rw [if_pos c19] at H
           have LMc19 := Aside0.mk c19
           clear c19
           obtain ⟨y395, hy395⟩ : ∃ y_ : List (S153), y_ = (x3_1 ++ [(⟨x4_15, false, x14_1, t393⟩ : S153)]) := ⟨_, rfl⟩
           replace H : (if t394 ≥ 2 then (if y395.length < 4398046511104 then (impl_SlotsOf.l0 kj15 (y395 ++ [(⟨x4_15, true, x14_1, t394⟩ : S153)]) x4_15 (a0_2.size : Int) (wrap64 (x14_1 + 1)) a0_0 a0_1 a0_2) else (none)) else (impl_SlotsOf.l0 kj15 y395 x4_15 (a0_2.size : Int) (wrap64 (x14_1 + 1)) a0_0 a0_1 a0_2)) = some r := by first | (rw [hy395]; with_reducible exact H) | (have H2_ := (Option.bind_some _ _).symm.trans H; rw [hy395]; with_reducible exact H2_) | (have H2_ := (Option.bind_some _ _).symm.trans H; with_reducible exact H2_) | with_reducible exact H | (rw [hy395]; exact H) | exact H
           have Ny395 := Aside0.mk hy395
           clear hy395
           replace H := Aside0.mk H
           go_wp2_with (first | ((with_reducible refine gate_builtin (b := .append) (xs := #[.tmp 33, .tmp 38]) rfl ?_); at_builtin; refine Kd.R_append k153 (w0 := w) w.heap.size rfl (.tmp 33) (.tmp 38) 117 153 (.agg #[(.int .i64 0), (.bool false), (.int .i64 0), (.int .i64 0)]) 32 rfl Try.underlying117 info153 rfl (by decide) (by omega) u3 x3_1 (⟨x4_15, false, x14_1, t393⟩ : S153) [.int .i64 x4_15, .bool false, .int .i64 x14_1, .int .i64 t393] (fun _ => True) (fun _ => False) rfl rfl ?aP (fun _ hk => hk.elim) ?aF ?aO ?aB ?aS ?aL ?_; (case aP => exact k153_mkM _ _ _ (⟨x4_15, false, x14_1, t393⟩ : S153)); (case aB => exact BL); (case aF => exact (fun _ _ => trivial)); (case aO => exact (RR HO_3)); (case aS => exact (below_size BL)); (case aL => have := LMc19.out; omega); intro v396 w9007 ho hb hg hat; rw [← Ny395.out] at ho; have n0_ := Aside0.mk (blk_grown (g := gb391) (o := .cells #[.int .i64 a0_0, .int .i64 a0_1, .string a0_2] 66 (0, 0)) BK hg (Kd.R_ne HO_3.out BK391.out (by decide))); have n1_ := Aside0.mk (hb); have n2_ := Aside0.mk (ho); clear BK391 HB HO_3; have BK391 := n0_; have HB := n1_; have HO397 := n2_; clear n0_ n1_ n2_; clear ho hb hg hat; refine stop_ ?_))
           refine Hide.mk ?_
           replace H := H.out
           by_cases c20 : t394 ≥ 2
           ·rw [if_pos c20] at H
            have c20b0 : decide (2 ≤ t394) = true := decide_eq_true c20
            clear c20
            by_cases c21 : y395.length < 4398046511104
            ·rw [if_pos c21] at H
             have LMc21 := Aside0.mk c21
             clear c21
             obtain ⟨y398, hy398⟩ : ∃ y_ : List (S153), y_ = (y395 ++ [(⟨x4_15, true, x14_1, t394⟩ : S153)]) := ⟨_, rfl⟩
             replace H : (impl_SlotsOf.l0 kj15 y398 x4_15 (a0_2.size : Int) (wrap64 (x14_1 + 1)) a0_0 a0_1 a0_2) = some r := by first | (rw [hy398]; with_reducible exact H) | (have H2_ := (Option.bind_some _ _).symm.trans H; rw [hy398]; with_reducible exact H2_) | (have H2_ := (Option.bind_some _ _).symm.trans H; with_reducible exact H2_) | with_reducible exact H | (rw [hy398]; exact H) | exact H
             have Ny398 := Aside0.mk hy398
             clear hy398
             have H' := Aside0.mk H
             clear H
             try go_wp2_with (first | ((with_reducible refine gate_builtin (b := .append) (xs := #[.tmp 42, .tmp 47]) rfl ?_); at_builtin; refine Kd.R_append k153 (w0 := w) w.heap.size rfl (.tmp 42) (.tmp 47) 117 153 (.agg #[(.int .i64 0), (.bool false), (.int .i64 0), (.int .i64 0)]) 32 rfl Try.underlying117 info153 rfl (by decide) (by omega) v396 y395 (⟨x4_15, true, x14_1, t394⟩ : S153) [.int .i64 x4_15, .bool true, .int .i64 x14_1, .int .i64 t394] (fun _ => True) (fun _ => False) rfl rfl ?aP (fun _ hk => hk.elim) ?aF ?aO ?aB ?aS ?aL ?_; (case aP => exact k153_mkM _ _ _ (⟨x4_15, true, x14_1, t394⟩ : S153)); (case aB => exact BL); (case aF => exact (fun _ _ => trivial)); (case aO => exact (RR HO397)); (case aS => exact (below_size BL)); (case aL => have := LMc21.out; omega); intro v399 w9008 ho hb hg hat; rw [← Ny398.out] at ho; have n0_ := Aside0.mk (blk_grown (g := gb391) (o := .cells #[.int .i64 a0_0, .int .i64 a0_1, .string a0_2] 66 (0, 0)) BK hg (Kd.R_ne HO397.out BK391.out (by decide))); have n1_ := Aside0.mk (hb); have n2_ := Aside0.mk (ho); clear BK391 HB HO397; have BK391 := n0_; have HB := n1_; have HO400 := n2_; clear n0_ n1_ n2_; clear ho hb hg hat))
             go_roundg kj15
             case measure => have := HK1.out; have := HJ10.out; have := HJ15.out; omega
             case rel => exact ⟨(y398), (x4_15), (wrap64 (x14_1 + 1)), EQ, EQ, H', ⟨by have := HK1.out; have := HJ10.out; have := HJ15.out; omega⟩, ⟨(RR HO400)⟩, ⟨BK⟩, ⟨BL⟩⟩
            ·rw [if_neg c21] at H
             exact absurd H (by simp)
           ·rw [if_neg c20] at H
            have c20b0 : decide (2 ≤ t394) = false := decide_eq_false c20
            clear c20
            have H' := Aside0.mk H
            clear H
            try go_wp2
            go_roundg kj15
            case measure => have := HK1.out; have := HJ10.out; have := HJ15.out; omega
            case rel => exact ⟨(y395), (x4_15), (wrap64 (x14_1 + 1)), EQ, EQ, H', ⟨by have := HK1.out; have := HJ10.out; have := HJ15.out; omega⟩, ⟨(RR HO397)⟩, ⟨BK⟩, ⟨BL⟩⟩
          ·rw [if_neg c19] at H
           exact absurd H (by simp)
         ·rw [if_neg c18] at H
          have c18b0 : decide (2 ≤ t393) = false := decide_eq_false c18
          clear c18
          by_cases c25 : t394 ≥ 2
          ·rw [if_pos c25] at H
           have c25b0 : decide (2 ≤ t394) = true := decide_eq_true c25
           clear c25
           by_cases c26 : x3_1.length < 4398046511104
           ·rw [if_pos c26] at H
            have LMc26 := Aside0.mk c26
            clear c26
            obtain ⟨y401, hy401⟩ : ∃ y_ : List (S153), y_ = (x3_1 ++ [(⟨x4_15, true, x14_1, t394⟩ : S153)]) := ⟨_, rfl⟩
            replace H : (impl_SlotsOf.l0 kj15 y401 x4_15 (a0_2.size : Int) (wrap64 (x14_1 + 1)) a0_0 a0_1 a0_2) = some r := by first | (rw [hy401]; with_reducible exact H) | (have H2_ := (Option.bind_some _ _).symm.trans H; rw [hy401]; with_reducible exact H2_) | (have H2_ := (Option.bind_some _ _).symm.trans H; with_reducible exact H2_) | with_reducible exact H | (rw [hy401]; exact H) | exact H
            have Ny401 := Aside0.mk hy401
            clear hy401
            have H' := Aside0.mk H
            clear H
            go_wp2_with (first | ((with_reducible refine gate_builtin (b := .append) (xs := #[.tmp 42, .tmp 47]) rfl ?_); at_builtin; refine Kd.R_append k153 (w0 := w) w.heap.size rfl (.tmp 42) (.tmp 47) 117 153 (.agg #[(.int .i64 0), (.bool false), (.int .i64 0), (.int .i64 0)]) 32 rfl Try.underlying117 info153 rfl (by decide) (by omega) u3 x3_1 (⟨x4_15, true, x14_1, t394⟩ : S153) [.int .i64 x4_15, .bool true, .int .i64 x14_1, .int .i64 t394] (fun _ => True) (fun _ => False) rfl rfl ?aP (fun _ hk => hk.elim) ?aF ?aO ?aB ?aS ?aL ?_; (case aP => exact k153_mkM _ _ _ (⟨x4_15, true, x14_1, t394⟩ : S153)); (case aB => exact BL); (case aF => exact (fun _ _ => trivial)); (case aO => exact (RR HO_3)); (case aS => exact (below_size BL)); (case aL => have := LMc26.out; omega); intro v402 w9007 ho hb hg hat; rw [← Ny401.out] at ho; have n0_ := Aside0.mk (blk_grown (g := gb391) (o := .cells #[.int .i64 a0_0, .int .i64 a0_1, .string a0_2] 66 (0, 0)) BK hg (Kd.R_ne HO_3.out BK391.out (by decide))); have n1_ := Aside0.mk (hb); have n2_ := Aside0.mk (ho); clear BK391 HB HO_3; have BK391 := n0_; have HB := n1_; have HO403 := n2_; clear n0_ n1_ n2_; clear ho hb hg hat))
            go_roundg kj15
            case measure => have := HK1.out; have := HJ10.out; have := HJ15.out; omega
            case rel => exact ⟨(y401), (x4_15), (wrap64 (x14_1 + 1)), EQ, EQ, H', ⟨by have := HK1.out; have := HJ10.out; have := HJ15.out; omega⟩, ⟨(RR HO403)⟩, ⟨BK⟩, ⟨BL⟩⟩
           ·rw [if_neg c26] at H
            exact absurd H (by simp)
          ·rw [if_neg c25] at H
           have c25b0 : decide (2 ≤ t394) = false := decide_eq_false c25
           clear c25
           have H' := Aside0.mk H
           clear H
           go_wp2
           go_roundg kj15
           case measure => have := HK1.out; have := HJ10.out; have := HJ15.out; omega
           case rel => exact ⟨(x3_1), (x4_15), (wrap64 (x14_1 + 1)), EQ, EQ, H', ⟨by have := HK1.out; have := HJ10.out; have := HJ15.out; omega⟩, ⟨(RR HO_3)⟩, ⟨BK⟩, ⟨BL⟩⟩
    ·rw [if_neg c8] at H
     have c8b0 : decide (x14_1 < (a0_2.size : Int)) = false := decide_eq_false c8
     clear c8
     obtain rfl := Option.some.inj H
     go_wp2
     go_ret
     exact ⟨_, EWW, (RR HO_3), BL⟩
 ·replace c3 := Bool.eq_false_iff.mpr c3
  subst c3
  rw [if_neg Bool.false_ne_true] at H
  obtain rfl := Option.some.inj H
  try go_wp2
  go_ret
  exact ⟨_, EWW, by first | exact Kd.R_nil _ _ _ _ _ | exact Kd.N_nil _ _ _ _ _ | exact Kd.V_nil _ _ _ _ _ | exact Kd.Q_nil _ _ _ _ _ | exact Kd.S_nil _ _ _ _ _, BL⟩
def impl_Backwards.f (a0 : ByteArray) : Option (ByteArray) := if a0.size ≤ 100 then (some (strOfNums (bytesOf a0).reverse)) else (none)
theorem impl_Backwards.calls (a0 : ByteArray) (r : ByteArray) (w : World) (h : impl_Backwards.f a0 = some r) :
  Calls Try.prog 156 #[.string a0] w fun e w' => e = .returned (.string r) ∧ Below w.heap.size w w' := by
 by_cases h1 : a0.size ≤ 100
 ·have hr : r = strOfNums (bytesOf a0).reverse := by
   unfold impl_Backwards.f at h
   rw [if_pos h1] at h
   exact (Option.some.inj h).symm
  subst hr
  exact Go.Proofs.Ythjcicmmbmagbaa.HandSort.backwards_u8 a0 w h1
 ·simp [impl_Backwards.f, h1] at h
def impl_TurnGrid.f (k : Nat) (a0_0 : Int) (a0_1 : Int) (a0_2 : ByteArray) : Option (Int × Int × ByteArray) := (impl_IsGrid.f k a0_0 a0_1 a0_2).bind fun t406 => (if t406 = true then ((impl_Backwards.f a0_2).bind fun t407 => (some (a0_0, a0_1, t407))) else (some (0, 0, (⟨#[]⟩ : ByteArray))))
set_option maxHeartbeats 8000000 in
set_option maxRecDepth 100000 in
theorem impl_TurnGrid.calls (k : Nat) (a0_0 : Int) (a0_1 : Int) (a0_2 : ByteArray) (r1 : Int) (r2 : Int) (r3 : ByteArray) (w : World) (h : impl_TurnGrid.f k a0_0 a0_1 a0_2 = some (r1, r2, r3)) :
  Calls Try.prog 176 #[.agg #[.int .i64 a0_0, .int .i64 a0_1, .string a0_2]] w fun e w' => e = .returned (.agg #[.int .i64 r1, .int .i64 r2, .string r3]) ∧ Below w.heap.size w w' := by
 have hu66 := Try.underlying66
 have HB := Aside0.mk (Below.refl w.heap.size w)
 have H : ((impl_IsGrid.f k a0_0 a0_1 a0_2).bind fun t406 => (if t406 = true then ((impl_Backwards.f a0_2).bind fun t407 => (some (a0_0, a0_1, t407))) else (some (0, 0, (⟨#[]⟩ : ByteArray))))) = some (r1, r2, r3) := h
 clear h
 obtain ⟨t406, A2, H⟩ := be H
 replace H := Aside0.mk H
 go_enter Try.func176, Try.ntmps176
 go_wp2_with (first | ((with_reducible refine gate_dst (N := 1) rfl ?_); refine box_ev (N := 1) (cs := #[.int .i64 a0_0, .int .i64 a0_1, .string a0_2]) (t := 66) ?_; intro gb404 hg w9000 hbox hb; have n0_ := BS (w := w) hb; have n1_ := Aside0.mk (hbox); have n2_ := SZ (w := w) hg; have n3_ := SZ (w := w) hg; clear HB; have HB := n0_; have BK404 := n1_; have GW404 := n2_; have GE404 := n3_; clear n0_ n1_ n2_ n3_; clear hb hbox hg) | ((with_reducible refine gate_dst (N := 2) rfl ?_); refine box_ev (N := 2) (cs := #[.int .i64 0, .int .i64 0, .string (⟨#[]⟩ : ByteArray)]) (t := 66) ?_; intro gb405 hg w9001 hbox hb; have n0_ := KB BK404 hb; have n1_ := BS (w := w) hb; have n2_ := Aside0.mk (hbox); have n3_ := SZ (w := w) hg; have n4_ := SZ (w := w) hg; have n5_ := NL BK404 hg; have n6_ := NG BK404 hg; clear BK404 HB; have BK404 := n0_; have HB := n1_; have BK405 := n2_; have GW405 := n3_; have GE405 := n4_; have NB404_405 := n5_; have NB405_404 := n6_; clear n0_ n1_ n2_ n3_ n4_ n5_ n6_; clear hb hbox hg; have hnb9002 := NB404_405.out; have hnc9002 := NB405_404.out; obtain ⟨hcz9003_0, hcz9003_1, hcz9003_2, hfz9003_0, hfz9003_1, hfz9003_2⟩ := cz3 BK404.out; refine stop_ ?_))
 refine Hide.mk ?_
 replace H := H.out
 by_cases c3 : t406 = true
 ·subst c3
  rw [if_pos rfl] at H
  obtain ⟨t407, A4, H⟩ := be H
  simp only [Option.some.injEq, Prod.mk.injEq] at H
  obtain ⟨rfl, rfl, rfl⟩ := H
  try go_wp2_with (first | ((with_reducible refine gate_callee (f := 138) rfl ?_); refine goesS (some 4) Try.func138 #[.agg #[.int .i64 a0_0, .int .i64 a0_1, .string a0_2]] ?_; (with_reducible refine (impl_IsGrid.calls k a0_0 a0_1 a0_2 _ _ A2.out).mono ?_); rintro e w9004 ⟨rfl, hb⟩; refine ⟨_, rfl, ?_⟩; replace BK404 := KB BK404 hb; replace BK405 := KB BK405 hb; replace HB := BS (w := w) hb; (try clear hb); obtain ⟨hcz9005_0, hcz9005_1, hcz9005_2, hfz9005_0, hfz9005_1, hfz9005_2⟩ := cz3 BK404.out) | ((with_reducible refine gate_callee (f := 156) rfl ?_); refine goesS (some 9) Try.func156 #[.string a0_2] ?_; (with_reducible refine (impl_Backwards.calls a0_2 t407 _ A4.out).mono ?_); rintro e w9006 ⟨rfl, hb⟩; refine ⟨_, rfl, ?_⟩; replace BK404 := KB BK404 hb; replace BK405 := KB BK405 hb; replace HB := BS (w := w) hb; (try clear hb); obtain ⟨hcz9007_0, hcz9007_1, hcz9007_2, hfz9007_0, hfz9007_1, hfz9007_2⟩ := cz3 BK404.out; obtain ⟨hcz9008_0, hcz9008_1, hcz9008_2, hfz9008_0, hfz9008_1, hfz9008_2⟩ := cz3 BK405.out))
  refine bodyPost_ret (results_cell_row rfl _ _ gb405 66 #[.int .i64 a0_0, .int .i64 a0_1, .string t407] (0, 0) _ rfl (by (with_reducible repeat (first | refine blk_drewN ?_ _ | refine blk_drew ?_ | refine blk_alloc ?_ _)); refine blk_put (cs := #[.int .i64 a0_0, .int .i64 a0_1, .string (⟨#[]⟩ : ByteArray)]) ?_ 2 _ rfl; (with_reducible repeat (first | refine blk_drewN ?_ _ | refine blk_drew ?_ | refine blk_alloc ?_ _)); refine blk_put (cs := #[.int .i64 a0_0, .int .i64 0, .string (⟨#[]⟩ : ByteArray)]) ?_ 1 _ rfl; (with_reducible repeat (first | refine blk_drewN ?_ _ | refine blk_drew ?_ | refine blk_alloc ?_ _)); refine blk_put (cs := #[.int .i64 0, .int .i64 0, .string (⟨#[]⟩ : ByteArray)]) ?_ 0 _ rfl; (with_reducible repeat (first | refine blk_drewN ?_ _ | refine blk_drew ?_ | refine blk_alloc ?_ _)); refine blk_far ?_ NB405_404.out _; (with_reducible repeat (first | refine blk_drewN ?_ _ | refine blk_drew ?_ | refine blk_alloc ?_ _)); exact BK405.out) Try.underlying66 rfl (by kernel_rfl)) rfl ?_
  exact ⟨EWW, BL⟩
 ·replace c3 := Bool.eq_false_iff.mpr c3
  subst c3
  rw [if_neg Bool.false_ne_true] at H
  simp only [Option.some.injEq, Prod.mk.injEq] at H
  obtain ⟨rfl, rfl, rfl⟩ := H
  try go_wp2_with (first | ((with_reducible refine gate_callee (f := 138) rfl ?_); refine goesS (some 4) Try.func138 #[.agg #[.int .i64 a0_0, .int .i64 a0_1, .string a0_2]] ?_; (with_reducible refine (impl_IsGrid.calls k a0_0 a0_1 a0_2 _ _ A2.out).mono ?_); rintro e w9004 ⟨rfl, hb⟩; refine ⟨_, rfl, ?_⟩; replace BK404 := KB BK404 hb; replace BK405 := KB BK405 hb; replace HB := BS (w := w) hb; (try clear hb); obtain ⟨hcz9005_0, hcz9005_1, hcz9005_2, hfz9005_0, hfz9005_1, hfz9005_2⟩ := cz3 BK405.out))
  refine bodyPost_ret (results_cell_row rfl _ _ gb405 66 #[.int .i64 0, .int .i64 0, .string (⟨#[]⟩ : ByteArray)] (0, 0) _ rfl (by (with_reducible repeat (first | refine blk_drewN ?_ _ | refine blk_drew ?_ | refine blk_alloc ?_ _)); refine blk_put (cs := #[.int .i64 0, .int .i64 0, .string (⟨#[]⟩ : ByteArray)]) ?_ 2 _ rfl; (with_reducible repeat (first | refine blk_drewN ?_ _ | refine blk_drew ?_ | refine blk_alloc ?_ _)); refine blk_put (cs := #[.int .i64 0, .int .i64 0, .string (⟨#[]⟩ : ByteArray)]) ?_ 1 _ rfl; (with_reducible repeat (first | refine blk_drewN ?_ _ | refine blk_drew ?_ | refine blk_alloc ?_ _)); refine blk_put (cs := #[.int .i64 0, .int .i64 0, .string (⟨#[]⟩ : ByteArray)]) ?_ 0 _ rfl; (with_reducible repeat (first | refine blk_drewN ?_ _ | refine blk_drew ?_ | refine blk_alloc ?_ _)); exact BK405.out) Try.underlying66 rfl (by kernel_rfl)) rfl ?_
  exact ⟨EWW, BL⟩
def impl_IsSymmetric.f (k : Nat) (a0_0 : Int) (a0_1 : Int) (a0_2 : ByteArray) : Option (Bool) := (impl_IsGrid.f k a0_0 a0_1 a0_2).bind fun t409 => (if t409 = true then ((impl_TurnGrid.f k a0_0 a0_1 a0_2).bind fun bt410 => (some (a0_0 == bt410.1 && (a0_1 == bt410.2.1 && (a0_2.toList == bt410.2.2.toList))))) else (some false))
def impl_IsSymmetric.T1 : Bool × List (List Nat × List Nat) := (true, [([], []), ([0], [0]), ([1, 1], [1]), ([2], [2]), ([2], [2]), ([4, 2, 2], [2, 4]), ([3, 5, 2], [2, 3, 5]), ([2, 6], [2, 6]), ([7, 5, 0, 1, 2, 3, 4, 5, 6, 7], [7])])
def impl_IsSymmetric.B1 : List Nat := [0, 1, 3, 7, 7, 23, 63, 127, 255]
theorem impl_IsSymmetric.tab1 : rtab .any (opsOf Try.f139 1) = impl_IsSymmetric.T1 := by kernel_rfl
theorem impl_IsSymmetric.bits1 : waitsOk impl_IsSymmetric.T1.2 impl_IsSymmetric.B1 = true := by kernel_rfl
set_option maxHeartbeats 8000000 in
set_option maxRecDepth 100000 in
theorem impl_IsSymmetric.calls (k : Nat) (a0_0 : Int) (a0_1 : Int) (a0_2 : ByteArray) (r : Bool) (w : World) (h : impl_IsSymmetric.f k a0_0 a0_1 a0_2 = some r) :
  Calls Try.prog 139 #[.agg #[.int .i64 a0_0, .int .i64 a0_1, .string a0_2]] w fun e w' => e = .returned (.bool r) ∧ Below w.heap.size w w' := by
 have hu66 := Try.underlying66
 have HB := Aside0.mk (Below.refl w.heap.size w)
 have H : ((impl_IsGrid.f k a0_0 a0_1 a0_2).bind fun t409 => (if t409 = true then ((impl_TurnGrid.f k a0_0 a0_1 a0_2).bind fun bt410 => (some (a0_0 == bt410.1 && (a0_1 == bt410.2.1 && (a0_2.toList == bt410.2.2.toList))))) else (some false))) = some r := h
 clear h
 obtain ⟨t409, A2, H⟩ := be H
 replace H := Aside0.mk H
 go_enter Try.func139, Try.ntmps139
 try go_wp2_with (first | ((with_reducible refine gate_dst (N := 1) rfl ?_); refine box_ev (N := 1) (cs := #[.int .i64 a0_0, .int .i64 a0_1, .string a0_2]) (t := 66) ?_; intro gb408 hg w9000 hbox hb; have n0_ := BS (w := w) hb; have n1_ := Aside0.mk (hbox); have n2_ := SZ (w := w) hg; have n3_ := SZ (w := w) hg; clear HB; have HB := n0_; have BK408 := n1_; have GW408 := n2_; have GE408 := n3_; clear n0_ n1_ n2_ n3_; clear hb hbox hg))
 have n0_ := Aside0.mk (blk_drew BK408.out)
 have n1_ := Aside0.mk (below_drew1 HB.out)
 clear BK408
 clear HB
 have BK408 := n0_
 have HB := n1_
 clear n0_ n1_
 refine start_ (n := 9) (S := fun w' => w'.cell? ⟨gb408, 0, none⟩ = some (.int .i64 a0_0) ∧ w'.cell? ⟨gb408, 1, none⟩ = some (.int .i64 a0_1) ∧ w'.cell? ⟨gb408, 2, none⟩ = some (.string a0_2)) (ds := []) #[false, false, false, false, false, false, false, false, false] (by kernel_rfl) rfl rfl ⟨(blk_cell BK408.out 0).trans rfl, (blk_cell BK408.out 1).trans rfl, (blk_cell BK408.out 2).trans rfl⟩ (fun hHeld => ?_); refine with_tabW impl_IsSymmetric.tab1 impl_IsSymmetric.bits1 (fun HT_ HW_ => ?_)
 generalize w9000.drew = w9001 at BK408 HB hHeld ⊢
 refine take_ (i := 0) (N := some 3) (v := ?_) (a' := ?_) #[true, false, false, false, false, false, false, false, false] rfl rfl (take_ofW HT_.out HW_.out (by kernel_rfl)) (fun _ _ _ h => h) (Or.inl ⟨by rfl, ?_⟩) hHeld ?_ ?_
 rotate_left
 ·rintro w' ⟨s0, s1, s2⟩
  go_simp
  with_reducible rfl
 rotate_left
 ·simp only [Act.put, PT, i64_w, i32_w]
  rfl
 refine one_ (i := 1) (N := some 4) #[true, true, false, false, false, false, false, false, false] rfl rfl (one_of HT_.out (by kernel_rfl)) (by decide) (fun K hK => ?_)
 refine goes_ Try.func138 (by kernel_rfl) rfl #[.agg #[.int .i64 a0_0, .int .i64 a0_1, .string a0_2]] (by rfl) rfl rfl (by (try simp only [List.map_toArray, List.map_cons, List.map_nil]); first | done | rfl | (simp only [List.length_drop, List.length_take]; rfl)) ?_
 with_reducible refine (impl_IsGrid.calls k a0_0 a0_1 a0_2 _ _ A2.out).mono ?_
 rintro e w9002 ⟨rfl, hb⟩
 refine ⟨_, rfl, ?_⟩
 have n0_ := KB BK408 hb
 have n1_ := BS (w := w) hb
 clear BK408
 clear HB
 have BK408 := n0_
 have HB := n1_
 clear n0_ n1_
 (try clear hb)
 (try clear hb2)
 (try clear hk)
 (try clear hi)
 refine hK.out _ _ ⟨(blk_cell BK408.out 0).trans rfl, (blk_cell BK408.out 1).trans rfl, (blk_cell BK408.out 2).trans rfl⟩ (fun hHeld => ?_)
 clear hK K
 refine norm_ (a' := ?_) ?_ ?_
 rotate_left
 ·show Act.put _ (some 4) _ = _
  simp only [Act.put, PT, i64_w, i32_w]
  rfl
 replace H := H.out
 by_cases c3 : t409 = true
 ·subst c3
  rw [if_pos rfl] at H
  obtain ⟨⟨t410, t411, t412⟩, A4, H⟩ := be H
  dsimp only at H
  obtain rfl := Option.some.inj H
  refine puS (i := 2) (N := some 5) #[true, true, true, false, false, false, false, false, false] (any_of HT_.out (by kernel_rfl)) ?_
  refine take_ (i := 3) (N := some 6) (v := ?_) (a' := ?_) #[true, true, true, true, false, false, false, false, false] rfl rfl (take_ofW HT_.out HW_.out (by kernel_rfl)) (fun _ _ _ h => h) (Or.inl ⟨by rfl, ?_⟩) hHeld ?_ ?_
  rotate_left
  ·rintro w' ⟨s0, s1, s2⟩
   go_simp
   with_reducible rfl
  rotate_left
  ·simp only [Act.put, PT, i64_w, i32_w]
   rfl
  refine take_ (i := 4) (N := some 7) (v := ?_) (a' := ?_) #[true, true, true, true, true, false, false, false, false] rfl rfl (take_ofW HT_.out HW_.out (by kernel_rfl)) (fun _ _ _ h => h) (Or.inl ⟨by rfl, ?_⟩) hHeld ?_ ?_
  rotate_left
  ·rintro w' ⟨s0, s1, s2⟩
   go_simp
   with_reducible rfl
  rotate_left
  ·simp only [Act.put, PT, i64_w, i32_w]
   rfl
  refine one_ (i := 5) (N := some 8) #[true, true, true, true, true, true, false, false, false] rfl rfl (one_of HT_.out (by kernel_rfl)) (by decide) (fun K hK => ?_)
  refine goes_ Try.func176 (by kernel_rfl) rfl #[.agg #[.int .i64 a0_0, .int .i64 a0_1, .string a0_2]] (by rfl) rfl rfl (by (try simp only [List.map_toArray, List.map_cons, List.map_nil]); first | done | rfl | (simp only [List.length_drop, List.length_take]; rfl)) ?_
  with_reducible refine (impl_TurnGrid.calls k a0_0 a0_1 a0_2 t410 t411 t412 _ A4.out).mono ?_
  rintro e w9003 ⟨rfl, hb⟩
  refine ⟨_, rfl, ?_⟩
  have n0_ := KB BK408 hb
  have n1_ := BS (w := w) hb
  clear BK408
  clear HB
  have BK408 := n0_
  have HB := n1_
  clear n0_ n1_
  (try clear hb)
  (try clear hb2)
  (try clear hk)
  (try clear hi)
  refine hK.out _ _ ⟨(blk_cell BK408.out 0).trans rfl, (blk_cell BK408.out 1).trans rfl, (blk_cell BK408.out 2).trans rfl⟩ (fun hHeld => ?_)
  clear hK K
  refine norm_ (a' := ?_) ?_ ?_
  rotate_left
  ·show Act.put _ (some 8) _ = _
   simp only [Act.put, PT, i64_w, i32_w]
   rfl
  refine puS (i := 6) (N := some 9) #[true, true, true, true, true, true, true, false, false] (any_of HT_.out (by kernel_rfl)) ?_
  refine puS (i := 7) (N := some 10) #[true, true, true, true, true, true, true, true, false] (any_of HT_.out (by kernel_rfl)) ?_
  refine puS (i := 8) (N := some 2) #[true, true, true, true, true, true, true, true, true] (any_of HT_.out (by kernel_rfl)) ?_
  refine done_ (done_of HT_.out (by kernel_rfl)) ?_
  try go_wp2
  go_ret
  exact ⟨EWW, BL⟩
 ·replace c3 := Bool.eq_false_iff.mpr c3
  subst c3
  rw [if_neg Bool.false_ne_true] at H
  obtain rfl := Option.some.inj H
  refine puS (i := 2) (N := some 5) #[true, true, true, false, false, false, false, false, false] (any_of HT_.out (by kernel_rfl)) ?_
  refine puU (i := 3) (N := some 6) #[true, true, true, true, false, false, false, false, false] (any_of HT_.out (by kernel_rfl)) ?_
  refine puU (i := 4) (N := some 7) #[true, true, true, true, true, false, false, false, false] (any_of HT_.out (by kernel_rfl)) ?_
  refine puU (i := 5) (N := some 8) #[true, true, true, true, true, true, false, false, false] (any_of HT_.out (by kernel_rfl)) ?_
  refine puU (i := 6) (N := some 9) #[true, true, true, true, true, true, true, false, false] (any_of HT_.out (by kernel_rfl)) ?_
  refine puS (i := 7) (N := some 10) #[true, true, true, true, true, true, true, true, false] (any_of HT_.out (by kernel_rfl)) ?_
  refine puS (i := 8) (N := some 2) #[true, true, true, true, true, true, true, true, true] (any_of HT_.out (by kernel_rfl)) ?_
  refine done_ (done_of HT_.out (by kernel_rfl)) ?_
  try go_wp2
  go_ret
  exact ⟨EWW, BL⟩
def impl_at.f (a0 : Int) (a1 : Int) : Option (Bool) := if a0 ≥ 0 then (some (decide (a0 < a1))) else (some false)
set_option maxHeartbeats 8000000 in
set_option maxRecDepth 100000 in
theorem impl_at.calls (a0 : Int) (a1 : Int) (r : Bool) (w : World) (h : impl_at.f a0 a1 = some r) :
  Calls Try.prog 109 #[.int .i64 a0, .int .i64 a1] w fun e w' => e = .returned (.bool r) ∧ Drawn0 w w' := by
 have H : (if a0 ≥ 0 then (some (decide (a0 < a1))) else (some false)) = some r := h
 clear h
 replace H := Aside0.mk H
 go_enter Try.func109, Try.ntmps109
 replace H := H.out
 by_cases c3 : a0 ≥ 0
 ·rw [if_pos c3] at H
  have c3b0 : decide (0 ≤ a0) = true := decide_eq_true c3
  clear c3
  obtain rfl := Option.some.inj H
  try go_wp2
  go_ret
  exact ⟨by first | rfl | (simp; done) | (simp [*]; done), by repeat (first | exact Drawn0.refl _ | apply Drawn0.step)⟩
 ·rw [if_neg c3] at H
  have c3b0 : decide (0 ≤ a0) = false := decide_eq_false c3
  clear c3
  obtain rfl := Option.some.inj H
  try go_wp2
  go_ret
  exact ⟨by first | rfl | (simp; done) | (simp [*]; done), by repeat (first | exact Drawn0.refl _ | apply Drawn0.step)⟩
def impl_PartsOf.f (k : Nat) (a0_0 : Int) (a0_1 : Int) (a0_2 : ByteArray) : Option Int := (impl_IsGrid.f k a0_0 a0_1 a0_2).bind fun t => if t = true then HandForm.parts a0_0 a0_1 a0_2 k (Array.replicate a0_2.size false) 0 0 else some 0
theorem impl_PartsOf.grid (k : Nat) (R C : Int) (s : ByteArray) (h : impl_IsGrid.f k R C s = some true) : (2 ≤ R ∧ R ≤ 6) ∧ (2 ≤ C ∧ C ≤ 6) ∧ (s.size : Int) = R * C := by
 unfold impl_IsGrid.f at h
 obtain ⟨t1, h1, h⟩ := Option.bind_eq_some_iff.mp h
 have j : ∀ x, impl_IsGrid.j0 k x R C s = some true → x = false := by
  intro x hx
  cases k with
  | zero => simp [impl_IsGrid.j0] at hx
  | succ k => cases x with
   | false => rfl
   | true => simp [impl_IsGrid.j0] at hx
 cases t1 with
 | false =>
  rw [if_neg (by decide)] at h
  cases (j _ h)
 | true =>
  rw [if_pos rfl] at h
  obtain ⟨t2, h2, h⟩ := Option.bind_eq_some_iff.mp h
  cases t2 with
  | false =>
   rw [if_neg (by decide)] at h
   cases (j _ h)
  | true =>
   rw [if_pos rfl] at h
   have h3 := j _ h
   have ir : ∀ a, impl_InRange.f a 2 6 = some true → 2 ≤ a ∧ a ≤ 6 := by
    intro a ha
    unfold impl_InRange.f at ha
    split at ha
    ·rename_i x
     exact ⟨x, of_decide_eq_true (Option.some.inj ha)⟩
    ·cases ha
   obtain ⟨r0, r1⟩ := ir _ h1
   obtain ⟨c0, c1⟩ := ir _ h2
   have m1 : R * C ≤ 6 * 6 := Int.mul_le_mul (by omega) (by omega) (by omega) (by omega)
   have m2 : 0 ≤ R * C := Int.mul_nonneg (by omega) (by omega)
   have hw : wrap64 (R * C) = R * C := by unfold wrap64; omega
   rw [hw] at h3
   exact ⟨⟨r0, r1⟩, ⟨c0, c1⟩, by simpa using h3⟩
theorem impl_PartsOf.calls (k : Nat) (a0_0 : Int) (a0_1 : Int) (a0_2 : ByteArray) (r : Int) (w : World) (h : impl_PartsOf.f k a0_0 a0_1 a0_2 = some r) :
  Calls Try.prog 177 #[.agg #[.int .i64 a0_0, .int .i64 a0_1, .string a0_2]] w fun e w' => e = .returned (.int .i64 r) ∧ Below w.heap.size w w' := by
 obtain ⟨t, h1, h2⟩ := Option.bind_eq_some_iff.mp h
 exact HandForm.partsOf_u k a0_0 a0_1 a0_2 t r w (fun V => impl_IsGrid.calls k a0_0 a0_1 a0_2 t V h1) (fun e => impl_PartsOf.grid k _ _ _ (e ▸ h1)) h2
def impl_IsConnected.f (k : Nat) (a0_0 : Int) (a0_1 : Int) (a0_2 : ByteArray) : Option (Bool) := (impl_PartsOf.f k a0_0 a0_1 a0_2).bind fun t414 => (some (t414 == 1))
set_option maxHeartbeats 8000000 in
set_option maxRecDepth 100000 in
theorem impl_IsConnected.calls (k : Nat) (a0_0 : Int) (a0_1 : Int) (a0_2 : ByteArray) (r : Bool) (w : World) (h : impl_IsConnected.f k a0_0 a0_1 a0_2 = some r) :
  Calls Try.prog 140 #[.agg #[.int .i64 a0_0, .int .i64 a0_1, .string a0_2]] w fun e w' => e = .returned (.bool r) ∧ Below w.heap.size w w' := by
 have hu66 := Try.underlying66
 have HB := Aside0.mk (Below.refl w.heap.size w)
 have H : ((impl_PartsOf.f k a0_0 a0_1 a0_2).bind fun t414 => (some (t414 == 1))) = some r := h
 clear h
 obtain ⟨t414, A2, H⟩ := be H
 obtain rfl := Option.some.inj H
 go_enter Try.func140, Try.ntmps140
 go_wp2_with (first | ((with_reducible refine gate_dst (N := 1) rfl ?_); refine box_ev (N := 1) (cs := #[.int .i64 a0_0, .int .i64 a0_1, .string a0_2]) (t := 66) ?_; intro gb413 hg w3 hbox hb; have n0_ := BS (w := w) hb; have n1_ := Aside0.mk (hbox); have n2_ := SZ (w := w) hg; have n3_ := SZ (w := w) hg; clear HB; have HB := n0_; have BK413 := n1_; have GW413 := n2_; have GE413 := n3_; clear n0_ n1_ n2_ n3_; clear hb hbox hg; obtain ⟨hcz4_0, hcz4_1, hcz4_2, hfz4_0, hfz4_1, hfz4_2⟩ := cz3 BK413.out) | ((with_reducible refine gate_callee (f := 177) rfl ?_); refine goesS (some 4) Try.func177 #[.agg #[.int .i64 a0_0, .int .i64 a0_1, .string a0_2]] ?_; (with_reducible refine (impl_PartsOf.calls k a0_0 a0_1 a0_2 t414 _ A2.out).mono ?_); rintro e w5 ⟨rfl, hb⟩; refine ⟨_, rfl, ?_⟩; replace BK413 := KB BK413 hb; replace HB := BS (w := w) hb; (try clear hb)))
 go_ret
 exact ⟨EWW, BL⟩
end Go.Proofs.Ythjcicmmbmagbaa.PFnExactHardOf
