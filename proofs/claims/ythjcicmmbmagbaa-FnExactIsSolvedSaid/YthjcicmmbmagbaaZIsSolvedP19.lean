/- Walks of functions: what each computes. -/
import Derived.Test.YthjcicmmbmagbaaZIsSolvedP0
import Derived.Test.YthjcicmmbmagbaaZIsSolvedP1
import Derived.Test.YthjcicmmbmagbaaZIsSolvedP17
import Derived.Test.YthjcicmmbmagbaaZIsSolvedP18
import Derived.Test.YthjcicmmbmagbaaZIsSolvedW
import Derived.Test.YthjcicmmbmagbaaZIsSolvedShelf
import Derived.Test.YthjcicmmbmagbaaZIsSolvedHandSort
import Derived.Test.YthjcicmmbmagbaaZIsSolvedHandForm
import Derived.Test.YthjcicmmbmagbaaZIsSolvedHandAlone
import Derived.Test.YthjcicmmbmagbaaZIsSolvedHandReach
namespace Go.Proofs.Ythjcicmmbmagbaa.PFnExactIsSolved
open Go.RowKit Go.Proofs.YthjcicmmbmagbaaW.PrintWords Go.Proofs.YthjcicmmbmagbaaW.PrintLast Go.Proofs.YthjcicmmbmagbaaW.PrintMore Go.Proofs.Ythjcicmmbmagbaa.Sq
attribute [local go_sem] max2_int min2_int max_two min_two max_three min_three max_four min_four
set_option linter.unusedVariables false
set_option linter.unusedSimpArgs false
attribute [local go_sem high] eqA66
mutual
def impl_SlotsOf.l0 : Nat → List (S153) → Int → Int → Int → Int → Int → ByteArray → Option ((List (S153)))
 | 0, _, _, _, _, _, _, _ => none
 | k + 1, x3, x4, x13, x14, x422000, x422001, x422002 => if x14 < x13 then ((impl_run.f k x422000 x422001 x422002 x14 false).bind fun t423 => ((impl_run.f k x422000 x422001 x422002 x14 true).bind fun t424 => (if t423 ≥ 2 then (impl_SlotsOf.j1 k x3 x4 x14 t423 t424 x13 x14 true x422000 x422001 x422002) else (impl_SlotsOf.j1 k x3 x4 x14 t423 t424 x13 x14 (decide (t424 ≥ 2)) x422000 x422001 x422002)))) else (some x3)
def impl_SlotsOf.j1 : Nat → List (S153) → Int → Int → Int → Int → Int → Int → Bool → Int → Int → ByteArray → Option ((List (S153)))
 | 0, _, _, _, _, _, _, _, _, _, _, _ => none
 | k + 1, x3, x4, x5, x6, x7, x13, x14, x28, x422000, x422001, x422002 => if x28 = true then (impl_SlotsOf.j2 k x3 (wrap64 (x4 + 1)) x5 x6 x7 x13 x14 x422000 x422001 x422002) else (impl_SlotsOf.j2 k x3 x4 x5 x6 x7 x13 x14 x422000 x422001 x422002)
def impl_SlotsOf.j2 : Nat → List (S153) → Int → Int → Int → Int → Int → Int → Int → Int → ByteArray → Option ((List (S153)))
 | 0, _, _, _, _, _, _, _, _, _, _ => none
 | k + 1, x3, x4, x5, x6, x7, x13, x14, x422000, x422001, x422002 => if x6 ≥ 2 then (if x3.length < 4398046511104 then ((some (x3 ++ [(⟨x4, false, x5, x6⟩ : S153)] : List (S153))).bind fun y425 => (if x7 ≥ 2 then (if y425.length < 4398046511104 then (impl_SlotsOf.l0 k (y425 ++ [(⟨x4, true, x5, x7⟩ : S153)]) x4 x13 (wrap64 (x14 + 1)) x422000 x422001 x422002) else (none)) else (impl_SlotsOf.l0 k y425 x4 x13 (wrap64 (x14 + 1)) x422000 x422001 x422002))) else (none)) else (if x7 ≥ 2 then (if x3.length < 4398046511104 then (impl_SlotsOf.l0 k (x3 ++ [(⟨x4, true, x5, x7⟩ : S153)]) x4 x13 (wrap64 (x14 + 1)) x422000 x422001 x422002) else (none)) else (impl_SlotsOf.l0 k x3 x4 x13 (wrap64 (x14 + 1)) x422000 x422001 x422002))
end
def impl_SlotsOf.f (k : Nat) (a0_0 : Int) (a0_1 : Int) (a0_2 : ByteArray) : Option ((List (S153))) := (impl_IsGrid.f k a0_0 a0_1 a0_2).bind fun t422 => (if t422 = true then (impl_SlotsOf.l0 k ([] : List (S153)) 0 (a0_2.size : Int) 0 a0_0 a0_1 a0_2) else (some ([] : List (S153))))
def impl_SlotsOf.T8 : Bool × List (List Nat × List Nat) := (true, [([], []), ([], []), ([0, 1], [0, 1]), ([], []), ([], []), ([3, 4, 2], [3, 4]), ([2, 5, 0, 1, 2], [2]), ([5, 6, 0, 1, 2, 3, 4, 5, 6], [5])])
def impl_SlotsOf.B8 : List Nat := [0, 0, 3, 0, 0, 31, 63, 127]
theorem impl_SlotsOf.tab8 : rtab .any (opsOf Try.f91 8) = impl_SlotsOf.T8 := by kernel_rfl
theorem impl_SlotsOf.bits8 : waitsOk impl_SlotsOf.T8.2 impl_SlotsOf.B8 = true := by kernel_rfl
set_option maxHeartbeats 8000000 in
set_option maxRecDepth 100000 in
theorem impl_SlotsOf.calls (k : Nat) (a0_0 : Int) (a0_1 : Int) (a0_2 : ByteArray) (r : List (S153)) (w : World) (h : impl_SlotsOf.f k a0_0 a0_1 a0_2 = some r) :
  Calls Try.prog 91 #[.agg #[.int .i64 a0_0, .int .i64 a0_1, .string a0_2]] w fun e w' => ∃ v0_ : Value, e = .returned (v0_) ∧ Kd.R k153 153 w' w.heap.size (fun _ => True) v0_ r ∧ Below w.heap.size w w' := by
 have hu66 := Try.underlying66
 have hu153 := Try.underlying153
 have HB := Aside0.mk (Below.refl w.heap.size w)
 have H : ((impl_IsGrid.f k a0_0 a0_1 a0_2).bind fun t422 => (if t422 = true then (impl_SlotsOf.l0 k ([] : List (S153)) 0 (a0_2.size : Int) 0 a0_0 a0_1 a0_2) else (some ([] : List (S153))))) = some r := h
 clear h
 replace H := be H; obtain ⟨t422, A2, H⟩ := H
 replace H := Aside0.mk H
 go_enter Try.func91, Try.ntmps91
 go_wp2_with (first | ((with_reducible refine gate_dst (N := 1) rfl ?_); refine box_ev (N := 1) (cs := #[.int .i64 a0_0, .int .i64 a0_1, .string a0_2]) (t := 66) ?_; intro gb421 hg w9000 hbox hb; have n0_ := BS (w := w) hb; have n1_ := Aside0.mk (hbox); have n2_ := SZ (w := w) hg; have n3_ := SZ (w := w) hg; clear HB; have HB := n0_; have BK421 := n1_; have GW421 := n2_; have GE421 := n3_; clear n0_ n1_ n2_ n3_; clear hb hbox hg; obtain ⟨hcz9001_0, hcz9001_1, hcz9001_2, hfz9001_0, hfz9001_1, hfz9001_2⟩ := cz3 BK421.out) | ((with_reducible refine gate_callee (f := 138) rfl ?_); refine goesS (some 9) Try.func138 #[.agg #[.int .i64 a0_0, .int .i64 a0_1, .string a0_2]] ?_; (with_reducible refine (impl_IsGrid.calls k a0_0 a0_1 a0_2 _ _ A2.out).mono ?_); rintro e w9002 ⟨rfl, hb⟩; refine ⟨_, rfl, ?_⟩; replace BK421 := KB BK421 hb; replace HB := BS (w := w) hb; (try clear hb); obtain ⟨hcz9003_0, hcz9003_1, hcz9003_2, hfz9003_0, hfz9003_1, hfz9003_2⟩ := cz3 BK421.out; refine stop_ ?_))
 refine Hide.mk ?_
 replace H := H.out
 replace H := ifB H; rcases H with ⟨rfl, H⟩ | ⟨rfl, H⟩
 ·have H' := Aside0.mk H
  clear H
  try go_wp2
  go_loopg [3, 4, 14] k (fun kq v3 v4 v14 w' => ∃ (x3_1 : List (S153)) (x4_1 : Int) (x14_1 : Int), v4 = .int .i64 x4_1 ∧ v14 = .int .i64 x14_1 ∧ Aside0 (impl_SlotsOf.l0 kq x3_1 x4_1 (a0_2.size : Int) x14_1 a0_0 a0_1 a0_2 = some r) ∧ Aside0 (kq ≤ k) ∧ Aside0 (Kd.R k153 153 w' w.heap.size (fun _ => True) v3 x3_1) ∧ Aside0 (w'.heap[gb421]? = some (.cells #[.int .i64 a0_0, .int .i64 a0_1, .string a0_2] 66 (0, 0))) ∧ Aside0 (Below w.heap.size w w'))
  case atStart => exact ⟨(([] : List (S153))), (0), (0), EQ, EQ, H', ⟨Nat.le_refl _⟩, ⟨by first | exact Kd.R_nil _ _ _ _ _ | exact Kd.N_nil _ _ _ _ _ | exact Kd.V_nil _ _ _ _ _ | exact Kd.Q_nil _ _ _ _ _ | exact Kd.S_nil _ _ _ _ _⟩, ⟨BK⟩, ⟨BL⟩⟩
  case round =>
   clear H'
   try clear c3
   try clear hcz9001_0
   try clear hcz9001_1
   try clear hcz9001_2
   try clear hcz9003_0
   try clear hcz9003_1
   try clear hcz9003_2
   try clear hfz9001_0
   try clear hfz9001_1
   try clear hfz9001_2
   try clear hfz9003_0
   try clear hfz9003_1
   try clear hfz9003_2
   obtain ⟨x3_1, x4_1, x14_1, rfl, rfl, HA, HK1, HO_3, BK421, HB⟩ := hrel
   cases gk with
   | zero => exact absurd HA.out (by simp [impl_SlotsOf.l0])
   | succ k1 =>
    have H := HA.out
    clear HA
    simp only [impl_SlotsOf.l0] at H
    replace H := ifD H; rcases H with ⟨c8b0, H⟩ | ⟨c8b0, H⟩
    ·replace H := be H; obtain ⟨t423, A9, H⟩ := H
     replace H := be H; obtain ⟨t424, A10, H⟩ := H
     have HC11 := Aside0.mk H
     clear H
     try go_wp2
     replace HO_3 := Aside0.mk (Kd.R_drew HO_3.out)
     replace BK421 := Aside0.mk (blk_drew BK421.out)
     replace HB := Aside0.mk (below_drew1 HB.out)
     refine start_ (n := 8) (S := fun w' => w'.cell? ⟨gb421, 0, none⟩ = some (.int .i64 a0_0) ∧ w'.cell? ⟨gb421, 1, none⟩ = some (.int .i64 a0_1) ∧ w'.cell? ⟨gb421, 2, none⟩ = some (.string a0_2)) (ds := []) #[false, false, false, false, false, false, false, false] (by kernel_rfl) rfl rfl ⟨(blk_cell BK421.out 0).trans rfl, (blk_cell BK421.out 1).trans rfl, (blk_cell BK421.out 2).trans rfl⟩ (fun hHeld => ?_); refine with_tabW impl_SlotsOf.tab8 impl_SlotsOf.bits8 (fun HT_ HW_ => ?_)
     generalize wr.drew = w9004 at HO_3 BK421 HB hHeld ⊢
     refine puS (i := 1) (N := some 18) #[false, true, false, false, false, false, false, false] (any_of HT_.out (by kernel_rfl)) ?_
     refine puS (i := 4) (N := some 21) #[false, true, false, false, true, false, false, false] (any_of HT_.out (by kernel_rfl)) ?_
     refine taS (i := 0) (N := some 17) #[true, true, false, false, true, false, false, false] (take_ofW HT_.out HW_.out (by kernel_rfl)) hHeld ?_
     refine taS (i := 3) (N := some 20) #[true, true, false, true, true, false, false, false] (take_ofW HT_.out HW_.out (by kernel_rfl)) hHeld ?_
     refine one_ (i := 2) (N := some 19) #[true, true, true, true, true, false, false, false] rfl rfl (one_of HT_.out (by kernel_rfl)) (by decide) (fun K hK => ?_)
     refine goesR Try.func143 #[.agg #[.int .i64 a0_0, .int .i64 a0_1, .string a0_2], .int .i64 x14_1, .bool false] ?_
     with_reducible refine (impl_run.calls k1 a0_0 a0_1 a0_2 x14_1 false t423 _ A9.out).mono ?_
     rintro e w9005 ⟨rfl, hb⟩
     refine ⟨_, rfl, ?_⟩
     replace HO_3 := RB HO_3 hb
     replace BK421 := KB BK421 hb
     replace HB := BS (w := w) hb
     (try clear hb)
     refine hK.out _ _ ⟨(blk_cell BK421.out 0).trans rfl, (blk_cell BK421.out 1).trans rfl, (blk_cell BK421.out 2).trans rfl⟩ (fun hHeld => ?_)
     clear hK K
     refine nrm (some 19) ?_
     refine one_ (i := 5) (N := some 22) #[true, true, true, true, true, true, false, false] rfl rfl (one_of HT_.out (by kernel_rfl)) (by decide) (fun K hK => ?_)
     refine goesR Try.func143 #[.agg #[.int .i64 a0_0, .int .i64 a0_1, .string a0_2], .int .i64 x14_1, .bool true] ?_
     with_reducible refine (impl_run.calls k1 a0_0 a0_1 a0_2 x14_1 true t424 _ A10.out).mono ?_
     rintro e w9006 ⟨rfl, hb⟩
     refine ⟨_, rfl, ?_⟩
     replace HO_3 := RB HO_3 hb
     replace BK421 := KB BK421 hb
     replace HB := BS (w := w) hb
     (try clear hb)
     refine hK.out _ _ ⟨(blk_cell BK421.out 0).trans rfl, (blk_cell BK421.out 1).trans rfl, (blk_cell BK421.out 2).trans rfl⟩ (fun hHeld => ?_)
     clear hK K
     refine nrm (some 22) ?_
     refine puS (i := 6) (N := some 6) #[true, true, true, true, true, true, true, false] (any_of HT_.out (by kernel_rfl)) ?_
     refine puS (i := 7) (N := some 7) #[true, true, true, true, true, true, true, true] (any_of HT_.out (by kernel_rfl)) ?_
     refine done_ (done_of HT_.out (by kernel_rfl)) ?_
     go_upto_region 9 with (fail)
     go_cut [28] (fun v28 wc => ∃ (kq : Nat) (x28_10 : Bool), v28 = .bool x28_10 ∧ Aside0 (impl_SlotsOf.j1 kq x3_1 x4_1 x14_1 t423 t424 (a0_2.size : Int) x14_1 x28_10 a0_0 a0_1 a0_2 = some r) ∧ Aside0 (kq ≤ k1) ∧ Aside0 (Kd.R k153 153 wc w.heap.size (fun _ => True) u3 x3_1) ∧ Aside0 (wc.heap[gb421]? = some (.cells #[.int .i64 a0_0, .int .i64 a0_1, .string a0_2] 66 (0, 0))) ∧ Aside0 (Below w.heap.size w wc))
     case first =>
      have H := HC11.out
      clear HC11
      by_cases c15 : t423 ≥ 2
      ·rw [if_pos c15] at H
       have c15b0 : decide (2 ≤ t423) = true := decide_eq_true c15
       clear c15
       (first | rw [c15b0] | (simp only [i64_w, i32_w]; rw [c15b0]) | skip)
       have H' := Aside0.mk H
       clear H
       go_wp2
       go_meet
       case rel => exact ⟨_, (true), EQ, H', ⟨by have := HK1.out; first | omega | exact Nat.le_refl _⟩, ⟨(RR HO_3)⟩, ⟨BK⟩, ⟨BL⟩⟩
      ·rw [if_neg c15] at H
       have c15b0 : decide (2 ≤ t423) = false := decide_eq_false c15
       clear c15
       (first | rw [c15b0] | (simp only [i64_w, i32_w]; rw [c15b0]) | skip)
       have H' := Aside0.mk H
       clear H
       go_wp2
       go_meet
       case rel => exact ⟨_, (decide (t424 ≥ 2)), EQ, H', ⟨by have := HK1.out; first | omega | exact Nat.le_refl _⟩, ⟨(RR HO_3)⟩, ⟨BK⟩, ⟨BL⟩⟩
     case rest =>
      clear HC11
      try clear c3
      try clear c8
      try clear c8b0
      try clear hcz9001_0
      try clear hcz9001_1
      try clear hcz9001_2
      try clear hcz9003_0
      try clear hcz9003_1
      try clear hcz9003_2
      try clear hfz9001_0
      try clear hfz9001_1
      try clear hfz9001_2
      try clear hfz9003_0
      try clear hfz9003_1
      try clear hfz9003_2
      obtain ⟨kq, x28_10, rfl, HA, HJ10, HO_3, BK421, HB⟩ := hcut
      cases kq with
      | zero => exact absurd HA.out (by simp [impl_SlotsOf.j1])
      | succ kj10 =>
       have H := HA.out
       clear HA
       simp only [impl_SlotsOf.j1] at H
       have HC16 := Aside0.mk H
       clear H
       go_upto_if 28 with (fail)
       go_cut [4] (fun v4 wc => ∃ (kq : Nat) (x4_15 : Int), v4 = .int .i64 x4_15 ∧ Aside0 (impl_SlotsOf.j2 kq x3_1 x4_15 x14_1 t423 t424 (a0_2.size : Int) x14_1 a0_0 a0_1 a0_2 = some r) ∧ Aside0 (kq ≤ kj10) ∧ Aside0 (Kd.R k153 153 wc w.heap.size (fun _ => True) u3 x3_1) ∧ Aside0 (wc.heap[gb421]? = some (.cells #[.int .i64 a0_0, .int .i64 a0_1, .string a0_2] 66 (0, 0))) ∧ Aside0 (Below w.heap.size w wc))
       case first =>
        have H := HC16.out
        clear HC16
        replace H := ifB H; rcases H with ⟨rfl, H⟩ | ⟨rfl, H⟩
        ·have H' := Aside0.mk H
         clear H
         go_wp2
         go_meet
         case rel => exact ⟨_, (wrap64 (x4_1 + 1)), EQ, H', ⟨by have := HK1.out; have := HJ10.out; first | omega | exact Nat.le_refl _⟩, ⟨(RR HO_3)⟩, ⟨BK⟩, ⟨BL⟩⟩
        ·have H' := Aside0.mk H
         clear H
         go_wp2
         go_meet
         case rel => exact ⟨_, (x4_1), EQ, H', ⟨by have := HK1.out; have := HJ10.out; first | omega | exact Nat.le_refl _⟩, ⟨(RR HO_3)⟩, ⟨BK⟩, ⟨BL⟩⟩
       case rest =>
        clear HC16
        try clear c3
        try clear c8
        try clear c8b0
        try clear hcz9001_0
        try clear hcz9001_1
        try clear hcz9001_2
        try clear hcz9003_0
        try clear hcz9003_1
        try clear hcz9003_2
        try clear hfz9001_0
        try clear hfz9001_1
        try clear hfz9001_2
        try clear hfz9003_0
        try clear hfz9003_1
        try clear hfz9003_2
        obtain ⟨kq, x4_15, rfl, HA, HJ15, HO_3, BK421, HB⟩ := hcut
        cases kq with
        | zero => exact absurd HA.out (by simp [impl_SlotsOf.j2])
        | succ kj15 =>
         have H := HA.out
         clear HA
         simp only [impl_SlotsOf.j2] at H
         by_cases c18 : t423 ≥ 2
         ·rw [if_pos c18] at H
          have c18b0 : decide (2 ≤ t423) = true := decide_eq_true c18
          clear c18
          replace H := ifP H; obtain ⟨c19, H⟩ := H
          have LMc19 := Aside0.mk c19
          clear c19
          obtain ⟨y425, hy425⟩ : ∃ y_ : List (S153), y_ = (x3_1 ++ [(⟨x4_15, false, x14_1, t423⟩ : S153)]) := ⟨_, rfl⟩
          replace H : (if t424 ≥ 2 then (if y425.length < 4398046511104 then (impl_SlotsOf.l0 kj15 (y425 ++ [(⟨x4_15, true, x14_1, t424⟩ : S153)]) x4_15 (a0_2.size : Int) (wrap64 (x14_1 + 1)) a0_0 a0_1 a0_2) else (none)) else (impl_SlotsOf.l0 kj15 y425 x4_15 (a0_2.size : Int) (wrap64 (x14_1 + 1)) a0_0 a0_1 a0_2)) = some r := by first | (rw [hy425]; with_reducible exact H) | (have H2_ := (Option.bind_some _ _).symm.trans H; rw [hy425]; with_reducible exact H2_) | (have H2_ := (Option.bind_some _ _).symm.trans H; with_reducible exact H2_) | with_reducible exact H | (rw [hy425]; exact H) | exact H
          have Ny425 := Aside0.mk hy425
          clear hy425
          replace H := Aside0.mk H
          go_wp2_with (first | ((with_reducible refine gate_builtin (b := .append) (xs := #[.tmp 33, .tmp 38]) rfl ?_); at_builtin; refine Kd.R_append k153 (w0 := w) w.heap.size rfl (.tmp 33) (.tmp 38) 117 153 (.agg #[(.int .i64 0), (.bool false), (.int .i64 0), (.int .i64 0)]) 32 rfl Try.underlying117 info153 rfl (by decide) (by omega) u3 x3_1 (⟨x4_15, false, x14_1, t423⟩ : S153) [.int .i64 x4_15, .bool false, .int .i64 x14_1, .int .i64 t423] (fun _ => True) (fun _ => False) rfl rfl ?aP (fun _ hk => hk.elim) ?aF ?aO ?aB ?aS ?aL ?_; (case aP => exact k153_mkM _ _ _ (⟨x4_15, false, x14_1, t423⟩ : S153)); (case aB => exact BL); (case aF => exact (fun _ _ => trivial)); (case aO => exact (RR HO_3)); (case aS => exact (below_size BL)); (case aL => have := LMc19.out; omega); intro v426 w9007 ho hb hg hat; rw [← Ny425.out] at ho; have n0_ := Aside0.mk (blk_grown (g := gb421) (o := .cells #[.int .i64 a0_0, .int .i64 a0_1, .string a0_2] 66 (0, 0)) BK hg (Kd.R_ne HO_3.out BK421.out (by decide))); have n1_ := Aside0.mk (hb); have n2_ := Aside0.mk (ho); clear BK421 HB HO_3; have BK421 := n0_; have HB := n1_; have HO427 := n2_; clear n0_ n1_ n2_; clear ho hb hg hat; refine stop_ ?_))
          refine Hide.mk ?_
          replace H := H.out
          by_cases c20 : t424 ≥ 2
          ·rw [if_pos c20] at H
           have c20b0 : decide (2 ≤ t424) = true := decide_eq_true c20
           clear c20
           replace H := ifP H; obtain ⟨c21, H⟩ := H
           have LMc21 := Aside0.mk c21
           clear c21
           obtain ⟨y428, hy428⟩ : ∃ y_ : List (S153), y_ = (y425 ++ [(⟨x4_15, true, x14_1, t424⟩ : S153)]) := ⟨_, rfl⟩
           replace H : (impl_SlotsOf.l0 kj15 y428 x4_15 (a0_2.size : Int) (wrap64 (x14_1 + 1)) a0_0 a0_1 a0_2) = some r := by first | (rw [hy428]; with_reducible exact H) | (have H2_ := (Option.bind_some _ _).symm.trans H; rw [hy428]; with_reducible exact H2_) | (have H2_ := (Option.bind_some _ _).symm.trans H; with_reducible exact H2_) | with_reducible exact H | (rw [hy428]; exact H) | exact H
           have Ny428 := Aside0.mk hy428
           clear hy428
           have H' := Aside0.mk H
           clear H
           try go_wp2_with (first | ((with_reducible refine gate_builtin (b := .append) (xs := #[.tmp 42, .tmp 47]) rfl ?_); at_builtin; refine Kd.R_append k153 (w0 := w) w.heap.size rfl (.tmp 42) (.tmp 47) 117 153 (.agg #[(.int .i64 0), (.bool false), (.int .i64 0), (.int .i64 0)]) 32 rfl Try.underlying117 info153 rfl (by decide) (by omega) v426 y425 (⟨x4_15, true, x14_1, t424⟩ : S153) [.int .i64 x4_15, .bool true, .int .i64 x14_1, .int .i64 t424] (fun _ => True) (fun _ => False) rfl rfl ?aP (fun _ hk => hk.elim) ?aF ?aO ?aB ?aS ?aL ?_; (case aP => exact k153_mkM _ _ _ (⟨x4_15, true, x14_1, t424⟩ : S153)); (case aB => exact BL); (case aF => exact (fun _ _ => trivial)); (case aO => exact (RR HO427)); (case aS => exact (below_size BL)); (case aL => have := LMc21.out; omega); intro v429 w9008 ho hb hg hat; rw [← Ny428.out] at ho; have n0_ := Aside0.mk (blk_grown (g := gb421) (o := .cells #[.int .i64 a0_0, .int .i64 a0_1, .string a0_2] 66 (0, 0)) BK hg (Kd.R_ne HO427.out BK421.out (by decide))); have n1_ := Aside0.mk (hb); have n2_ := Aside0.mk (ho); clear BK421 HB HO427; have BK421 := n0_; have HB := n1_; have HO430 := n2_; clear n0_ n1_ n2_; clear ho hb hg hat))
           go_roundg kj15
           case measure => have := HK1.out; have := HJ10.out; have := HJ15.out; omega
           case rel => exact ⟨(y428), (x4_15), (wrap64 (x14_1 + 1)), EQ, EQ, H', ⟨by have := HK1.out; have := HJ10.out; have := HJ15.out; omega⟩, ⟨(RR HO430)⟩, ⟨BK⟩, ⟨BL⟩⟩
          ·rw [if_neg c20] at H
           have c20b0 : decide (2 ≤ t424) = false := decide_eq_false c20
           clear c20
           have H' := Aside0.mk H
           clear H
           try go_wp2
           go_roundg kj15
           case measure => have := HK1.out; have := HJ10.out; have := HJ15.out; omega
           case rel => exact ⟨(y425), (x4_15), (wrap64 (x14_1 + 1)), EQ, EQ, H', ⟨by have := HK1.out; have := HJ10.out; have := HJ15.out; omega⟩, ⟨(RR HO427)⟩, ⟨BK⟩, ⟨BL⟩⟩
         ·rw [if_neg c18] at H
          have c18b0 : decide (2 ≤ t423) = false := decide_eq_false c18
          clear c18
          by_cases c25 : t424 ≥ 2
          ·rw [if_pos c25] at H
           have c25b0 : decide (2 ≤ t424) = true := decide_eq_true c25
           clear c25
           replace H := ifP H; obtain ⟨c26, H⟩ := H
           have LMc26 := Aside0.mk c26
           clear c26
           obtain ⟨y431, hy431⟩ : ∃ y_ : List (S153), y_ = (x3_1 ++ [(⟨x4_15, true, x14_1, t424⟩ : S153)]) := ⟨_, rfl⟩
           replace H : (impl_SlotsOf.l0 kj15 y431 x4_15 (a0_2.size : Int) (wrap64 (x14_1 + 1)) a0_0 a0_1 a0_2) = some r := by first | (rw [hy431]; with_reducible exact H) | (have H2_ := (Option.bind_some _ _).symm.trans H; rw [hy431]; with_reducible exact H2_) | (have H2_ := (Option.bind_some _ _).symm.trans H; with_reducible exact H2_) | with_reducible exact H | (rw [hy431]; exact H) | exact H
           have Ny431 := Aside0.mk hy431
           clear hy431
           have H' := Aside0.mk H
           clear H
           go_wp2_with (first | ((with_reducible refine gate_builtin (b := .append) (xs := #[.tmp 42, .tmp 47]) rfl ?_); at_builtin; refine Kd.R_append k153 (w0 := w) w.heap.size rfl (.tmp 42) (.tmp 47) 117 153 (.agg #[(.int .i64 0), (.bool false), (.int .i64 0), (.int .i64 0)]) 32 rfl Try.underlying117 info153 rfl (by decide) (by omega) u3 x3_1 (⟨x4_15, true, x14_1, t424⟩ : S153) [.int .i64 x4_15, .bool true, .int .i64 x14_1, .int .i64 t424] (fun _ => True) (fun _ => False) rfl rfl ?aP (fun _ hk => hk.elim) ?aF ?aO ?aB ?aS ?aL ?_; (case aP => exact k153_mkM _ _ _ (⟨x4_15, true, x14_1, t424⟩ : S153)); (case aB => exact BL); (case aF => exact (fun _ _ => trivial)); (case aO => exact (RR HO_3)); (case aS => exact (below_size BL)); (case aL => have := LMc26.out; omega); intro v432 w9007 ho hb hg hat; rw [← Ny431.out] at ho; have n0_ := Aside0.mk (blk_grown (g := gb421) (o := .cells #[.int .i64 a0_0, .int .i64 a0_1, .string a0_2] 66 (0, 0)) BK hg (Kd.R_ne HO_3.out BK421.out (by decide))); have n1_ := Aside0.mk (hb); have n2_ := Aside0.mk (ho); clear BK421 HB HO_3; have BK421 := n0_; have HB := n1_; have HO433 := n2_; clear n0_ n1_ n2_; clear ho hb hg hat))
           go_roundg kj15
           case measure => have := HK1.out; have := HJ10.out; have := HJ15.out; omega
           case rel => exact ⟨(y431), (x4_15), (wrap64 (x14_1 + 1)), EQ, EQ, H', ⟨by have := HK1.out; have := HJ10.out; have := HJ15.out; omega⟩, ⟨(RR HO433)⟩, ⟨BK⟩, ⟨BL⟩⟩
          ·rw [if_neg c25] at H
           have c25b0 : decide (2 ≤ t424) = false := decide_eq_false c25
           clear c25
           have H' := Aside0.mk H
           clear H
           go_wp2
           go_roundg kj15
           case measure => have := HK1.out; have := HJ10.out; have := HJ15.out; omega
           case rel => exact ⟨(x3_1), (x4_15), (wrap64 (x14_1 + 1)), EQ, EQ, H', ⟨by have := HK1.out; have := HJ10.out; have := HJ15.out; omega⟩, ⟨(RR HO_3)⟩, ⟨BK⟩, ⟨BL⟩⟩
    ·obtain rfl := Option.some.inj H
     go_wp2
     go_ret
     exact ⟨_, EWW, (RR HO_3), BL⟩
 ·obtain rfl := Option.some.inj H
  try go_wp2
  go_ret
  exact ⟨_, EWW, by first | exact Kd.R_nil _ _ _ _ _ | exact Kd.N_nil _ _ _ _ _ | exact Kd.V_nil _ _ _ _ _ | exact Kd.Q_nil _ _ _ _ _ | exact Kd.S_nil _ _ _ _ _, BL⟩
def impl_Backwards.f (a0 : ByteArray) : Option (ByteArray) := if a0.size ≤ 100 then (some (strOfNums (bytesOf a0).reverse)) else (none)
theorem impl_Backwards.calls (a0 : ByteArray) (r : ByteArray) (w : World) (h : impl_Backwards.f a0 = some r) :
  Calls Try.prog 156 #[.string a0] w fun e w' => e = .returned (.string r) ∧ Below w.heap.size w w' := by
 by_cases h1 : a0.size ≤ 100
 ·have hr : r = strOfNums (bytesOf a0).reverse := by
   unfold impl_Backwards.f at h
   rw [if_pos h1] at h
   exact (Option.some.inj h).symm
  subst hr
  exact Go.Proofs.Ythjcicmmbmagbaa.HandSort.backwards_u8 a0 w h1
 ·simp [impl_Backwards.f, h1] at h
def impl_TurnGrid.f (k : Nat) (a0_0 : Int) (a0_1 : Int) (a0_2 : ByteArray) : Option (Int × Int × ByteArray) := (impl_IsGrid.f k a0_0 a0_1 a0_2).bind fun t436 => (if t436 = true then ((impl_Backwards.f a0_2).bind fun t437 => (some (a0_0, a0_1, t437))) else (some (0, 0, (⟨#[]⟩ : ByteArray))))
set_option maxHeartbeats 8000000 in
set_option maxRecDepth 100000 in
theorem impl_TurnGrid.calls (k : Nat) (a0_0 : Int) (a0_1 : Int) (a0_2 : ByteArray) (r1 : Int) (r2 : Int) (r3 : ByteArray) (w : World) (h : impl_TurnGrid.f k a0_0 a0_1 a0_2 = some (r1, r2, r3)) :
  Calls Try.prog 176 #[.agg #[.int .i64 a0_0, .int .i64 a0_1, .string a0_2]] w fun e w' => e = .returned (.agg #[.int .i64 r1, .int .i64 r2, .string r3]) ∧ Below w.heap.size w w' := by
 have hu66 := Try.underlying66
 have HB := Aside0.mk (Below.refl w.heap.size w)
 have H : ((impl_IsGrid.f k a0_0 a0_1 a0_2).bind fun t436 => (if t436 = true then ((impl_Backwards.f a0_2).bind fun t437 => (some (a0_0, a0_1, t437))) else (some (0, 0, (⟨#[]⟩ : ByteArray))))) = some (r1, r2, r3) := h
 clear h
 replace H := be H; obtain ⟨t436, A2, H⟩ := H
 replace H := Aside0.mk H
 go_enter Try.func176, Try.ntmps176
 go_wp2_with (first | ((with_reducible refine gate_dst (N := 1) rfl ?_); refine box_ev (N := 1) (cs := #[.int .i64 a0_0, .int .i64 a0_1, .string a0_2]) (t := 66) ?_; intro gb434 hg w9000 hbox hb; have n0_ := BS (w := w) hb; have n1_ := Aside0.mk (hbox); have n2_ := SZ (w := w) hg; have n3_ := SZ (w := w) hg; clear HB; have HB := n0_; have BK434 := n1_; have GW434 := n2_; have GE434 := n3_; clear n0_ n1_ n2_ n3_; clear hb hbox hg) | ((with_reducible refine gate_dst (N := 2) rfl ?_); refine box_ev (N := 2) (cs := #[.int .i64 0, .int .i64 0, .string (⟨#[]⟩ : ByteArray)]) (t := 66) ?_; intro gb435 hg w9001 hbox hb; have n0_ := KB BK434 hb; have n1_ := BS (w := w) hb; have n2_ := Aside0.mk (hbox); have n3_ := SZ (w := w) hg; have n4_ := SZ (w := w) hg; have n5_ := NL BK434 hg; have n6_ := NG BK434 hg; clear BK434 HB; have BK434 := n0_; have HB := n1_; have BK435 := n2_; have GW435 := n3_; have GE435 := n4_; have NB434_435 := n5_; have NB435_434 := n6_; clear n0_ n1_ n2_ n3_ n4_ n5_ n6_; clear hb hbox hg; have hnb9002 := NB434_435.out; have hnc9002 := NB435_434.out; obtain ⟨hcz9003_0, hcz9003_1, hcz9003_2, hfz9003_0, hfz9003_1, hfz9003_2⟩ := cz3 BK434.out; refine stop_ ?_))
 refine Hide.mk ?_
 replace H := H.out
 replace H := ifB H; rcases H with ⟨rfl, H⟩ | ⟨rfl, H⟩
 ·replace H := be H; obtain ⟨t437, A4, H⟩ := H
  simp only [Option.some.injEq, Prod.mk.injEq] at H
  obtain ⟨rfl, rfl, rfl⟩ := H
  try go_wp2_with (first | ((with_reducible refine gate_callee (f := 138) rfl ?_); refine goesS (some 4) Try.func138 #[.agg #[.int .i64 a0_0, .int .i64 a0_1, .string a0_2]] ?_; (with_reducible refine (impl_IsGrid.calls k a0_0 a0_1 a0_2 _ _ A2.out).mono ?_); rintro e w9004 ⟨rfl, hb⟩; refine ⟨_, rfl, ?_⟩; replace BK434 := KB BK434 hb; replace BK435 := KB BK435 hb; replace HB := BS (w := w) hb; (try clear hb); obtain ⟨hcz9005_0, hcz9005_1, hcz9005_2, hfz9005_0, hfz9005_1, hfz9005_2⟩ := cz3 BK434.out) | ((with_reducible refine gate_callee (f := 156) rfl ?_); refine goesS (some 9) Try.func156 #[.string a0_2] ?_; (with_reducible refine (impl_Backwards.calls a0_2 t437 _ A4.out).mono ?_); rintro e w9006 ⟨rfl, hb⟩; refine ⟨_, rfl, ?_⟩; replace BK434 := KB BK434 hb; replace BK435 := KB BK435 hb; replace HB := BS (w := w) hb; (try clear hb); obtain ⟨hcz9007_0, hcz9007_1, hcz9007_2, hfz9007_0, hfz9007_1, hfz9007_2⟩ := cz3 BK434.out; obtain ⟨hcz9008_0, hcz9008_1, hcz9008_2, hfz9008_0, hfz9008_1, hfz9008_2⟩ := cz3 BK435.out))
  refine bodyPost_ret (results_cell_row rfl _ _ gb435 66 #[.int .i64 a0_0, .int .i64 a0_1, .string t437] (0, 0) _ rfl (by (with_reducible repeat (first | refine blk_drewN ?_ _ | refine blk_drew ?_ | refine blk_alloc ?_ _)); refine blk_put (cs := #[.int .i64 a0_0, .int .i64 a0_1, .string (⟨#[]⟩ : ByteArray)]) ?_ 2 _ rfl; (with_reducible repeat (first | refine blk_drewN ?_ _ | refine blk_drew ?_ | refine blk_alloc ?_ _)); refine blk_put (cs := #[.int .i64 a0_0, .int .i64 0, .string (⟨#[]⟩ : ByteArray)]) ?_ 1 _ rfl; (with_reducible repeat (first | refine blk_drewN ?_ _ | refine blk_drew ?_ | refine blk_alloc ?_ _)); refine blk_put (cs := #[.int .i64 0, .int .i64 0, .string (⟨#[]⟩ : ByteArray)]) ?_ 0 _ rfl; (with_reducible repeat (first | refine blk_drewN ?_ _ | refine blk_drew ?_ | refine blk_alloc ?_ _)); refine blk_far ?_ NB435_434.out _; (with_reducible repeat (first | refine blk_drewN ?_ _ | refine blk_drew ?_ | refine blk_alloc ?_ _)); exact BK435.out) Try.underlying66 rfl (by kernel_rfl)) rfl ?_
  exact ⟨EWW, BL⟩
 ·simp only [Option.some.injEq, Prod.mk.injEq] at H
  obtain ⟨rfl, rfl, rfl⟩ := H
  try go_wp2_with (first | ((with_reducible refine gate_callee (f := 138) rfl ?_); refine goesS (some 4) Try.func138 #[.agg #[.int .i64 a0_0, .int .i64 a0_1, .string a0_2]] ?_; (with_reducible refine (impl_IsGrid.calls k a0_0 a0_1 a0_2 _ _ A2.out).mono ?_); rintro e w9004 ⟨rfl, hb⟩; refine ⟨_, rfl, ?_⟩; replace BK434 := KB BK434 hb; replace BK435 := KB BK435 hb; replace HB := BS (w := w) hb; (try clear hb); obtain ⟨hcz9005_0, hcz9005_1, hcz9005_2, hfz9005_0, hfz9005_1, hfz9005_2⟩ := cz3 BK435.out))
  refine bodyPost_ret (results_cell_row rfl _ _ gb435 66 #[.int .i64 0, .int .i64 0, .string (⟨#[]⟩ : ByteArray)] (0, 0) _ rfl (by (with_reducible repeat (first | refine blk_drewN ?_ _ | refine blk_drew ?_ | refine blk_alloc ?_ _)); refine blk_put (cs := #[.int .i64 0, .int .i64 0, .string (⟨#[]⟩ : ByteArray)]) ?_ 2 _ rfl; (with_reducible repeat (first | refine blk_drewN ?_ _ | refine blk_drew ?_ | refine blk_alloc ?_ _)); refine blk_put (cs := #[.int .i64 0, .int .i64 0, .string (⟨#[]⟩ : ByteArray)]) ?_ 1 _ rfl; (with_reducible repeat (first | refine blk_drewN ?_ _ | refine blk_drew ?_ | refine blk_alloc ?_ _)); refine blk_put (cs := #[.int .i64 0, .int .i64 0, .string (⟨#[]⟩ : ByteArray)]) ?_ 0 _ rfl; (with_reducible repeat (first | refine blk_drewN ?_ _ | refine blk_drew ?_ | refine blk_alloc ?_ _)); exact BK435.out) Try.underlying66 rfl (by kernel_rfl)) rfl ?_
  exact ⟨EWW, BL⟩
def impl_IsSymmetric.f (k : Nat) (a0_0 : Int) (a0_1 : Int) (a0_2 : ByteArray) : Option (Bool) := (impl_IsGrid.f k a0_0 a0_1 a0_2).bind fun t439 => (if t439 = true then ((impl_TurnGrid.f k a0_0 a0_1 a0_2).bind fun bt440 => (some (a0_0 == bt440.1 && (a0_1 == bt440.2.1 && (a0_2.toList == bt440.2.2.toList))))) else (some false))
def impl_IsSymmetric.T1 : Bool × List (List Nat × List Nat) := (true, [([], []), ([0], [0]), ([1, 1], [1]), ([2], [2]), ([2], [2]), ([4, 2, 2], [2, 4]), ([3, 5, 2], [2, 3, 5]), ([2, 6], [2, 6]), ([7, 5, 0, 1, 2, 3, 4, 5, 6, 7], [7])])
def impl_IsSymmetric.B1 : List Nat := [0, 1, 3, 7, 7, 23, 63, 127, 255]
theorem impl_IsSymmetric.tab1 : rtab .any (opsOf Try.f139 1) = impl_IsSymmetric.T1 := by kernel_rfl
theorem impl_IsSymmetric.bits1 : waitsOk impl_IsSymmetric.T1.2 impl_IsSymmetric.B1 = true := by kernel_rfl
set_option maxHeartbeats 8000000 in
set_option maxRecDepth 100000 in
theorem impl_IsSymmetric.calls (k : Nat) (a0_0 : Int) (a0_1 : Int) (a0_2 : ByteArray) (r : Bool) (w : World) (h : impl_IsSymmetric.f k a0_0 a0_1 a0_2 = some r) :
  Calls Try.prog 139 #[.agg #[.int .i64 a0_0, .int .i64 a0_1, .string a0_2]] w fun e w' => e = .returned (.bool r) ∧ Below w.heap.size w w' := by
 have hu66 := Try.underlying66
 have HB := Aside0.mk (Below.refl w.heap.size w)
 have H : ((impl_IsGrid.f k a0_0 a0_1 a0_2).bind fun t439 => (if t439 = true then ((impl_TurnGrid.f k a0_0 a0_1 a0_2).bind fun bt440 => (some (a0_0 == bt440.1 && (a0_1 == bt440.2.1 && (a0_2.toList == bt440.2.2.toList))))) else (some false))) = some r := h
 clear h
 replace H := be H; obtain ⟨t439, A2, H⟩ := H
 replace H := Aside0.mk H
 go_enter Try.func139, Try.ntmps139
 try go_wp2_with (first | ((with_reducible refine gate_dst (N := 1) rfl ?_); refine box_ev (N := 1) (cs := #[.int .i64 a0_0, .int .i64 a0_1, .string a0_2]) (t := 66) ?_; intro gb438 hg w9000 hbox hb; have n0_ := BS (w := w) hb; have n1_ := Aside0.mk (hbox); have n2_ := SZ (w := w) hg; have n3_ := SZ (w := w) hg; clear HB; have HB := n0_; have BK438 := n1_; have GW438 := n2_; have GE438 := n3_; clear n0_ n1_ n2_ n3_; clear hb hbox hg))
 replace BK438 := Aside0.mk (blk_drew BK438.out)
 replace HB := Aside0.mk (below_drew1 HB.out)
 refine start_ (n := 9) (S := fun w' => w'.cell? ⟨gb438, 0, none⟩ = some (.int .i64 a0_0) ∧ w'.cell? ⟨gb438, 1, none⟩ = some (.int .i64 a0_1) ∧ w'.cell? ⟨gb438, 2, none⟩ = some (.string a0_2)) (ds := []) #[false, false, false, false, false, false, false, false, false] (by kernel_rfl) rfl rfl ⟨(blk_cell BK438.out 0).trans rfl, (blk_cell BK438.out 1).trans rfl, (blk_cell BK438.out 2).trans rfl⟩ (fun hHeld => ?_); refine with_tabW impl_IsSymmetric.tab1 impl_IsSymmetric.bits1 (fun HT_ HW_ => ?_)
 generalize w9000.drew = w9001 at BK438 HB hHeld ⊢
 refine taS (i := 0) (N := some 3) #[true, false, false, false, false, false, false, false, false] (take_ofW HT_.out HW_.out (by kernel_rfl)) hHeld ?_
 refine one_ (i := 1) (N := some 4) #[true, true, false, false, false, false, false, false, false] rfl rfl (one_of HT_.out (by kernel_rfl)) (by decide) (fun K hK => ?_)
 refine goesR Try.func138 #[.agg #[.int .i64 a0_0, .int .i64 a0_1, .string a0_2]] ?_
 with_reducible refine (impl_IsGrid.calls k a0_0 a0_1 a0_2 _ _ A2.out).mono ?_
 rintro e w9002 ⟨rfl, hb⟩
 refine ⟨_, rfl, ?_⟩
 replace BK438 := KB BK438 hb
 replace HB := BS (w := w) hb
 (try clear hb)
 refine hK.out _ _ ⟨(blk_cell BK438.out 0).trans rfl, (blk_cell BK438.out 1).trans rfl, (blk_cell BK438.out 2).trans rfl⟩ (fun hHeld => ?_)
 clear hK K
 refine nrm (some 4) ?_
 replace H := H.out
 replace H := ifB H; rcases H with ⟨rfl, H⟩ | ⟨rfl, H⟩
 ·replace H := be H; obtain ⟨⟨t440, t441, t442⟩, A4, H⟩ := H
  dsimp only at H
  obtain rfl := Option.some.inj H
  refine puS (i := 2) (N := some 5) #[true, true, true, false, false, false, false, false, false] (any_of HT_.out (by kernel_rfl)) ?_
  refine taS (i := 3) (N := some 6) #[true, true, true, true, false, false, false, false, false] (take_ofW HT_.out HW_.out (by kernel_rfl)) hHeld ?_
  refine taS (i := 4) (N := some 7) #[true, true, true, true, true, false, false, false, false] (take_ofW HT_.out HW_.out (by kernel_rfl)) hHeld ?_
  refine one_ (i := 5) (N := some 8) #[true, true, true, true, true, true, false, false, false] rfl rfl (one_of HT_.out (by kernel_rfl)) (by decide) (fun K hK => ?_)
  refine goesR Try.func176 #[.agg #[.int .i64 a0_0, .int .i64 a0_1, .string a0_2]] ?_
  with_reducible refine (impl_TurnGrid.calls k a0_0 a0_1 a0_2 t440 t441 t442 _ A4.out).mono ?_
  rintro e w9003 ⟨rfl, hb⟩
  refine ⟨_, rfl, ?_⟩
  replace BK438 := KB BK438 hb
  replace HB := BS (w := w) hb
  (try clear hb)
  refine hK.out _ _ ⟨(blk_cell BK438.out 0).trans rfl, (blk_cell BK438.out 1).trans rfl, (blk_cell BK438.out 2).trans rfl⟩ (fun hHeld => ?_)
  clear hK K
  refine nrm (some 8) ?_
  refine puS (i := 6) (N := some 9) #[true, true, true, true, true, true, true, false, false] (any_of HT_.out (by kernel_rfl)) ?_
  refine puS (i := 7) (N := some 10) #[true, true, true, true, true, true, true, true, false] (any_of HT_.out (by kernel_rfl)) ?_
  refine puS (i := 8) (N := some 2) #[true, true, true, true, true, true, true, true, true] (any_of HT_.out (by kernel_rfl)) ?_
  refine done_ (done_of HT_.out (by kernel_rfl)) ?_
  try go_wp2
  go_ret
  exact ⟨EWW, BL⟩
 ·obtain rfl := Option.some.inj H
  refine puS (i := 2) (N := some 5) #[true, true, true, false, false, false, false, false, false] (any_of HT_.out (by kernel_rfl)) ?_
  refine puU (i := 3) (N := some 6) #[true, true, true, true, false, false, false, false, false] (any_of HT_.out (by kernel_rfl)) ?_
  refine puU (i := 4) (N := some 7) #[true, true, true, true, true, false, false, false, false] (any_of HT_.out (by kernel_rfl)) ?_
  refine puU (i := 5) (N := some 8) #[true, true, true, true, true, true, false, false, false] (any_of HT_.out (by kernel_rfl)) ?_
  refine puU (i := 6) (N := some 9) #[true, true, true, true, true, true, true, false, false] (any_of HT_.out (by kernel_rfl)) ?_
  refine puS (i := 7) (N := some 10) #[true, true, true, true, true, true, true, true, false] (any_of HT_.out (by kernel_rfl)) ?_
  refine puS (i := 8) (N := some 2) #[true, true, true, true, true, true, true, true, true] (any_of HT_.out (by kernel_rfl)) ?_
  refine done_ (done_of HT_.out (by kernel_rfl)) ?_
  try go_wp2
  go_ret
  exact ⟨EWW, BL⟩
def impl_at.f (a0 : Int) (a1 : Int) : Option (Bool) := if a0 ≥ 0 then (some (decide (a0 < a1))) else (some false)
set_option maxHeartbeats 8000000 in
set_option maxRecDepth 100000 in
theorem impl_at.calls (a0 : Int) (a1 : Int) (r : Bool) (w : World) (h : impl_at.f a0 a1 = some r) :
  Calls Try.prog 109 #[.int .i64 a0, .int .i64 a1] w fun e w' => e = .returned (.bool r) ∧ Drawn0 w w' := by
 have H : (if a0 ≥ 0 then (some (decide (a0 < a1))) else (some false)) = some r := h
 clear h
 replace H := Aside0.mk H
 go_enter Try.func109, Try.ntmps109
 replace H := H.out
 by_cases c3 : a0 ≥ 0
 ·rw [if_pos c3] at H
  have c3b0 : decide (0 ≤ a0) = true := decide_eq_true c3
  clear c3
  obtain rfl := Option.some.inj H
  try go_wp2
  go_ret
  exact ⟨by first | rfl | (simp; done) | (simp [*]; done), by repeat (first | exact Drawn0.refl _ | apply Drawn0.step)⟩
 ·rw [if_neg c3] at H
  have c3b0 : decide (0 ≤ a0) = false := decide_eq_false c3
  clear c3
  obtain rfl := Option.some.inj H
  try go_wp2
  go_ret
  exact ⟨by first | rfl | (simp; done) | (simp [*]; done), by repeat (first | exact Drawn0.refl _ | apply Drawn0.step)⟩
def impl_PartsOf.f (k : Nat) (a0_0 : Int) (a0_1 : Int) (a0_2 : ByteArray) : Option Int := (impl_IsGrid.f k a0_0 a0_1 a0_2).bind fun t => if t = true then HandForm.parts a0_0 a0_1 a0_2 k (Array.replicate a0_2.size false) 0 0 else some 0
theorem impl_PartsOf.grid (k : Nat) (R C : Int) (s : ByteArray) (h : impl_IsGrid.f k R C s = some true) : (2 ≤ R ∧ R ≤ 6) ∧ (2 ≤ C ∧ C ≤ 6) ∧ (s.size : Int) = R * C := by
 unfold impl_IsGrid.f at h
 obtain ⟨t1, h1, h⟩ := Option.bind_eq_some_iff.mp h
 have j : ∀ x, impl_IsGrid.j0 k x R C s = some true → x = false := by
  intro x hx
  cases k with
  | zero => simp [impl_IsGrid.j0] at hx
  | succ k => cases x with
   | false => rfl
   | true => simp [impl_IsGrid.j0] at hx
 cases t1 with
 | false =>
  rw [if_neg (by decide)] at h
  cases (j _ h)
 | true =>
  rw [if_pos rfl] at h
  obtain ⟨t2, h2, h⟩ := Option.bind_eq_some_iff.mp h
  cases t2 with
  | false =>
   rw [if_neg (by decide)] at h
   cases (j _ h)
  | true =>
   rw [if_pos rfl] at h
   have h3 := j _ h
   have ir : ∀ a, impl_InRange.f a 2 6 = some true → 2 ≤ a ∧ a ≤ 6 := by
    intro a ha
    unfold impl_InRange.f at ha
    split at ha
    ·rename_i x
     exact ⟨x, of_decide_eq_true (Option.some.inj ha)⟩
    ·cases ha
   obtain ⟨r0, r1⟩ := ir _ h1
   obtain ⟨c0, c1⟩ := ir _ h2
   have m1 : R * C ≤ 6 * 6 := Int.mul_le_mul (by omega) (by omega) (by omega) (by omega)
   have m2 : 0 ≤ R * C := Int.mul_nonneg (by omega) (by omega)
   have hw : wrap64 (R * C) = R * C := by unfold wrap64; omega
   rw [hw] at h3
   exact ⟨⟨r0, r1⟩, ⟨c0, c1⟩, by simpa using h3⟩
theorem impl_PartsOf.calls (k : Nat) (a0_0 : Int) (a0_1 : Int) (a0_2 : ByteArray) (r : Int) (w : World) (h : impl_PartsOf.f k a0_0 a0_1 a0_2 = some r) :
  Calls Try.prog 177 #[.agg #[.int .i64 a0_0, .int .i64 a0_1, .string a0_2]] w fun e w' => e = .returned (.int .i64 r) ∧ Below w.heap.size w w' := by
 obtain ⟨t, h1, h2⟩ := Option.bind_eq_some_iff.mp h
 exact HandForm.partsOf_u k a0_0 a0_1 a0_2 t r w (fun V => impl_IsGrid.calls k a0_0 a0_1 a0_2 t V h1) (fun e => impl_PartsOf.grid k _ _ _ (e ▸ h1)) h2
def impl_IsConnected.f (k : Nat) (a0_0 : Int) (a0_1 : Int) (a0_2 : ByteArray) : Option (Bool) := (impl_PartsOf.f k a0_0 a0_1 a0_2).bind fun t444 => (some (t444 == 1))
set_option maxHeartbeats 8000000 in
set_option maxRecDepth 100000 in
theorem impl_IsConnected.calls (k : Nat) (a0_0 : Int) (a0_1 : Int) (a0_2 : ByteArray) (r : Bool) (w : World) (h : impl_IsConnected.f k a0_0 a0_1 a0_2 = some r) :
  Calls Try.prog 140 #[.agg #[.int .i64 a0_0, .int .i64 a0_1, .string a0_2]] w fun e w' => e = .returned (.bool r) ∧ Below w.heap.size w w' := by
 have hu66 := Try.underlying66
 have HB := Aside0.mk (Below.refl w.heap.size w)
 have H : ((impl_PartsOf.f k a0_0 a0_1 a0_2).bind fun t444 => (some (t444 == 1))) = some r := h
 clear h
 replace H := be H; obtain ⟨t444, A2, H⟩ := H
 obtain rfl := Option.some.inj H
 go_enter Try.func140, Try.ntmps140
 go_wp2_with (first | ((with_reducible refine gate_dst (N := 1) rfl ?_); refine box_ev (N := 1) (cs := #[.int .i64 a0_0, .int .i64 a0_1, .string a0_2]) (t := 66) ?_; intro gb443 hg w3 hbox hb; have n0_ := BS (w := w) hb; have n1_ := Aside0.mk (hbox); have n2_ := SZ (w := w) hg; have n3_ := SZ (w := w) hg; clear HB; have HB := n0_; have BK443 := n1_; have GW443 := n2_; have GE443 := n3_; clear n0_ n1_ n2_ n3_; clear hb hbox hg; obtain ⟨hcz4_0, hcz4_1, hcz4_2, hfz4_0, hfz4_1, hfz4_2⟩ := cz3 BK443.out) | ((with_reducible refine gate_callee (f := 177) rfl ?_); refine goesS (some 4) Try.func177 #[.agg #[.int .i64 a0_0, .int .i64 a0_1, .string a0_2]] ?_; (with_reducible refine (impl_PartsOf.calls k a0_0 a0_1 a0_2 t444 _ A2.out).mono ?_); rintro e w5 ⟨rfl, hb⟩; refine ⟨_, rfl, ?_⟩; replace BK443 := KB BK443 hb; replace HB := BS (w := w) hb; (try clear hb)))
 go_ret
 exact ⟨EWW, BL⟩
end Go.Proofs.Ythjcicmmbmagbaa.PFnExactIsSolved
