/- Walks of functions: what each computes. -/
import Derived.Test.YthjcicmmbmagbaaZIsPuzzleP0
import Derived.Test.YthjcicmmbmagbaaZIsPuzzleP3
import Derived.Test.YthjcicmmbmagbaaZIsPuzzleP10
import Derived.Test.YthjcicmmbmagbaaZIsPuzzleP11
import Derived.Test.YthjcicmmbmagbaaZIsPuzzleP16
import Derived.Test.YthjcicmmbmagbaaZIsPuzzleP17
import Derived.Test.YthjcicmmbmagbaaZIsPuzzleW
import Derived.Test.YthjcicmmbmagbaaZIsPuzzleShelf
import Derived.Test.YthjcicmmbmagbaaZIsPuzzleHandSort
import Derived.Test.YthjcicmmbmagbaaZIsPuzzleHandForm
import Derived.Test.YthjcicmmbmagbaaZIsPuzzleHandAlone
import Derived.Test.YthjcicmmbmagbaaZIsPuzzleHandReach
namespace Go.Proofs.Ythjcicmmbmagbaa.PFnExactIsPuzzle
open Go.RowKit Go.Proofs.YthjcicmmbmagbaaW.PrintWords Go.Proofs.YthjcicmmbmagbaaW.PrintLast Go.Proofs.YthjcicmmbmagbaaW.PrintMore Go.Proofs.Ythjcicmmbmagbaa.Sq
attribute [local go_sem] max2_int min2_int max_two min_two max_three min_three max_four min_four
set_option linter.unusedVariables false
set_option linter.unusedSimpArgs false
def laws_FnExactIsPuzzle.f (k : Nat) (a0_0 : Int) (a0_1 : Int) (a0_2 : ByteArray) (l0_3 : List (S149)) (l0_4 : List Int) (a0_5 : Int) : Option (Bool) := (laws_szPuzzle.f k a0_0 a0_1 a0_2 l0_3 l0_4 a0_5 1048576).bind fun t468 => (if t468 < 0 then (some true) else ((laws_toPuzzle.f k a0_0 a0_1 a0_2 l0_3 l0_4 a0_5).bind fun bt469 => ((spec_IsPuzzle.f k bt469.1 bt469.2.1 bt469.2.2.1 bt469.2.2.2.1 bt469.2.2.2.2.1 bt469.2.2.2.2.2).bind fun t479 => ((laws_toPuzzle.f k a0_0 a0_1 a0_2 l0_3 l0_4 a0_5).bind fun bt480 => ((impl_IsPuzzle.f k bt480.1 bt480.2.1 bt480.2.2.1 bt480.2.2.2.1 bt480.2.2.2.2.1 bt480.2.2.2.2.2).bind fun t491 => (if (t491 != t479) = true then (some false) else ((laws_toPuzzle.f k a0_0 a0_1 a0_2 l0_3 l0_4 a0_5).bind fun bt492 => ((laws_eqPuzzle.f k bt480.1 bt480.2.1 bt480.2.2.1 bt480.2.2.2.1 bt480.2.2.2.2.1 bt480.2.2.2.2.2 bt492.1 bt492.2.1 bt492.2.2.1 bt492.2.2.2.1 bt492.2.2.2.2.1 bt492.2.2.2.2.2).bind fun t502 => (if t502 = true then (some true) else (some false))))))))))
set_option maxHeartbeats 8000000 in
set_option maxRecDepth 100000 in
theorem laws_FnExactIsPuzzle.calls (k : Nat) (a0_0 : Int) (a0_1 : Int) (a0_2 : ByteArray) (A0_3 : Option Addr) (c0_3 : Nat) (l0_3 : List (S149)) (A0_4 : Option Addr) (c0_4 : Nat) (l0_4 : List Int) (a0_5 : Int) (r : Bool) (w : World) (hr0_3 : Kd.C k149 w A0_3 l0_3.length l0_3) (hc0_3 : l0_3.length ≤ c0_3) (hr0_4 : Kd.C (Kd.int .i64) w A0_4 l0_4.length l0_4) (hc0_4 : l0_4.length ≤ c0_4) (h : laws_FnExactIsPuzzle.f k a0_0 a0_1 a0_2 l0_3 l0_4 a0_5 = some r) :
  Calls Try.prog 6 #[.agg #[.int .i64 a0_0, .int .i64 a0_1, .string a0_2, .slice A0_3 l0_3.length c0_3, .slice A0_4 l0_4.length c0_4, .int .i64 a0_5]] w fun e w' => e = .returned (.bool r) ∧ Below w.heap.size w w' := by
 have hu63 := Try.underlying63
 have hu69 := Try.underlying69
 have HR0_3 := Aside0.mk hr0_3
 have HC0_3 := Aside0.mk hc0_3
 clear hr0_3 hc0_3
 have HR0_4 := Aside0.mk hr0_4
 have HC0_4 := Aside0.mk hc0_4
 clear hr0_4 hc0_4
 have HB := Aside0.mk (Below.refl w.heap.size w)
 have H : ((laws_szPuzzle.f k a0_0 a0_1 a0_2 l0_3 l0_4 a0_5 1048576).bind fun t468 => (if t468 < 0 then (some true) else ((laws_toPuzzle.f k a0_0 a0_1 a0_2 l0_3 l0_4 a0_5).bind fun bt469 => ((spec_IsPuzzle.f k bt469.1 bt469.2.1 bt469.2.2.1 bt469.2.2.2.1 bt469.2.2.2.2.1 bt469.2.2.2.2.2).bind fun t479 => ((laws_toPuzzle.f k a0_0 a0_1 a0_2 l0_3 l0_4 a0_5).bind fun bt480 => ((impl_IsPuzzle.f k bt480.1 bt480.2.1 bt480.2.2.1 bt480.2.2.2.1 bt480.2.2.2.2.1 bt480.2.2.2.2.2).bind fun t491 => (if (t491 != t479) = true then (some false) else ((laws_toPuzzle.f k a0_0 a0_1 a0_2 l0_3 l0_4 a0_5).bind fun bt492 => ((laws_eqPuzzle.f k bt480.1 bt480.2.1 bt480.2.2.1 bt480.2.2.2.1 bt480.2.2.2.2.1 bt480.2.2.2.2.2 bt492.1 bt492.2.1 bt492.2.2.1 bt492.2.2.2.1 bt492.2.2.2.2.1 bt492.2.2.2.2.2).bind fun t502 => (if t502 = true then (some true) else (some false))))))))))) = some r := h
 clear h
 obtain ⟨t468, A2, H⟩ := be H
 replace H := Aside0.mk H
 go_enter Try.func6, Try.ntmps6
 go_wp2_with (first | ((with_reducible refine gate_dst (N := 1) rfl ?_); refine box_ev (N := 1) (cs := #[.int .i64 a0_0, .int .i64 a0_1, .string a0_2, .slice A0_3 l0_3.length c0_3, .slice A0_4 l0_4.length c0_4, .int .i64 a0_5]) (t := 63) ?_; intro gb467 hg w9000 hbox hb; have n0_ := BS (w := w) hb; have n1_ := Aside0.mk (hbox); have n2_ := SZ (w := w) hg; have n3_ := SZ (w := w) hg; clear HB; have HB := n0_; have BK467 := n1_; have GW467 := n2_; have GE467 := n3_; clear n0_ n1_ n2_ n3_; clear hb hbox hg; obtain ⟨hcz9001_0, hcz9001_1, hcz9001_2, hcz9001_3, hcz9001_4, hcz9001_5, hfz9001_0, hfz9001_1, hfz9001_2, hfz9001_3, hfz9001_4, hfz9001_5⟩ := cz6 BK467.out) | ((with_reducible refine gate_callee (f := 35) rfl ?_); refine goesS (some 9) Try.func35 #[.agg #[.int .i64 a0_0, .int .i64 a0_1, .string a0_2, .slice A0_3 l0_3.length c0_3, .slice A0_4 l0_4.length c0_4, .int .i64 a0_5], .int .i64 1048576] ?_; (with_reducible refine (laws_szPuzzle.calls k a0_0 a0_1 a0_2 _ _ l0_3 _ _ l0_4 a0_5 1048576 t468 _ ?side1 ?side2 ?side3 ?side4 A2.out).mono ?_); (case side1 => exact CB HR0_3); (case side2 => exact HC0_3.out); (case side3 => exact CB HR0_4); (case side4 => exact HC0_4.out); rintro e w9002 ⟨rfl, hb⟩; refine ⟨_, rfl, ?_⟩; replace BK467 := KB BK467 hb; replace HB := BS (w := w) hb; (try clear hb); obtain ⟨hcz9003_0, hcz9003_1, hcz9003_2, hcz9003_3, hcz9003_4, hcz9003_5, hfz9003_0, hfz9003_1, hfz9003_2, hfz9003_3, hfz9003_4, hfz9003_5⟩ := cz6 BK467.out; refine stop_ ?_))
 refine Hide.mk ?_
 replace H := H.out
 by_cases c3 : t468 < 0
 ·rw [if_pos c3] at H
  have c3b0 : decide (t468 < 0) = true := decide_eq_true c3
  clear c3
  obtain rfl := Option.some.inj H
  try go_wp2
  go_ret
  exact ⟨EWW, BL⟩
 ·rw [if_neg c3] at H
  have c3b0 : decide (t468 < 0) = false := decide_eq_false c3
  clear c3
  obtain ⟨⟨t469, t470, t471, t472, t475, t478⟩, A7, H⟩ := be H
  dsimp only at H
  obtain ⟨t479, A8, H⟩ := be H
  obtain ⟨⟨t480, t481, t482, t483, t486, t489⟩, A9, H⟩ := be H
  dsimp only at H
  obtain ⟨t491, A10, H⟩ := be H
  replace H := Aside0.mk H
  go_wp2_with (first | ((with_reducible refine gate_callee (f := 37) rfl ?_); refine goesS (some 13) Try.func37 #[.agg #[.int .i64 a0_0, .int .i64 a0_1, .string a0_2, .slice A0_3 l0_3.length c0_3, .slice A0_4 l0_4.length c0_4, .int .i64 a0_5]] ?_; (with_reducible refine (laws_toPuzzle.calls k a0_0 a0_1 a0_2 _ _ l0_3 _ _ l0_4 a0_5 t469 t470 t471 t472 t475 t478 _ ?side1 ?side2 ?side3 ?side4 A7.out).mono ?_); (case side1 => exact CB HR0_3); (case side2 => exact HC0_3.out); (case side3 => exact CB HR0_4); (case side4 => exact HC0_4.out); rintro e w9004 ⟨v473, v476, rfl, ho0, ho1, hb⟩; refine ⟨_, rfl, ?_⟩; have n0_ := Aside0.mk (Kd.S_lower ho0 (below_size BL)); have n1_ := Aside0.mk (Kd.R_lower ho1 (below_size BL)); replace BK467 := KB BK467 hb; replace HB := BS (w := w) hb; have HO474 := n0_; have HO477 := n1_; clear n0_ n1_; (try clear hb); (try clear ho0); (try clear ho1); obtain ⟨Ao9005, co9005, eo9005⟩ := Kd.S_slice HO474.out; subst eo9005; obtain ⟨Ao9006, co9006, eo9006⟩ := Kd.R_slice HO477.out; subst eo9006) | ((with_reducible refine gate_callee (f := 36) rfl ?_); refine goesS (some 14) Try.func36 #[.agg #[.int .i64 t469, .int .i64 t470, .string t471, .slice Ao9005 t472.length co9005, .slice Ao9006 t475.length co9006, .int .i64 t478]] ?_; (with_reducible refine (spec_IsPuzzle.calls k t469 t470 t471 _ _ t472 _ _ t475 t478 t479 _ ?side1 ?side2 ?side3 ?side4 A8.out).mono ?_); (case side1 => repeat (first | exact (Kd.S_reads' HO474.out).2.2 | (with_reducible refine Kd.C_alloc ?_ _) | (with_reducible refine Kd.C_drewN ?_ _) | (with_reducible refine Kd.C_drew ?_))); (case side2 => exact (Kd.S_reads' HO474.out).2.1); (case side3 => exact CR2 HO477); (case side4 => exact (Kd.R_reads' HO477.out).2.1); rintro e w9007 ⟨rfl, hb⟩; refine ⟨_, rfl, ?_⟩; have n0_ := Aside0.mk (Kd.S_below (SR HO474) hb); replace HO477 := RB HO477 hb; replace BK467 := KB BK467 hb; replace HB := BS (w := w) hb; clear HO474; have HO474 := n0_; clear n0_; (try clear hb); obtain ⟨hcz9008_0, hcz9008_1, hcz9008_2, hcz9008_3, hcz9008_4, hcz9008_5, hfz9008_0, hfz9008_1, hfz9008_2, hfz9008_3, hfz9008_4, hfz9008_5⟩ := cz6 BK467.out) | ((with_reducible refine gate_callee (f := 37) rfl ?_); refine goesS (some 16) Try.func37 #[.agg #[.int .i64 a0_0, .int .i64 a0_1, .string a0_2, .slice A0_3 l0_3.length c0_3, .slice A0_4 l0_4.length c0_4, .int .i64 a0_5]] ?_; (with_reducible refine (laws_toPuzzle.calls k a0_0 a0_1 a0_2 _ _ l0_3 _ _ l0_4 a0_5 t480 t481 t482 t483 t486 t489 _ ?side1 ?side2 ?side3 ?side4 A9.out).mono ?_); (case side1 => exact CB HR0_3); (case side2 => exact HC0_3.out); (case side3 => exact CB HR0_4); (case side4 => exact HC0_4.out); rintro e w9009 ⟨v484, v487, rfl, ho0, ho1, hb⟩; refine ⟨_, rfl, ?_⟩; have n0_ := Aside0.mk (Kd.S_elder' (SR HO474) (Kd.S_base ho0) hb); have n1_ := Aside0.mk (Kd.R_elder' (RR HO477) (Kd.R_base ho1) hb); have n2_ := Aside0.mk (Kd.S_lower (Kd.S_new' ho0 (Kd.S_lt (SR HO474))) (below_size BL)); have n3_ := Aside0.mk (Kd.R_lower (Kd.R_new' ho1 (Kd.R_lt (RR HO477))) (below_size BL)); replace BK467 := KB BK467 hb; replace HB := BS (w := w) hb; clear HO474 HO477; have HO474 := n0_; have HO477 := n1_; have HO485 := n2_; have HO488 := n3_; clear n0_ n1_ n2_ n3_; (try clear hb); (try clear ho0); (try clear ho1)) | ((with_reducible refine gate_dst (N := 5) rfl ?_); refine box_ev (N := 5) (cs := #[.int .i64 0, .int .i64 0, .string (⟨#[]⟩ : ByteArray), .slice none 0 0, .slice none 0 0, .int .i64 0]) (t := 69) ?_; intro gb490 hg w9010 hbox hb; have n0_ := Aside0.mk (Kd.S_below (SR HO474) hb); have n1_ := RB HO477 hb; have n2_ := Aside0.mk (Kd.S_below (SR HO485) hb); have n3_ := RB HO488 hb; have n4_ := KB BK467 hb; have n5_ := BS (w := w) hb; have n6_ := Aside0.mk (hbox); have n7_ := SZ (w := w) hg; have n8_ := SZ (w := w) hg; have n9_ := NL BK467 hg; have n10_ := NG BK467 hg; clear HO474 HO477 HO485 HO488 BK467 HB; have HO474 := n0_; have HO477 := n1_; have HO485 := n2_; have HO488 := n3_; have BK467 := n4_; have HB := n5_; have BK490 := n6_; have GW490 := n7_; have GE490 := n8_; have NB467_490 := n9_; have NB490_467 := n10_; clear n0_ n1_ n2_ n3_ n4_ n5_ n6_ n7_ n8_ n9_ n10_; clear hb hbox hg; have hnb9011 := NB490_467.out; have hnc9011 := NB467_490.out; obtain ⟨hcz9012_0, hcz9012_1, hcz9012_2, hcz9012_3, hcz9012_4, hcz9012_5, hfz9012_0, hfz9012_1, hfz9012_2, hfz9012_3, hfz9012_4, hfz9012_5⟩ := cz6 BK490.out; obtain ⟨Ao9013, co9013, eo9013⟩ := Kd.S_slice HO485.out; subst eo9013; obtain ⟨Ao9014, co9014, eo9014⟩ := Kd.R_slice HO488.out; subst eo9014) | ((with_reducible refine gate_callee (f := 38) rfl ?_); refine goesS (some 18) Try.func38 #[.agg #[.int .i64 t480, .int .i64 t481, .string t482, .slice Ao9013 t483.length co9013, .slice Ao9014 t486.length co9014, .int .i64 t489]] ?_; (with_reducible refine (impl_IsPuzzle.calls k t480 t481 t482 _ _ t483 _ _ t486 t489 t491 _ ?side1 ?side2 ?side3 ?side4 A10.out).mono ?_); (case side1 => refine (Kd.S_reads' (e := 116) (base := w.heap.size) (ok := fun k_ => (True ∧ some k_ ≠ (.slice Ao9005 t472.length co9005 : Value).ownBlock)) (n := t483.length) (c := co9013) ?_).2.2; exact (by (with_reducible repeat (first | apply Kd.S_alloc | apply Kd.S_drewN | apply Kd.S_drew)); exact (Kd.S_mono (Kd.S_far (p := ⟨gb490, 5, none⟩) (Kd.S_far (p := ⟨gb490, 4, none⟩) (Kd.S_far (p := ⟨gb490, 3, none⟩) (Kd.S_far (p := ⟨gb490, 2, none⟩) (Kd.S_far (p := ⟨gb490, 1, none⟩) (Kd.S_far (p := ⟨gb490, 0, none⟩) (Kd.S_types HO485.out BK490.out (by decide)) (fun _ hk => hk.2) (.int .i64 t480)) (fun _ hk => hk.2) (.int .i64 t481)) (fun _ hk => hk.2) (.string t482)) (fun _ hk => hk.2) (.slice Ao9013 t483.length co9013)) (fun _ hk => hk.2) (.slice Ao9014 t486.length co9014)) (fun _ hk => hk.2) (.int .i64 t489)) (fun _ h_ => h_.1)))); (case side2 => exact (Kd.S_reads' HO485.out).2.1); (case side3 => refine (Kd.R_reads' (e := 3) (base := w.heap.size) (ok := fun k_ => (True ∧ some k_ ≠ (.slice Ao9006 t475.length co9006 : Value).ownBlock)) (n := t486.length) (c := co9014) ?_).2.2; exact (by (with_reducible repeat (first | apply Kd.R_alloc | apply Kd.R_drewN | apply Kd.R_drew)); exact (Kd.R_mono (Kd.R_far (p := ⟨gb490, 5, none⟩) (Kd.R_far (p := ⟨gb490, 4, none⟩) (Kd.R_far (p := ⟨gb490, 3, none⟩) (Kd.R_far (p := ⟨gb490, 2, none⟩) (Kd.R_far (p := ⟨gb490, 1, none⟩) (Kd.R_far (p := ⟨gb490, 0, none⟩) (Kd.R_types HO488.out BK490.out (by decide)) (fun _ hk => hk.2) (.int .i64 t480)) (fun _ hk => hk.2) (.int .i64 t481)) (fun _ hk => hk.2) (.string t482)) (fun _ hk => hk.2) (.slice Ao9013 t483.length co9013)) (fun _ hk => hk.2) (.slice Ao9014 t486.length co9014)) (fun _ hk => hk.2) (.int .i64 t489)) (fun _ h_ => h_.1)))); (case side4 => exact (Kd.R_reads' HO488.out).2.1); rintro e w9015 ⟨rfl, hb⟩; refine ⟨_, rfl, ?_⟩; have n0_ := Aside0.mk (Kd.S_below (by (with_reducible repeat (first | apply Kd.S_alloc | apply Kd.S_drewN | apply Kd.S_drew)); exact (Kd.S_mono (Kd.S_far (p := ⟨gb490, 5, none⟩) (Kd.S_far (p := ⟨gb490, 4, none⟩) (Kd.S_far (p := ⟨gb490, 3, none⟩) (Kd.S_far (p := ⟨gb490, 2, none⟩) (Kd.S_far (p := ⟨gb490, 1, none⟩) (Kd.S_far (p := ⟨gb490, 0, none⟩) (Kd.S_types HO474.out BK490.out (by decide)) (fun _ hk => hk.2) (.int .i64 t480)) (fun _ hk => hk.2) (.int .i64 t481)) (fun _ hk => hk.2) (.string t482)) (fun _ hk => hk.2) (.slice Ao9013 t483.length co9013)) (fun _ hk => hk.2) (.slice Ao9014 t486.length co9014)) (fun _ hk => hk.2) (.int .i64 t489)) (fun _ h_ => h_.1))) hb); have n1_ := Aside0.mk (Kd.R_below (by (with_reducible repeat (first | apply Kd.R_alloc | apply Kd.R_drewN | apply Kd.R_drew)); exact (Kd.R_mono (Kd.R_far (p := ⟨gb490, 5, none⟩) (Kd.R_far (p := ⟨gb490, 4, none⟩) (Kd.R_far (p := ⟨gb490, 3, none⟩) (Kd.R_far (p := ⟨gb490, 2, none⟩) (Kd.R_far (p := ⟨gb490, 1, none⟩) (Kd.R_far (p := ⟨gb490, 0, none⟩) (Kd.R_types HO477.out BK490.out (by decide)) (fun _ hk => hk.2) (.int .i64 t480)) (fun _ hk => hk.2) (.int .i64 t481)) (fun _ hk => hk.2) (.string t482)) (fun _ hk => hk.2) (.slice Ao9013 t483.length co9013)) (fun _ hk => hk.2) (.slice Ao9014 t486.length co9014)) (fun _ hk => hk.2) (.int .i64 t489)) (fun _ h_ => h_.1))) hb); have n2_ := Aside0.mk (Kd.S_below (by (with_reducible repeat (first | apply Kd.S_alloc | apply Kd.S_drewN | apply Kd.S_drew)); exact (Kd.S_mono (Kd.S_far (p := ⟨gb490, 5, none⟩) (Kd.S_far (p := ⟨gb490, 4, none⟩) (Kd.S_far (p := ⟨gb490, 3, none⟩) (Kd.S_far (p := ⟨gb490, 2, none⟩) (Kd.S_far (p := ⟨gb490, 1, none⟩) (Kd.S_far (p := ⟨gb490, 0, none⟩) (Kd.S_types HO485.out BK490.out (by decide)) (fun _ hk => hk.2) (.int .i64 t480)) (fun _ hk => hk.2) (.int .i64 t481)) (fun _ hk => hk.2) (.string t482)) (fun _ hk => hk.2) (.slice Ao9013 t483.length co9013)) (fun _ hk => hk.2) (.slice Ao9014 t486.length co9014)) (fun _ hk => hk.2) (.int .i64 t489)) (fun _ h_ => h_.1))) hb); have n3_ := Aside0.mk (Kd.R_below (by (with_reducible repeat (first | apply Kd.R_alloc | apply Kd.R_drewN | apply Kd.R_drew)); exact (Kd.R_mono (Kd.R_far (p := ⟨gb490, 5, none⟩) (Kd.R_far (p := ⟨gb490, 4, none⟩) (Kd.R_far (p := ⟨gb490, 3, none⟩) (Kd.R_far (p := ⟨gb490, 2, none⟩) (Kd.R_far (p := ⟨gb490, 1, none⟩) (Kd.R_far (p := ⟨gb490, 0, none⟩) (Kd.R_types HO488.out BK490.out (by decide)) (fun _ hk => hk.2) (.int .i64 t480)) (fun _ hk => hk.2) (.int .i64 t481)) (fun _ hk => hk.2) (.string t482)) (fun _ hk => hk.2) (.slice Ao9013 t483.length co9013)) (fun _ hk => hk.2) (.slice Ao9014 t486.length co9014)) (fun _ hk => hk.2) (.int .i64 t489)) (fun _ h_ => h_.1))) hb); have n4_ := Aside0.mk (blk_below (g := gb467) (o := .cells #[.int .i64 a0_0, .int .i64 a0_1, .string a0_2, .slice A0_3 l0_3.length c0_3, .slice A0_4 l0_4.length c0_4, .int .i64 a0_5] 63 (0, 0)) (by (with_reducible repeat (first | refine blk_drewN ?_ _ | refine blk_drew ?_ | refine blk_alloc ?_ _)); refine blk_far ?_ NB467_490.out _; (with_reducible repeat (first | refine blk_drewN ?_ _ | refine blk_drew ?_ | refine blk_alloc ?_ _)); refine blk_far ?_ NB467_490.out _; (with_reducible repeat (first | refine blk_drewN ?_ _ | refine blk_drew ?_ | refine blk_alloc ?_ _)); refine blk_far ?_ NB467_490.out _; (with_reducible repeat (first | refine blk_drewN ?_ _ | refine blk_drew ?_ | refine blk_alloc ?_ _)); refine blk_far ?_ NB467_490.out _; (with_reducible repeat (first | refine blk_drewN ?_ _ | refine blk_drew ?_ | refine blk_alloc ?_ _)); refine blk_far ?_ NB467_490.out _; (with_reducible repeat (first | refine blk_drewN ?_ _ | refine blk_drew ?_ | refine blk_alloc ?_ _)); refine blk_far ?_ NB467_490.out _; (with_reducible repeat (first | refine blk_drewN ?_ _ | refine blk_drew ?_ | refine blk_alloc ?_ _)); exact BK467.out) hb); have n5_ := Aside0.mk (blk_below (g := gb490) (o := .cells #[.int .i64 t480, .int .i64 t481, .string t482, .slice Ao9013 t483.length co9013, .slice Ao9014 t486.length co9014, .int .i64 t489] 69 (0, 0)) (by (with_reducible repeat (first | refine blk_drewN ?_ _ | refine blk_drew ?_ | refine blk_alloc ?_ _)); refine blk_put (cs := #[.int .i64 t480, .int .i64 t481, .string t482, .slice Ao9013 t483.length co9013, .slice Ao9014 t486.length co9014, .int .i64 0]) ?_ 5 _ rfl; (with_reducible repeat (first | refine blk_drewN ?_ _ | refine blk_drew ?_ | refine blk_alloc ?_ _)); refine blk_put (cs := #[.int .i64 t480, .int .i64 t481, .string t482, .slice Ao9013 t483.length co9013, .slice none 0 0, .int .i64 0]) ?_ 4 _ rfl; (with_reducible repeat (first | refine blk_drewN ?_ _ | refine blk_drew ?_ | refine blk_alloc ?_ _)); refine blk_put (cs := #[.int .i64 t480, .int .i64 t481, .string t482, .slice none 0 0, .slice none 0 0, .int .i64 0]) ?_ 3 _ rfl; (with_reducible repeat (first | refine blk_drewN ?_ _ | refine blk_drew ?_ | refine blk_alloc ?_ _)); refine blk_put (cs := #[.int .i64 t480, .int .i64 t481, .string (⟨#[]⟩ : ByteArray), .slice none 0 0, .slice none 0 0, .int .i64 0]) ?_ 2 _ rfl; (with_reducible repeat (first | refine blk_drewN ?_ _ | refine blk_drew ?_ | refine blk_alloc ?_ _)); refine blk_put (cs := #[.int .i64 t480, .int .i64 0, .string (⟨#[]⟩ : ByteArray), .slice none 0 0, .slice none 0 0, .int .i64 0]) ?_ 1 _ rfl; (with_reducible repeat (first | refine blk_drewN ?_ _ | refine blk_drew ?_ | refine blk_alloc ?_ _)); refine blk_put (cs := #[.int .i64 0, .int .i64 0, .string (⟨#[]⟩ : ByteArray), .slice none 0 0, .slice none 0 0, .int .i64 0]) ?_ 0 _ rfl; (with_reducible repeat (first | refine blk_drewN ?_ _ | refine blk_drew ?_ | refine blk_alloc ?_ _)); exact BK490.out) hb); replace HB := BS (w := w) hb; clear HO474 HO477 HO485 HO488 BK467 BK490; have HO474 := n0_; have HO477 := n1_; have HO485 := n2_; have HO488 := n3_; have BK467 := n4_; have BK490 := n5_; clear n0_ n1_ n2_ n3_ n4_ n5_; (try clear hb); (try clear hk); refine stop_ ?_))
  refine Hide.mk ?_
  replace H := H.out
  by_cases c11 : (t491 != t479) = true
  ·rw [if_pos c11] at H
   have c11b0 : (t491 != t479) = true := c11
   (try (have c11b1 : decide (t491 = t479) = false := by simpa using c11))
   (try (have c11b2 : (t491 == t479) = false := by simpa using c11))
   (try (have c11b3 : ¬ (t491 = t479) := by simpa using c11))
   clear c11
   obtain rfl := Option.some.inj H
   try go_wp2
   go_ret
   exact ⟨EWW, BL⟩
  ·rw [if_neg c11] at H
   have c11b0 : (t491 != t479) = false := by simpa using c11
   (try (have c11b1 : decide (t491 = t479) = true := by simpa using c11))
   (try (have c11b2 : (t491 == t479) = true := by simpa using c11))
   clear c11
   obtain ⟨⟨t492, t493, t494, t495, t498, t501⟩, A28, H⟩ := be H
   dsimp only at H
   obtain ⟨t502, A29, H⟩ := be H
   replace H := Aside0.mk H
   try go_wp2
   have n0_ := Aside0.mk (Kd.S_drew HO474.out)
   have n1_ := Aside0.mk (Kd.R_drew HO477.out)
   have n2_ := Aside0.mk (Kd.S_drew HO485.out)
   have n3_ := Aside0.mk (Kd.R_drew HO488.out)
   have n4_ := Aside0.mk (blk_drew BK467.out)
   have n5_ := Aside0.mk (blk_drew BK490.out)
   have n6_ := Aside0.mk (below_drew1 HB.out)
   clear HO474
   clear HO477
   clear HO485
   clear HO488
   clear BK467
   clear BK490
   clear HB
   have HO474 := n0_
   have HO477 := n1_
   have HO485 := n2_
   have HO488 := n3_
   have BK467 := n4_
   have BK490 := n5_
   have HB := n6_
   clear n0_ n1_ n2_ n3_ n4_ n5_ n6_
   refine start_ (n := 5) (S := fun w' => w'.cell? ⟨gb490, 0, none⟩ = some (.int .i64 t480) ∧ w'.cell? ⟨gb490, 1, none⟩ = some (.int .i64 t481) ∧ w'.cell? ⟨gb490, 2, none⟩ = some (.string t482) ∧ w'.cell? ⟨gb490, 3, none⟩ = some (.slice Ao9013 t483.length co9013) ∧ w'.cell? ⟨gb490, 4, none⟩ = some (.slice Ao9014 t486.length co9014) ∧ w'.cell? ⟨gb490, 5, none⟩ = some (.int .i64 t489) ∧ w'.cell? ⟨gb467, 0, none⟩ = some (.int .i64 a0_0) ∧ w'.cell? ⟨gb467, 1, none⟩ = some (.int .i64 a0_1) ∧ w'.cell? ⟨gb467, 2, none⟩ = some (.string a0_2) ∧ w'.cell? ⟨gb467, 3, none⟩ = some (.slice A0_3 l0_3.length c0_3) ∧ w'.cell? ⟨gb467, 4, none⟩ = some (.slice A0_4 l0_4.length c0_4) ∧ w'.cell? ⟨gb467, 5, none⟩ = some (.int .i64 a0_5)) (ds := []) #[false, false, false, false, false] (by kernel_rfl) rfl rfl ⟨(blk_cell BK490.out 0).trans rfl, (blk_cell BK490.out 1).trans rfl, (blk_cell BK490.out 2).trans rfl, (blk_cell BK490.out 3).trans rfl, (blk_cell BK490.out 4).trans rfl, (blk_cell BK490.out 5).trans rfl, (blk_cell BK467.out 0).trans rfl, (blk_cell BK467.out 1).trans rfl, (blk_cell BK467.out 2).trans rfl, (blk_cell BK467.out 3).trans rfl, (blk_cell BK467.out 4).trans rfl, (blk_cell BK467.out 5).trans rfl⟩ (fun hHeld => ?_)
   generalize w9015.drew = w9016 at HO474 HO477 HO485 HO488 BK467 BK490 HB hHeld ⊢
   refine take_ (i := 0) (N := some 22) (v := ?_) (a' := ?_) #[true, false, false, false, false] rfl rfl (by kernel_rfl) (fun _ _ _ h => h) (Or.inl ⟨by rfl, ?_⟩) hHeld ?_ ?_
   rotate_left
   ·rintro w' ⟨s0, s1, s2, s3, s4, s5, s6, s7, s8, s9, s10, s11⟩
    go_simp
    with_reducible rfl
   rotate_left
   ·simp only [Act.put, PT, i64_w, i32_w]
    rfl
   refine take_ (i := 1) (N := some 23) (v := ?_) (a' := ?_) #[true, true, false, false, false] rfl rfl (by kernel_rfl) (fun _ _ _ h => h) (Or.inl ⟨by rfl, ?_⟩) hHeld ?_ ?_
   rotate_left
   ·rintro w' ⟨s0, s1, s2, s3, s4, s5, s6, s7, s8, s9, s10, s11⟩
    go_simp
    with_reducible rfl
   rotate_left
   ·simp only [Act.put, PT, i64_w, i32_w]
    rfl
   refine one_ (i := 2) (N := some 24) #[true, true, true, false, false] rfl rfl (by kernel_rfl) (by decide) (fun K hK => ?_)
   refine goes_ Try.func37 (by kernel_rfl) rfl #[.agg #[.int .i64 a0_0, .int .i64 a0_1, .string a0_2, .slice A0_3 l0_3.length c0_3, .slice A0_4 l0_4.length c0_4, .int .i64 a0_5]] (by rfl) rfl rfl (by (try simp only [List.map_toArray, List.map_cons, List.map_nil]); first | done | rfl | (simp only [List.length_drop, List.length_take]; rfl)) ?_
   with_reducible refine (laws_toPuzzle.calls k a0_0 a0_1 a0_2 _ _ l0_3 _ _ l0_4 a0_5 t492 t493 t494 t495 t498 t501 _ ?side1 ?side2 ?side3 ?side4 A28.out).mono ?_
   (case side1 => exact CB HR0_3)
   (case side2 => exact HC0_3.out)
   (case side3 => exact CB HR0_4)
   (case side4 => exact HC0_4.out)
   rintro e w9017 ⟨v496, v499, rfl, ho0, ho1, hb⟩
   refine ⟨_, rfl, ?_⟩
   have n0_ := Aside0.mk (Kd.S_elder' (SR HO474) (Kd.S_base ho0) hb)
   have n1_ := Aside0.mk (Kd.R_elder' (RR HO477) (Kd.R_base ho1) hb)
   have n2_ := Aside0.mk (Kd.S_elder' (SR HO485) (Kd.S_base ho0) hb)
   have n3_ := Aside0.mk (Kd.R_elder' (RR HO488) (Kd.R_base ho1) hb)
   have n4_ := Aside0.mk (Kd.S_lower (Kd.S_new' (Kd.S_new' ho0 (Kd.S_lt (SR HO474))) (Kd.S_lt (SR HO485))) (below_size BL))
   have n5_ := Aside0.mk (Kd.R_lower (Kd.R_new' (Kd.R_new' ho1 (Kd.R_lt (RR HO477))) (Kd.R_lt (RR HO488))) (below_size BL))
   have n6_ := KB BK467 hb
   have n7_ := KB BK490 hb
   have n8_ := BS (w := w) hb
   clear HO474
   clear HO477
   clear HO485
   clear HO488
   clear BK467
   clear BK490
   clear HB
   have HO474 := n0_
   have HO477 := n1_
   have HO485 := n2_
   have HO488 := n3_
   have HO497 := n4_
   have HO500 := n5_
   have BK467 := n6_
   have BK490 := n7_
   have HB := n8_
   clear n0_ n1_ n2_ n3_ n4_ n5_ n6_ n7_ n8_
   (try clear hb)
   (try clear hb2)
   (try clear hk)
   (try clear hi)
   (try clear ho0)
   (try clear ho1)
   obtain ⟨Ao9018, co9018, eo9018⟩ := Kd.S_slice HO497.out
   (first | subst eo9018 | (injection eo9018 with f1_ f2_ f3_; have f4_ := f1_.symm; have f5_ := f3_.symm; clear f1_ f2_ f3_; subst f4_; subst f5_))
   obtain ⟨Ao9019, co9019, eo9019⟩ := Kd.R_slice HO500.out
   (first | subst eo9019 | (injection eo9019 with f1_ f2_ f3_; have f4_ := f1_.symm; have f5_ := f3_.symm; clear f1_ f2_ f3_; subst f4_; subst f5_))
   refine hK.out _ _ ⟨(blk_cell BK490.out 0).trans rfl, (blk_cell BK490.out 1).trans rfl, (blk_cell BK490.out 2).trans rfl, (blk_cell BK490.out 3).trans rfl, (blk_cell BK490.out 4).trans rfl, (blk_cell BK490.out 5).trans rfl, (blk_cell BK467.out 0).trans rfl, (blk_cell BK467.out 1).trans rfl, (blk_cell BK467.out 2).trans rfl, (blk_cell BK467.out 3).trans rfl, (blk_cell BK467.out 4).trans rfl, (blk_cell BK467.out 5).trans rfl⟩ (fun hHeld => ?_)
   clear hK K
   refine norm_ (a' := ?_) ?_ ?_
   rotate_left
   ·show Act.put _ (some 24) _ = _
    simp only [Act.put, PT, i64_w, i32_w]
    rfl
   refine one_ (i := 3) (N := some 25) #[true, true, true, true, false] rfl rfl (by kernel_rfl) (by decide) (fun K hK => ?_)
   refine goes_ Try.func39 (by kernel_rfl) rfl #[.agg #[.int .i64 t480, .int .i64 t481, .string t482, .slice Ao9013 t483.length co9013, .slice Ao9014 t486.length co9014, .int .i64 t489], .agg #[.int .i64 t492, .int .i64 t493, .string t494, .slice Ao9018 t495.length co9018, .slice Ao9019 t498.length co9019, .int .i64 t501]] (by rfl) rfl rfl (by (try simp only [List.map_toArray, List.map_cons, List.map_nil]); first | done | rfl | (simp only [List.length_drop, List.length_take]; rfl)) ?_
   with_reducible refine (laws_eqPuzzle.calls k t480 t481 t482 _ _ t483 _ _ t486 t489 t492 t493 t494 _ _ t495 _ _ t498 t501 _ _ ?side1 ?side2 ?side3 ?side4 ?side5 ?side6 ?side7 ?side8 A29.out).mono ?_
   (case side1 => repeat (first | exact (Kd.S_reads' HO485.out).2.2 | (with_reducible refine Kd.C_alloc ?_ _) | (with_reducible refine Kd.C_drewN ?_ _) | (with_reducible refine Kd.C_drew ?_)))
   (case side2 => exact (Kd.S_reads' HO485.out).2.1)
   (case side3 => exact CR2 HO488)
   (case side4 => exact (Kd.R_reads' HO488.out).2.1)
   (case side5 => repeat (first | exact (Kd.S_reads' HO497.out).2.2 | (with_reducible refine Kd.C_alloc ?_ _) | (with_reducible refine Kd.C_drewN ?_ _) | (with_reducible refine Kd.C_drew ?_)))
   (case side6 => exact (Kd.S_reads' HO497.out).2.1)
   (case side7 => exact CR2 HO500)
   (case side8 => exact (Kd.R_reads' HO500.out).2.1)
   rintro e w9020 ⟨rfl, hb⟩
   refine ⟨_, rfl, ?_⟩
   have n0_ := Aside0.mk (Kd.S_below (SR HO474) hb)
   have n1_ := RB HO477 hb
   have n2_ := Aside0.mk (Kd.S_below (SR HO485) hb)
   have n3_ := RB HO488 hb
   have n4_ := Aside0.mk (Kd.S_below (SR HO497) hb)
   have n5_ := RB HO500 hb
   have n6_ := KB BK467 hb
   have n7_ := KB BK490 hb
   have n8_ := BS (w := w) hb
   clear HO474
   clear HO477
   clear HO485
   clear HO488
   clear HO497
   clear HO500
   clear BK467
   clear BK490
   clear HB
   have HO474 := n0_
   have HO477 := n1_
   have HO485 := n2_
   have HO488 := n3_
   have HO497 := n4_
   have HO500 := n5_
   have BK467 := n6_
   have BK490 := n7_
   have HB := n8_
   clear n0_ n1_ n2_ n3_ n4_ n5_ n6_ n7_ n8_
   (try clear hb)
   (try clear hb2)
   (try clear hk)
   (try clear hi)
   refine hK.out _ _ ⟨(blk_cell BK490.out 0).trans rfl, (blk_cell BK490.out 1).trans rfl, (blk_cell BK490.out 2).trans rfl, (blk_cell BK490.out 3).trans rfl, (blk_cell BK490.out 4).trans rfl, (blk_cell BK490.out 5).trans rfl, (blk_cell BK467.out 0).trans rfl, (blk_cell BK467.out 1).trans rfl, (blk_cell BK467.out 2).trans rfl, (blk_cell BK467.out 3).trans rfl, (blk_cell BK467.out 4).trans rfl, (blk_cell BK467.out 5).trans rfl⟩ (fun hHeld => ?_)
   clear hK K
   refine norm_ (a' := ?_) ?_ ?_
   rotate_left
   ·show Act.put _ (some 25) _ = _
    simp only [Act.put, PT, i64_w, i32_w]
    rfl
   replace H := H.out
   by_cases c30 : t502 = true
   ·subst c30
    rw [if_pos rfl] at H
    obtain rfl := Option.some.inj H
    refine puS (i := 4) (N := some 26) #[true, true, true, true, true] (by kernel_rfl) ?_
    refine done_ (by kernel_rfl) ?_
    try go_wp2
    go_ret
    exact ⟨EWW, BL⟩
   ·replace c30 := Bool.eq_false_iff.mpr c30
    subst c30
    rw [if_neg Bool.false_ne_true] at H
    obtain rfl := Option.some.inj H
    refine puS (i := 4) (N := some 26) #[true, true, true, true, true] (by kernel_rfl) ?_
    refine done_ (by kernel_rfl) ?_
    try go_wp2
    go_ret
    exact ⟨EWW, BL⟩
end Go.Proofs.Ythjcicmmbmagbaa.PFnExactIsPuzzle
