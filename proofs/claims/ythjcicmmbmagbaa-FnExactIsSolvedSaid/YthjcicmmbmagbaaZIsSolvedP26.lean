/- Walks of functions: what each computes. -/
import Derived.Test.YthjcicmmbmagbaaZIsSolvedP0
import Derived.Test.YthjcicmmbmagbaaZIsSolvedP3
import Derived.Test.YthjcicmmbmagbaaZIsSolvedP5
import Derived.Test.YthjcicmmbmagbaaZIsSolvedP17
import Derived.Test.YthjcicmmbmagbaaZIsSolvedP25
import Derived.Test.YthjcicmmbmagbaaZIsSolvedW
import Derived.Test.YthjcicmmbmagbaaZIsSolvedShelf
import Derived.Test.YthjcicmmbmagbaaZIsSolvedHandSort
import Derived.Test.YthjcicmmbmagbaaZIsSolvedHandForm
import Derived.Test.YthjcicmmbmagbaaZIsSolvedHandAlone
import Derived.Test.YthjcicmmbmagbaaZIsSolvedHandReach
namespace Go.Proofs.Ythjcicmmbmagbaa.PFnExactIsSolved
open Go.RowKit Go.Proofs.YthjcicmmbmagbaaW.PrintWords Go.Proofs.YthjcicmmbmagbaaW.PrintLast Go.Proofs.YthjcicmmbmagbaaW.PrintMore Go.Proofs.Ythjcicmmbmagbaa.Sq
attribute [local go_sem] max2_int min2_int max_two min_two max_three min_three max_four min_four
set_option linter.unusedVariables false
set_option linter.unusedSimpArgs false
def laws_FnExactIsSolved.f (k : Nat) (a0_0 : Int) (a0_1 : Int) (a0_2 : ByteArray) (l0_3 : List (S149)) (l0_4 : List Int) (a0_5 : Int) (a1 : ByteArray) : Option (Bool) := if (a1.size : Int) > 1048576 then (some true) else ((laws_szPuzzle.f k a0_0 a0_1 a0_2 l0_3 l0_4 a0_5 1048576).bind fun t584 => (if t584 < 0 then (some true) else ((laws_toPuzzle.f k a0_0 a0_1 a0_2 l0_3 l0_4 a0_5).bind fun bt585 => ((spec_IsSolved.f k bt585.1 bt585.2.1 bt585.2.2.1 bt585.2.2.2.1 bt585.2.2.2.2.1 bt585.2.2.2.2.2 a1).bind fun t595 => ((laws_toPuzzle.f k a0_0 a0_1 a0_2 l0_3 l0_4 a0_5).bind fun bt596 => ((impl_IsSolved.f k bt596.1 bt596.2.1 bt596.2.2.1 bt596.2.2.2.1 bt596.2.2.2.2.1 bt596.2.2.2.2.2 a1).bind fun t607 => (if (t607 != t595) = true then (some false) else ((laws_toPuzzle.f k a0_0 a0_1 a0_2 l0_3 l0_4 a0_5).bind fun bt608 => ((laws_eqPuzzle.f k bt596.1 bt596.2.1 bt596.2.2.1 bt596.2.2.2.1 bt596.2.2.2.2.1 bt596.2.2.2.2.2 bt608.1 bt608.2.1 bt608.2.2.1 bt608.2.2.2.1 bt608.2.2.2.2.1 bt608.2.2.2.2.2).bind fun t618 => (if t618 = true then (some true) else (some false)))))))))))
set_option maxHeartbeats 8000000 in
set_option maxRecDepth 100000 in
theorem laws_FnExactIsSolved.calls (k : Nat) (a0_0 : Int) (a0_1 : Int) (a0_2 : ByteArray) (A0_3 : Option Addr) (c0_3 : Nat) (l0_3 : List (S149)) (A0_4 : Option Addr) (c0_4 : Nat) (l0_4 : List Int) (a0_5 : Int) (a1 : ByteArray) (r : Bool) (w : World) (hr0_3 : Kd.C k149 w A0_3 l0_3.length l0_3) (hc0_3 : l0_3.length ≤ c0_3) (hr0_4 : Kd.C (Kd.int .i64) w A0_4 l0_4.length l0_4) (hc0_4 : l0_4.length ≤ c0_4) (h : laws_FnExactIsSolved.f k a0_0 a0_1 a0_2 l0_3 l0_4 a0_5 a1 = some r) :
  Calls Try.prog 8 #[.agg #[.int .i64 a0_0, .int .i64 a0_1, .string a0_2, .slice A0_3 l0_3.length c0_3, .slice A0_4 l0_4.length c0_4, .int .i64 a0_5], .string a1] w fun e w' => e = .returned (.bool r) ∧ Below w.heap.size w w' := by
 have hu63 := Try.underlying63
 have hu69 := Try.underlying69
 have HR0_3 := Aside0.mk hr0_3
 have HC0_3 := Aside0.mk hc0_3
 clear hr0_3 hc0_3
 have HR0_4 := Aside0.mk hr0_4
 have HC0_4 := Aside0.mk hc0_4
 clear hr0_4 hc0_4
 have HB := Aside0.mk (Below.refl w.heap.size w)
 have H : (if (a1.size : Int) > 1048576 then (some true) else ((laws_szPuzzle.f k a0_0 a0_1 a0_2 l0_3 l0_4 a0_5 1048576).bind fun t584 => (if t584 < 0 then (some true) else ((laws_toPuzzle.f k a0_0 a0_1 a0_2 l0_3 l0_4 a0_5).bind fun bt585 => ((spec_IsSolved.f k bt585.1 bt585.2.1 bt585.2.2.1 bt585.2.2.2.1 bt585.2.2.2.2.1 bt585.2.2.2.2.2 a1).bind fun t595 => ((laws_toPuzzle.f k a0_0 a0_1 a0_2 l0_3 l0_4 a0_5).bind fun bt596 => ((impl_IsSolved.f k bt596.1 bt596.2.1 bt596.2.2.1 bt596.2.2.2.1 bt596.2.2.2.2.1 bt596.2.2.2.2.2 a1).bind fun t607 => (if (t607 != t595) = true then (some false) else ((laws_toPuzzle.f k a0_0 a0_1 a0_2 l0_3 l0_4 a0_5).bind fun bt608 => ((laws_eqPuzzle.f k bt596.1 bt596.2.1 bt596.2.2.1 bt596.2.2.2.1 bt596.2.2.2.2.1 bt596.2.2.2.2.2 bt608.1 bt608.2.1 bt608.2.2.1 bt608.2.2.2.1 bt608.2.2.2.2.1 bt608.2.2.2.2.2).bind fun t618 => (if t618 = true then (some true) else (some false)))))))))))) = some r := h
 clear h
 replace H := Aside0.mk H
 go_enter Try.func8, Try.ntmps8
 go_wp2_with (first | ((with_reducible refine gate_dst (N := 2) rfl ?_); refine box_ev (N := 2) (cs := #[.int .i64 a0_0, .int .i64 a0_1, .string a0_2, .slice A0_3 l0_3.length c0_3, .slice A0_4 l0_4.length c0_4, .int .i64 a0_5]) (t := 63) ?_; intro gb583 hg w9000 hbox hb; have n0_ := BS (w := w) hb; have n1_ := Aside0.mk (hbox); have n2_ := SZ (w := w) hg; have n3_ := SZ (w := w) hg; clear HB; have HB := n0_; have BK583 := n1_; have GW583 := n2_; have GE583 := n3_; clear n0_ n1_ n2_ n3_; clear hb hbox hg; obtain ⟨hcz9001_0, hcz9001_1, hcz9001_2, hcz9001_3, hcz9001_4, hcz9001_5, hfz9001_0, hfz9001_1, hfz9001_2, hfz9001_3, hfz9001_4, hfz9001_5⟩ := cz6 BK583.out; refine stop_ ?_))
 refine Hide.mk ?_
 replace H := H.out
 by_cases c3 : (a1.size : Int) > 1048576
 ·rw [if_pos c3] at H
  have c3b0 : decide (1048576 < (a1.size : Int)) = true := decide_eq_true c3
  have c3b1 : decide (1048576 < a1.size) = true := decide_eq_true (by omega)
  clear c3
  obtain rfl := Option.some.inj H
  try go_wp2
  go_ret
  exact ⟨EWW, BL⟩
 ·rw [if_neg c3] at H
  have c3b0 : decide (1048576 < (a1.size : Int)) = false := decide_eq_false c3
  have c3b1 : decide (1048576 < a1.size) = false := decide_eq_false (by omega)
  clear c3
  replace H := be H; obtain ⟨t584, A5, H⟩ := H
  replace H := Aside0.mk H
  go_wp2_with (first | ((with_reducible refine gate_callee (f := 35) rfl ?_); refine goesS (some 14) Try.func35 #[.agg #[.int .i64 a0_0, .int .i64 a0_1, .string a0_2, .slice A0_3 l0_3.length c0_3, .slice A0_4 l0_4.length c0_4, .int .i64 a0_5], .int .i64 1048576] ?_; (with_reducible refine (laws_szPuzzle.calls k a0_0 a0_1 a0_2 _ _ l0_3 _ _ l0_4 a0_5 1048576 t584 _ ?side1 ?side2 ?side3 ?side4 A5.out).mono ?_); (case side1 => exact CB HR0_3); (case side2 => exact HC0_3.out); (case side3 => exact CB HR0_4); (case side4 => exact HC0_4.out); rintro e w9002 ⟨rfl, hb⟩; refine ⟨_, rfl, ?_⟩; replace BK583 := KB BK583 hb; replace HB := BS (w := w) hb; (try clear hb); obtain ⟨hcz9003_0, hcz9003_1, hcz9003_2, hcz9003_3, hcz9003_4, hcz9003_5, hfz9003_0, hfz9003_1, hfz9003_2, hfz9003_3, hfz9003_4, hfz9003_5⟩ := cz6 BK583.out; refine stop_ ?_))
  refine Hide.mk ?_
  replace H := H.out
  replace H := ifD H; rcases H with ⟨c6b0, H⟩ | ⟨c6b0, H⟩
  ·obtain rfl := Option.some.inj H
   try go_wp2
   go_ret
   exact ⟨EWW, BL⟩
  ·replace H := be H; obtain ⟨⟨t585, t586, t587, t588, t591, t594⟩, A10, H⟩ := H
   dsimp only at H
   replace H := be H; obtain ⟨t595, A11, H⟩ := H
   replace H := be H; obtain ⟨⟨t596, t597, t598, t599, t602, t605⟩, A12, H⟩ := H
   dsimp only at H
   replace H := be H; obtain ⟨t607, A13, H⟩ := H
   replace H := Aside0.mk H
   go_wp2_with (first | ((with_reducible refine gate_callee (f := 37) rfl ?_); refine goesS (some 18) Try.func37 #[.agg #[.int .i64 a0_0, .int .i64 a0_1, .string a0_2, .slice A0_3 l0_3.length c0_3, .slice A0_4 l0_4.length c0_4, .int .i64 a0_5]] ?_; (with_reducible refine (laws_toPuzzle.calls k a0_0 a0_1 a0_2 _ _ l0_3 _ _ l0_4 a0_5 t585 t586 t587 t588 t591 t594 _ ?side1 ?side2 ?side3 ?side4 A10.out).mono ?_); (case side1 => exact CB HR0_3); (case side2 => exact HC0_3.out); (case side3 => exact CB HR0_4); (case side4 => exact HC0_4.out); rintro e w9004 ⟨v589, v592, rfl, ho0, ho1, hb⟩; refine ⟨_, rfl, ?_⟩; have n0_ := Aside0.mk (Kd.S_lower ho0 (below_size BL)); have n1_ := Aside0.mk (Kd.R_lower ho1 (below_size BL)); replace BK583 := KB BK583 hb; replace HB := BS (w := w) hb; have HO590 := n0_; have HO593 := n1_; clear n0_ n1_; (try clear hb); (try clear ho0); (try clear ho1); obtain ⟨Ao9005, co9005, eo9005⟩ := Kd.S_slice HO590.out; subst eo9005; obtain ⟨Ao9006, co9006, eo9006⟩ := Kd.R_slice HO593.out; subst eo9006) | ((with_reducible refine gate_callee (f := 42) rfl ?_); refine goesS (some 20) Try.func42 #[.agg #[.int .i64 t585, .int .i64 t586, .string t587, .slice Ao9005 t588.length co9005, .slice Ao9006 t591.length co9006, .int .i64 t594], .string a1] ?_; (with_reducible refine (spec_IsSolved.calls k t585 t586 t587 _ _ t588 _ _ t591 t594 a1 t595 _ ?side1 ?side2 ?side3 ?side4 A11.out).mono ?_); (case side1 => repeat (first | exact (Kd.S_reads' HO590.out).2.2 | (with_reducible refine Kd.C_alloc ?_ _) | (with_reducible refine Kd.C_drewN ?_ _) | (with_reducible refine Kd.C_drew ?_))); (case side2 => exact (Kd.S_reads' HO590.out).2.1); (case side3 => exact CR2 HO593); (case side4 => exact (Kd.R_reads' HO593.out).2.1); rintro e w9007 ⟨rfl, hb⟩; refine ⟨_, rfl, ?_⟩; have n0_ := Aside0.mk (Kd.S_below (SR HO590) hb); replace HO593 := RB HO593 hb; replace BK583 := KB BK583 hb; replace HB := BS (w := w) hb; clear HO590; have HO590 := n0_; clear n0_; (try clear hb); obtain ⟨hcz9008_0, hcz9008_1, hcz9008_2, hcz9008_3, hcz9008_4, hcz9008_5, hfz9008_0, hfz9008_1, hfz9008_2, hfz9008_3, hfz9008_4, hfz9008_5⟩ := cz6 BK583.out) | ((with_reducible refine gate_callee (f := 37) rfl ?_); refine goesS (some 22) Try.func37 #[.agg #[.int .i64 a0_0, .int .i64 a0_1, .string a0_2, .slice A0_3 l0_3.length c0_3, .slice A0_4 l0_4.length c0_4, .int .i64 a0_5]] ?_; (with_reducible refine (laws_toPuzzle.calls k a0_0 a0_1 a0_2 _ _ l0_3 _ _ l0_4 a0_5 t596 t597 t598 t599 t602 t605 _ ?side1 ?side2 ?side3 ?side4 A12.out).mono ?_); (case side1 => exact CB HR0_3); (case side2 => exact HC0_3.out); (case side3 => exact CB HR0_4); (case side4 => exact HC0_4.out); rintro e w9009 ⟨v600, v603, rfl, ho0, ho1, hb⟩; refine ⟨_, rfl, ?_⟩; have n0_ := Aside0.mk (Kd.S_elder' (SR HO590) (Kd.S_base ho0) hb); have n1_ := Aside0.mk (Kd.R_elder' (RR HO593) (Kd.R_base ho1) hb); have n2_ := Aside0.mk (Kd.S_lower (Kd.S_new' ho0 (Kd.S_lt (SR HO590))) (below_size BL)); have n3_ := Aside0.mk (Kd.R_lower (Kd.R_new' ho1 (Kd.R_lt (RR HO593))) (below_size BL)); replace BK583 := KB BK583 hb; replace HB := BS (w := w) hb; clear HO590 HO593; have HO590 := n0_; have HO593 := n1_; have HO601 := n2_; have HO604 := n3_; clear n0_ n1_ n2_ n3_; (try clear hb); (try clear ho0); (try clear ho1)) | ((with_reducible refine gate_dst (N := 7) rfl ?_); refine box_ev (N := 7) (cs := #[.int .i64 0, .int .i64 0, .string (⟨#[]⟩ : ByteArray), .slice none 0 0, .slice none 0 0, .int .i64 0]) (t := 69) ?_; intro gb606 hg w9010 hbox hb; have n0_ := Aside0.mk (Kd.S_below (SR HO590) hb); have n1_ := RB HO593 hb; have n2_ := Aside0.mk (Kd.S_below (SR HO601) hb); have n3_ := RB HO604 hb; have n4_ := KB BK583 hb; have n5_ := BS (w := w) hb; have n6_ := Aside0.mk (hbox); have n7_ := SZ (w := w) hg; have n8_ := SZ (w := w) hg; have n9_ := NL BK583 hg; have n10_ := NG BK583 hg; clear HO590 HO593 HO601 HO604 BK583 HB; have HO590 := n0_; have HO593 := n1_; have HO601 := n2_; have HO604 := n3_; have BK583 := n4_; have HB := n5_; have BK606 := n6_; have GW606 := n7_; have GE606 := n8_; have NB583_606 := n9_; have NB606_583 := n10_; clear n0_ n1_ n2_ n3_ n4_ n5_ n6_ n7_ n8_ n9_ n10_; clear hb hbox hg; have hnb9011 := NB606_583.out; have hnc9011 := NB583_606.out; obtain ⟨hcz9012_0, hcz9012_1, hcz9012_2, hcz9012_3, hcz9012_4, hcz9012_5, hfz9012_0, hfz9012_1, hfz9012_2, hfz9012_3, hfz9012_4, hfz9012_5⟩ := cz6 BK606.out; obtain ⟨Ao9013, co9013, eo9013⟩ := Kd.S_slice HO601.out; subst eo9013; obtain ⟨Ao9014, co9014, eo9014⟩ := Kd.R_slice HO604.out; subst eo9014) | ((with_reducible refine gate_callee (f := 43) rfl ?_); refine goesS (some 25) Try.func43 #[.agg #[.int .i64 t596, .int .i64 t597, .string t598, .slice Ao9013 t599.length co9013, .slice Ao9014 t602.length co9014, .int .i64 t605], .string a1] ?_; (with_reducible refine (impl_IsSolved.calls k t596 t597 t598 _ _ t599 _ _ t602 t605 a1 t607 _ ?side1 ?side2 ?side3 ?side4 A13.out).mono ?_); (case side1 => refine (Kd.S_reads' (e := 116) (base := w.heap.size) (ok := fun k_ => (True ∧ some k_ ≠ (.slice Ao9005 t588.length co9005 : Value).ownBlock)) (n := t599.length) (c := co9013) ?_).2.2; exact (by (with_reducible repeat (first | apply Kd.S_alloc | apply Kd.S_drewN | apply Kd.S_drew)); exact (Kd.S_mono (Kd.S_far (p := ⟨gb606, 5, none⟩) (Kd.S_far (p := ⟨gb606, 4, none⟩) (Kd.S_far (p := ⟨gb606, 3, none⟩) (Kd.S_far (p := ⟨gb606, 2, none⟩) (Kd.S_far (p := ⟨gb606, 1, none⟩) (Kd.S_far (p := ⟨gb606, 0, none⟩) (Kd.S_types HO601.out BK606.out (by decide)) (fun _ hk => hk.2) (.int .i64 t596)) (fun _ hk => hk.2) (.int .i64 t597)) (fun _ hk => hk.2) (.string t598)) (fun _ hk => hk.2) (.slice Ao9013 t599.length co9013)) (fun _ hk => hk.2) (.slice Ao9014 t602.length co9014)) (fun _ hk => hk.2) (.int .i64 t605)) (fun _ h_ => h_.1)))); (case side2 => exact (Kd.S_reads' HO601.out).2.1); (case side3 => refine (Kd.R_reads' (e := 3) (base := w.heap.size) (ok := fun k_ => (True ∧ some k_ ≠ (.slice Ao9006 t591.length co9006 : Value).ownBlock)) (n := t602.length) (c := co9014) ?_).2.2; exact (by (with_reducible repeat (first | apply Kd.R_alloc | apply Kd.R_drewN | apply Kd.R_drew)); exact (Kd.R_mono (Kd.R_far (p := ⟨gb606, 5, none⟩) (Kd.R_far (p := ⟨gb606, 4, none⟩) (Kd.R_far (p := ⟨gb606, 3, none⟩) (Kd.R_far (p := ⟨gb606, 2, none⟩) (Kd.R_far (p := ⟨gb606, 1, none⟩) (Kd.R_far (p := ⟨gb606, 0, none⟩) (Kd.R_types HO604.out BK606.out (by decide)) (fun _ hk => hk.2) (.int .i64 t596)) (fun _ hk => hk.2) (.int .i64 t597)) (fun _ hk => hk.2) (.string t598)) (fun _ hk => hk.2) (.slice Ao9013 t599.length co9013)) (fun _ hk => hk.2) (.slice Ao9014 t602.length co9014)) (fun _ hk => hk.2) (.int .i64 t605)) (fun _ h_ => h_.1)))); (case side4 => exact (Kd.R_reads' HO604.out).2.1); rintro e w9015 ⟨rfl, hb⟩; refine ⟨_, rfl, ?_⟩; have n0_ := Aside0.mk (Kd.S_below (by (with_reducible repeat (first | apply Kd.S_alloc | apply Kd.S_drewN | apply Kd.S_drew)); exact (Kd.S_mono (Kd.S_far (p := ⟨gb606, 5, none⟩) (Kd.S_far (p := ⟨gb606, 4, none⟩) (Kd.S_far (p := ⟨gb606, 3, none⟩) (Kd.S_far (p := ⟨gb606, 2, none⟩) (Kd.S_far (p := ⟨gb606, 1, none⟩) (Kd.S_far (p := ⟨gb606, 0, none⟩) (Kd.S_types HO590.out BK606.out (by decide)) (fun _ hk => hk.2) (.int .i64 t596)) (fun _ hk => hk.2) (.int .i64 t597)) (fun _ hk => hk.2) (.string t598)) (fun _ hk => hk.2) (.slice Ao9013 t599.length co9013)) (fun _ hk => hk.2) (.slice Ao9014 t602.length co9014)) (fun _ hk => hk.2) (.int .i64 t605)) (fun _ h_ => h_.1))) hb); have n1_ := Aside0.mk (Kd.R_below (by (with_reducible repeat (first | apply Kd.R_alloc | apply Kd.R_drewN | apply Kd.R_drew)); exact (Kd.R_mono (Kd.R_far (p := ⟨gb606, 5, none⟩) (Kd.R_far (p := ⟨gb606, 4, none⟩) (Kd.R_far (p := ⟨gb606, 3, none⟩) (Kd.R_far (p := ⟨gb606, 2, none⟩) (Kd.R_far (p := ⟨gb606, 1, none⟩) (Kd.R_far (p := ⟨gb606, 0, none⟩) (Kd.R_types HO593.out BK606.out (by decide)) (fun _ hk => hk.2) (.int .i64 t596)) (fun _ hk => hk.2) (.int .i64 t597)) (fun _ hk => hk.2) (.string t598)) (fun _ hk => hk.2) (.slice Ao9013 t599.length co9013)) (fun _ hk => hk.2) (.slice Ao9014 t602.length co9014)) (fun _ hk => hk.2) (.int .i64 t605)) (fun _ h_ => h_.1))) hb); have n2_ := Aside0.mk (Kd.S_below (by (with_reducible repeat (first | apply Kd.S_alloc | apply Kd.S_drewN | apply Kd.S_drew)); exact (Kd.S_mono (Kd.S_far (p := ⟨gb606, 5, none⟩) (Kd.S_far (p := ⟨gb606, 4, none⟩) (Kd.S_far (p := ⟨gb606, 3, none⟩) (Kd.S_far (p := ⟨gb606, 2, none⟩) (Kd.S_far (p := ⟨gb606, 1, none⟩) (Kd.S_far (p := ⟨gb606, 0, none⟩) (Kd.S_types HO601.out BK606.out (by decide)) (fun _ hk => hk.2) (.int .i64 t596)) (fun _ hk => hk.2) (.int .i64 t597)) (fun _ hk => hk.2) (.string t598)) (fun _ hk => hk.2) (.slice Ao9013 t599.length co9013)) (fun _ hk => hk.2) (.slice Ao9014 t602.length co9014)) (fun _ hk => hk.2) (.int .i64 t605)) (fun _ h_ => h_.1))) hb); have n3_ := Aside0.mk (Kd.R_below (by (with_reducible repeat (first | apply Kd.R_alloc | apply Kd.R_drewN | apply Kd.R_drew)); exact (Kd.R_mono (Kd.R_far (p := ⟨gb606, 5, none⟩) (Kd.R_far (p := ⟨gb606, 4, none⟩) (Kd.R_far (p := ⟨gb606, 3, none⟩) (Kd.R_far (p := ⟨gb606, 2, none⟩) (Kd.R_far (p := ⟨gb606, 1, none⟩) (Kd.R_far (p := ⟨gb606, 0, none⟩) (Kd.R_types HO604.out BK606.out (by decide)) (fun _ hk => hk.2) (.int .i64 t596)) (fun _ hk => hk.2) (.int .i64 t597)) (fun _ hk => hk.2) (.string t598)) (fun _ hk => hk.2) (.slice Ao9013 t599.length co9013)) (fun _ hk => hk.2) (.slice Ao9014 t602.length co9014)) (fun _ hk => hk.2) (.int .i64 t605)) (fun _ h_ => h_.1))) hb); have n4_ := Aside0.mk (blk_below (g := gb583) (o := .cells #[.int .i64 a0_0, .int .i64 a0_1, .string a0_2, .slice A0_3 l0_3.length c0_3, .slice A0_4 l0_4.length c0_4, .int .i64 a0_5] 63 (0, 0)) (by (with_reducible repeat (first | refine blk_drewN ?_ _ | refine blk_drew ?_ | refine blk_alloc ?_ _)); refine blk_far ?_ NB583_606.out _; (with_reducible repeat (first | refine blk_drewN ?_ _ | refine blk_drew ?_ | refine blk_alloc ?_ _)); refine blk_far ?_ NB583_606.out _; (with_reducible repeat (first | refine blk_drewN ?_ _ | refine blk_drew ?_ | refine blk_alloc ?_ _)); refine blk_far ?_ NB583_606.out _; (with_reducible repeat (first | refine blk_drewN ?_ _ | refine blk_drew ?_ | refine blk_alloc ?_ _)); refine blk_far ?_ NB583_606.out _; (with_reducible repeat (first | refine blk_drewN ?_ _ | refine blk_drew ?_ | refine blk_alloc ?_ _)); refine blk_far ?_ NB583_606.out _; (with_reducible repeat (first | refine blk_drewN ?_ _ | refine blk_drew ?_ | refine blk_alloc ?_ _)); refine blk_far ?_ NB583_606.out _; (with_reducible repeat (first | refine blk_drewN ?_ _ | refine blk_drew ?_ | refine blk_alloc ?_ _)); exact BK583.out) hb); have n5_ := Aside0.mk (blk_below (g := gb606) (o := .cells #[.int .i64 t596, .int .i64 t597, .string t598, .slice Ao9013 t599.length co9013, .slice Ao9014 t602.length co9014, .int .i64 t605] 69 (0, 0)) (by (with_reducible repeat (first | refine blk_drewN ?_ _ | refine blk_drew ?_ | refine blk_alloc ?_ _)); refine blk_put (cs := #[.int .i64 t596, .int .i64 t597, .string t598, .slice Ao9013 t599.length co9013, .slice Ao9014 t602.length co9014, .int .i64 0]) ?_ 5 _ rfl; (with_reducible repeat (first | refine blk_drewN ?_ _ | refine blk_drew ?_ | refine blk_alloc ?_ _)); refine blk_put (cs := #[.int .i64 t596, .int .i64 t597, .string t598, .slice Ao9013 t599.length co9013, .slice none 0 0, .int .i64 0]) ?_ 4 _ rfl; (with_reducible repeat (first | refine blk_drewN ?_ _ | refine blk_drew ?_ | refine blk_alloc ?_ _)); refine blk_put (cs := #[.int .i64 t596, .int .i64 t597, .string t598, .slice none 0 0, .slice none 0 0, .int .i64 0]) ?_ 3 _ rfl; (with_reducible repeat (first | refine blk_drewN ?_ _ | refine blk_drew ?_ | refine blk_alloc ?_ _)); refine blk_put (cs := #[.int .i64 t596, .int .i64 t597, .string (⟨#[]⟩ : ByteArray), .slice none 0 0, .slice none 0 0, .int .i64 0]) ?_ 2 _ rfl; (with_reducible repeat (first | refine blk_drewN ?_ _ | refine blk_drew ?_ | refine blk_alloc ?_ _)); refine blk_put (cs := #[.int .i64 t596, .int .i64 0, .string (⟨#[]⟩ : ByteArray), .slice none 0 0, .slice none 0 0, .int .i64 0]) ?_ 1 _ rfl; (with_reducible repeat (first | refine blk_drewN ?_ _ | refine blk_drew ?_ | refine blk_alloc ?_ _)); refine blk_put (cs := #[.int .i64 0, .int .i64 0, .string (⟨#[]⟩ : ByteArray), .slice none 0 0, .slice none 0 0, .int .i64 0]) ?_ 0 _ rfl; (with_reducible repeat (first | refine blk_drewN ?_ _ | refine blk_drew ?_ | refine blk_alloc ?_ _)); exact BK606.out) hb); replace HB := BS (w := w) hb; clear HO590 HO593 HO601 HO604 BK583 BK606; have HO590 := n0_; have HO593 := n1_; have HO601 := n2_; have HO604 := n3_; have BK583 := n4_; have BK606 := n5_; clear n0_ n1_ n2_ n3_ n4_ n5_; (try clear hb); (try clear hk); refine stop_ ?_))
   refine Hide.mk ?_
   replace H := H.out
   by_cases c14 : (t607 != t595) = true
   ·rw [if_pos c14] at H
    have c14b0 : (t607 != t595) = true := c14
    (try (have c14b1 : decide (t607 = t595) = false := by simpa using c14))
    (try (have c14b2 : (t607 == t595) = false := by simpa using c14))
    (try (have c14b3 : ¬ (t607 = t595) := by simpa using c14))
    clear c14
    obtain rfl := Option.some.inj H
    try go_wp2
    go_ret
    exact ⟨EWW, BL⟩
   ·rw [if_neg c14] at H
    have c14b0 : (t607 != t595) = false := by simpa using c14
    (try (have c14b1 : decide (t607 = t595) = true := by simpa using c14))
    (try (have c14b2 : (t607 == t595) = true := by simpa using c14))
    clear c14
    replace H := be H; obtain ⟨⟨t608, t609, t610, t611, t614, t617⟩, A31, H⟩ := H
    dsimp only at H
    replace H := be H; obtain ⟨t618, A32, H⟩ := H
    replace H := Aside0.mk H
    try go_wp2
    have n0_ := Aside0.mk (Kd.S_drew HO590.out)
    have n1_ := Aside0.mk (Kd.R_drew HO593.out)
    have n2_ := Aside0.mk (Kd.S_drew HO601.out)
    have n3_ := Aside0.mk (Kd.R_drew HO604.out)
    have n4_ := Aside0.mk (blk_drew BK583.out)
    have n5_ := Aside0.mk (blk_drew BK606.out)
    have n6_ := Aside0.mk (below_drew1 HB.out)
    clear HO590
    clear HO593
    clear HO601
    clear HO604
    clear BK583
    clear BK606
    clear HB
    have HO590 := n0_
    have HO593 := n1_
    have HO601 := n2_
    have HO604 := n3_
    have BK583 := n4_
    have BK606 := n5_
    have HB := n6_
    clear n0_ n1_ n2_ n3_ n4_ n5_ n6_
    refine start_ (n := 5) (S := fun w' => w'.cell? ⟨gb606, 0, none⟩ = some (.int .i64 t596) ∧ w'.cell? ⟨gb606, 1, none⟩ = some (.int .i64 t597) ∧ w'.cell? ⟨gb606, 2, none⟩ = some (.string t598) ∧ w'.cell? ⟨gb606, 3, none⟩ = some (.slice Ao9013 t599.length co9013) ∧ w'.cell? ⟨gb606, 4, none⟩ = some (.slice Ao9014 t602.length co9014) ∧ w'.cell? ⟨gb606, 5, none⟩ = some (.int .i64 t605) ∧ w'.cell? ⟨gb583, 0, none⟩ = some (.int .i64 a0_0) ∧ w'.cell? ⟨gb583, 1, none⟩ = some (.int .i64 a0_1) ∧ w'.cell? ⟨gb583, 2, none⟩ = some (.string a0_2) ∧ w'.cell? ⟨gb583, 3, none⟩ = some (.slice A0_3 l0_3.length c0_3) ∧ w'.cell? ⟨gb583, 4, none⟩ = some (.slice A0_4 l0_4.length c0_4) ∧ w'.cell? ⟨gb583, 5, none⟩ = some (.int .i64 a0_5)) (ds := []) #[false, false, false, false, false] (by kernel_rfl) rfl rfl ⟨(blk_cell BK606.out 0).trans rfl, (blk_cell BK606.out 1).trans rfl, (blk_cell BK606.out 2).trans rfl, (blk_cell BK606.out 3).trans rfl, (blk_cell BK606.out 4).trans rfl, (blk_cell BK606.out 5).trans rfl, (blk_cell BK583.out 0).trans rfl, (blk_cell BK583.out 1).trans rfl, (blk_cell BK583.out 2).trans rfl, (blk_cell BK583.out 3).trans rfl, (blk_cell BK583.out 4).trans rfl, (blk_cell BK583.out 5).trans rfl⟩ (fun hHeld => ?_)
    generalize w9015.drew = w9016 at HO590 HO593 HO601 HO604 BK583 BK606 HB hHeld ⊢
    refine taS (i := 0) (N := some 29) #[true, false, false, false, false] (by kernel_rfl) hHeld ?_
    refine taS (i := 1) (N := some 30) #[true, true, false, false, false] (by kernel_rfl) hHeld ?_
    refine one_ (i := 2) (N := some 31) #[true, true, true, false, false] rfl rfl (by kernel_rfl) (by decide) (fun K hK => ?_)
    refine goesR Try.func37 #[.agg #[.int .i64 a0_0, .int .i64 a0_1, .string a0_2, .slice A0_3 l0_3.length c0_3, .slice A0_4 l0_4.length c0_4, .int .i64 a0_5]] ?_
    with_reducible refine (laws_toPuzzle.calls k a0_0 a0_1 a0_2 _ _ l0_3 _ _ l0_4 a0_5 t608 t609 t610 t611 t614 t617 _ ?side1 ?side2 ?side3 ?side4 A31.out).mono ?_
    (case side1 => exact CB HR0_3)
    (case side2 => exact HC0_3.out)
    (case side3 => exact CB HR0_4)
    (case side4 => exact HC0_4.out)
    rintro e w9017 ⟨v612, v615, rfl, ho0, ho1, hb⟩
    refine ⟨_, rfl, ?_⟩
    have n0_ := Aside0.mk (Kd.S_elder' (SR HO590) (Kd.S_base ho0) hb)
    have n1_ := Aside0.mk (Kd.R_elder' (RR HO593) (Kd.R_base ho1) hb)
    have n2_ := Aside0.mk (Kd.S_elder' (SR HO601) (Kd.S_base ho0) hb)
    have n3_ := Aside0.mk (Kd.R_elder' (RR HO604) (Kd.R_base ho1) hb)
    have n4_ := Aside0.mk (Kd.S_lower (Kd.S_new' (Kd.S_new' ho0 (Kd.S_lt (SR HO590))) (Kd.S_lt (SR HO601))) (below_size BL))
    have n5_ := Aside0.mk (Kd.R_lower (Kd.R_new' (Kd.R_new' ho1 (Kd.R_lt (RR HO593))) (Kd.R_lt (RR HO604))) (below_size BL))
    have n6_ := KB BK583 hb
    have n7_ := KB BK606 hb
    have n8_ := BS (w := w) hb
    clear HO590
    clear HO593
    clear HO601
    clear HO604
    clear BK583
    clear BK606
    clear HB
    have HO590 := n0_
    have HO593 := n1_
    have HO601 := n2_
    have HO604 := n3_
    have HO613 := n4_
    have HO616 := n5_
    have BK583 := n6_
    have BK606 := n7_
    have HB := n8_
    clear n0_ n1_ n2_ n3_ n4_ n5_ n6_ n7_ n8_
    (try clear hb)
    (try clear ho0)
    (try clear ho1)
    obtain ⟨Ao9018, co9018, eo9018⟩ := Kd.S_slice HO613.out
    (first | subst eo9018 | (injection eo9018 with f1_ f2_ f3_; have f4_ := f1_.symm; have f5_ := f3_.symm; clear f1_ f2_ f3_; subst f4_; subst f5_))
    obtain ⟨Ao9019, co9019, eo9019⟩ := Kd.R_slice HO616.out
    (first | subst eo9019 | (injection eo9019 with f1_ f2_ f3_; have f4_ := f1_.symm; have f5_ := f3_.symm; clear f1_ f2_ f3_; subst f4_; subst f5_))
    refine hK.out _ _ ⟨(blk_cell BK606.out 0).trans rfl, (blk_cell BK606.out 1).trans rfl, (blk_cell BK606.out 2).trans rfl, (blk_cell BK606.out 3).trans rfl, (blk_cell BK606.out 4).trans rfl, (blk_cell BK606.out 5).trans rfl, (blk_cell BK583.out 0).trans rfl, (blk_cell BK583.out 1).trans rfl, (blk_cell BK583.out 2).trans rfl, (blk_cell BK583.out 3).trans rfl, (blk_cell BK583.out 4).trans rfl, (blk_cell BK583.out 5).trans rfl⟩ (fun hHeld => ?_)
    clear hK K
    refine nrm (some 31) ?_
    refine one_ (i := 3) (N := some 32) #[true, true, true, true, false] rfl rfl (by kernel_rfl) (by decide) (fun K hK => ?_)
    refine goesR Try.func39 #[.agg #[.int .i64 t596, .int .i64 t597, .string t598, .slice Ao9013 t599.length co9013, .slice Ao9014 t602.length co9014, .int .i64 t605], .agg #[.int .i64 t608, .int .i64 t609, .string t610, .slice Ao9018 t611.length co9018, .slice Ao9019 t614.length co9019, .int .i64 t617]] ?_
    with_reducible refine (laws_eqPuzzle.calls k t596 t597 t598 _ _ t599 _ _ t602 t605 t608 t609 t610 _ _ t611 _ _ t614 t617 _ _ ?side1 ?side2 ?side3 ?side4 ?side5 ?side6 ?side7 ?side8 A32.out).mono ?_
    (case side1 => repeat (first | exact (Kd.S_reads' HO601.out).2.2 | (with_reducible refine Kd.C_alloc ?_ _) | (with_reducible refine Kd.C_drewN ?_ _) | (with_reducible refine Kd.C_drew ?_)))
    (case side2 => exact (Kd.S_reads' HO601.out).2.1)
    (case side3 => exact CR2 HO604)
    (case side4 => exact (Kd.R_reads' HO604.out).2.1)
    (case side5 => repeat (first | exact (Kd.S_reads' HO613.out).2.2 | (with_reducible refine Kd.C_alloc ?_ _) | (with_reducible refine Kd.C_drewN ?_ _) | (with_reducible refine Kd.C_drew ?_)))
    (case side6 => exact (Kd.S_reads' HO613.out).2.1)
    (case side7 => exact CR2 HO616)
    (case side8 => exact (Kd.R_reads' HO616.out).2.1)
    rintro e w9020 ⟨rfl, hb⟩
    refine ⟨_, rfl, ?_⟩
    have n0_ := Aside0.mk (Kd.S_below (SR HO590) hb)
    have n1_ := RB HO593 hb
    have n2_ := Aside0.mk (Kd.S_below (SR HO601) hb)
    have n3_ := RB HO604 hb
    have n4_ := Aside0.mk (Kd.S_below (SR HO613) hb)
    have n5_ := RB HO616 hb
    have n6_ := KB BK583 hb
    have n7_ := KB BK606 hb
    have n8_ := BS (w := w) hb
    clear HO590
    clear HO593
    clear HO601
    clear HO604
    clear HO613
    clear HO616
    clear BK583
    clear BK606
    clear HB
    have HO590 := n0_
    have HO593 := n1_
    have HO601 := n2_
    have HO604 := n3_
    have HO613 := n4_
    have HO616 := n5_
    have BK583 := n6_
    have BK606 := n7_
    have HB := n8_
    clear n0_ n1_ n2_ n3_ n4_ n5_ n6_ n7_ n8_
    (try clear hb)
    refine hK.out _ _ ⟨(blk_cell BK606.out 0).trans rfl, (blk_cell BK606.out 1).trans rfl, (blk_cell BK606.out 2).trans rfl, (blk_cell BK606.out 3).trans rfl, (blk_cell BK606.out 4).trans rfl, (blk_cell BK606.out 5).trans rfl, (blk_cell BK583.out 0).trans rfl, (blk_cell BK583.out 1).trans rfl, (blk_cell BK583.out 2).trans rfl, (blk_cell BK583.out 3).trans rfl, (blk_cell BK583.out 4).trans rfl, (blk_cell BK583.out 5).trans rfl⟩ (fun hHeld => ?_)
    clear hK K
    refine nrm (some 32) ?_
    replace H := H.out
    replace H := ifB H; rcases H with ⟨rfl, H⟩ | ⟨rfl, H⟩
    ·obtain rfl := Option.some.inj H
     refine puS (i := 4) (N := some 33) #[true, true, true, true, true] (by kernel_rfl) ?_
     refine done_ (by kernel_rfl) ?_
     try go_wp2
     go_ret
     exact ⟨EWW, BL⟩
    ·obtain rfl := Option.some.inj H
     refine puS (i := 4) (N := some 33) #[true, true, true, true, true] (by kernel_rfl) ?_
     refine done_ (by kernel_rfl) ?_
     try go_wp2
     go_ret
     exact ⟨EWW, BL⟩
end Go.Proofs.Ythjcicmmbmagbaa.PFnExactIsSolved
