/- Walks of functions: what each computes. -/
import Derived.Test.YthjcicmmbmagbaaZHardOfP0
import Derived.Test.YthjcicmmbmagbaaZHardOfP3
import Derived.Test.YthjcicmmbmagbaaZHardOfP5
import Derived.Test.YthjcicmmbmagbaaZHardOfP13
import Derived.Test.YthjcicmmbmagbaaZHardOfP19
import Derived.Test.YthjcicmmbmagbaaZHardOfW
import Derived.Test.YthjcicmmbmagbaaZHardOfShelf
import Derived.Test.YthjcicmmbmagbaaZHardOfHandSort
import Derived.Test.YthjcicmmbmagbaaZHardOfHandForm
import Derived.Test.YthjcicmmbmagbaaZHardOfHandAlone
import Derived.Test.YthjcicmmbmagbaaZHardOfHandReach
namespace Go.Proofs.Ythjcicmmbmagbaa.PFnExactHardOf
open Go.RowKit Go.Proofs.YthjcicmmbmagbaaW.PrintWords Go.Proofs.YthjcicmmbmagbaaW.PrintLast Go.Proofs.YthjcicmmbmagbaaW.PrintMore Go.Proofs.Ythjcicmmbmagbaa.Sq
attribute [local go_sem] max2_int min2_int max_two min_two max_three min_three max_four min_four
set_option linter.unusedVariables false
set_option linter.unusedSimpArgs false
def laws_FnExactHardOf.f (k : Nat) (a0_0 : Int) (a0_1 : Int) (a0_2 : ByteArray) (l0_3 : List (S149)) (l0_4 : List Int) (a0_5 : Int) : Option (Bool) := (laws_szPuzzle.f k a0_0 a0_1 a0_2 l0_3 l0_4 a0_5 1048576).bind fun t511 => (if t511 < 0 then (some true) else ((laws_toPuzzle.f k a0_0 a0_1 a0_2 l0_3 l0_4 a0_5).bind fun bt512 => ((spec_HardOf.f k bt512.1 bt512.2.1 bt512.2.2.1 bt512.2.2.2.1 bt512.2.2.2.2.1 bt512.2.2.2.2.2).bind fun t522 => ((laws_toPuzzle.f k a0_0 a0_1 a0_2 l0_3 l0_4 a0_5).bind fun bt523 => ((impl_HardOf.f k bt523.1 bt523.2.1 bt523.2.2.1 bt523.2.2.2.1 bt523.2.2.2.2.1 bt523.2.2.2.2.2).bind fun t534 => (if t534 = t522 then ((laws_toPuzzle.f k a0_0 a0_1 a0_2 l0_3 l0_4 a0_5).bind fun bt535 => ((laws_eqPuzzle.f k bt523.1 bt523.2.1 bt523.2.2.1 bt523.2.2.2.1 bt523.2.2.2.2.1 bt523.2.2.2.2.2 bt535.1 bt535.2.1 bt535.2.2.1 bt535.2.2.2.1 bt535.2.2.2.2.1 bt535.2.2.2.2.2).bind fun t545 => (if t545 = true then (some true) else (some false)))) else (some false)))))))
set_option maxHeartbeats 8000000 in
set_option maxRecDepth 100000 in
theorem laws_FnExactHardOf.calls (k : Nat) (a0_0 : Int) (a0_1 : Int) (a0_2 : ByteArray) (A0_3 : Option Addr) (c0_3 : Nat) (l0_3 : List (S149)) (A0_4 : Option Addr) (c0_4 : Nat) (l0_4 : List Int) (a0_5 : Int) (r : Bool) (w : World) (hr0_3 : Kd.C k149 w A0_3 l0_3.length l0_3) (hc0_3 : l0_3.length ≤ c0_3) (hr0_4 : Kd.C (Kd.int .i64) w A0_4 l0_4.length l0_4) (hc0_4 : l0_4.length ≤ c0_4) (h : laws_FnExactHardOf.f k a0_0 a0_1 a0_2 l0_3 l0_4 a0_5 = some r) :
  Calls Try.prog 7 #[.agg #[.int .i64 a0_0, .int .i64 a0_1, .string a0_2, .slice A0_3 l0_3.length c0_3, .slice A0_4 l0_4.length c0_4, .int .i64 a0_5]] w fun e w' => e = .returned (.bool r) ∧ Below w.heap.size w w' := by
 have hu63 := Try.underlying63
 have hu69 := Try.underlying69
 have HR0_3 := Aside0.mk hr0_3
 have HC0_3 := Aside0.mk hc0_3
 clear hr0_3 hc0_3
 have HR0_4 := Aside0.mk hr0_4
 have HC0_4 := Aside0.mk hc0_4
 clear hr0_4 hc0_4
 have HB := Aside0.mk (Below.refl w.heap.size w)
 have H : ((laws_szPuzzle.f k a0_0 a0_1 a0_2 l0_3 l0_4 a0_5 1048576).bind fun t511 => (if t511 < 0 then (some true) else ((laws_toPuzzle.f k a0_0 a0_1 a0_2 l0_3 l0_4 a0_5).bind fun bt512 => ((spec_HardOf.f k bt512.1 bt512.2.1 bt512.2.2.1 bt512.2.2.2.1 bt512.2.2.2.2.1 bt512.2.2.2.2.2).bind fun t522 => ((laws_toPuzzle.f k a0_0 a0_1 a0_2 l0_3 l0_4 a0_5).bind fun bt523 => ((impl_HardOf.f k bt523.1 bt523.2.1 bt523.2.2.1 bt523.2.2.2.1 bt523.2.2.2.2.1 bt523.2.2.2.2.2).bind fun t534 => (if t534 = t522 then ((laws_toPuzzle.f k a0_0 a0_1 a0_2 l0_3 l0_4 a0_5).bind fun bt535 => ((laws_eqPuzzle.f k bt523.1 bt523.2.1 bt523.2.2.1 bt523.2.2.2.1 bt523.2.2.2.2.1 bt523.2.2.2.2.2 bt535.1 bt535.2.1 bt535.2.2.1 bt535.2.2.2.1 bt535.2.2.2.2.1 bt535.2.2.2.2.2).bind fun t545 => (if t545 = true then (some true) else (some false)))) else (some false)))))))) = some r := h
 clear h
 obtain ⟨t511, A2, H⟩ := be H
 replace H := Aside0.mk H
 go_enter Try.func7, Try.ntmps7
 go_wp2_with (first | ((with_reducible refine gate_dst (N := 1) rfl ?_); refine box_ev (N := 1) (cs := #[.int .i64 a0_0, .int .i64 a0_1, .string a0_2, .slice A0_3 l0_3.length c0_3, .slice A0_4 l0_4.length c0_4, .int .i64 a0_5]) (t := 63) ?_; intro gb510 hg w9000 hbox hb; have n0_ := BS (w := w) hb; have n1_ := Aside0.mk (hbox); have n2_ := SZ (w := w) hg; have n3_ := SZ (w := w) hg; clear HB; have HB := n0_; have BK510 := n1_; have GW510 := n2_; have GE510 := n3_; clear n0_ n1_ n2_ n3_; clear hb hbox hg; obtain ⟨hcz9001_0, hcz9001_1, hcz9001_2, hcz9001_3, hcz9001_4, hcz9001_5, hfz9001_0, hfz9001_1, hfz9001_2, hfz9001_3, hfz9001_4, hfz9001_5⟩ := cz6 BK510.out) | ((with_reducible refine gate_callee (f := 35) rfl ?_); refine goesS (some 9) Try.func35 #[.agg #[.int .i64 a0_0, .int .i64 a0_1, .string a0_2, .slice A0_3 l0_3.length c0_3, .slice A0_4 l0_4.length c0_4, .int .i64 a0_5], .int .i64 1048576] ?_; (with_reducible refine (laws_szPuzzle.calls k a0_0 a0_1 a0_2 _ _ l0_3 _ _ l0_4 a0_5 1048576 t511 _ ?side1 ?side2 ?side3 ?side4 A2.out).mono ?_); (case side1 => exact CB HR0_3); (case side2 => exact HC0_3.out); (case side3 => exact CB HR0_4); (case side4 => exact HC0_4.out); rintro e w9002 ⟨rfl, hb⟩; refine ⟨_, rfl, ?_⟩; replace BK510 := KB BK510 hb; replace HB := BS (w := w) hb; (try clear hb); obtain ⟨hcz9003_0, hcz9003_1, hcz9003_2, hcz9003_3, hcz9003_4, hcz9003_5, hfz9003_0, hfz9003_1, hfz9003_2, hfz9003_3, hfz9003_4, hfz9003_5⟩ := cz6 BK510.out; refine stop_ ?_))
 refine Hide.mk ?_
 replace H := H.out
 by_cases c3 : t511 < 0
 ·rw [if_pos c3] at H
  have c3b0 : decide (t511 < 0) = true := decide_eq_true c3
  clear c3
  obtain rfl := Option.some.inj H
  try go_wp2
  go_ret
  exact ⟨EWW, BL⟩
 ·rw [if_neg c3] at H
  have c3b0 : decide (t511 < 0) = false := decide_eq_false c3
  clear c3
  obtain ⟨⟨t512, t513, t514, t515, t518, t521⟩, A7, H⟩ := be H
  dsimp only at H
  obtain ⟨t522, A8, H⟩ := be H
  obtain ⟨⟨t523, t524, t525, t526, t529, t532⟩, A9, H⟩ := be H
  dsimp only at H
  obtain ⟨t534, A10, H⟩ := be H
  replace H := Aside0.mk H
  go_wp2_with (first | ((with_reducible refine gate_callee (f := 37) rfl ?_); refine goesS (some 13) Try.func37 #[.agg #[.int .i64 a0_0, .int .i64 a0_1, .string a0_2, .slice A0_3 l0_3.length c0_3, .slice A0_4 l0_4.length c0_4, .int .i64 a0_5]] ?_; (with_reducible refine (laws_toPuzzle.calls k a0_0 a0_1 a0_2 _ _ l0_3 _ _ l0_4 a0_5 t512 t513 t514 t515 t518 t521 _ ?side1 ?side2 ?side3 ?side4 A7.out).mono ?_); (case side1 => exact CB HR0_3); (case side2 => exact HC0_3.out); (case side3 => exact CB HR0_4); (case side4 => exact HC0_4.out); rintro e w9004 ⟨v516, v519, rfl, ho0, ho1, hb⟩; refine ⟨_, rfl, ?_⟩; have n0_ := Aside0.mk (Kd.S_lower ho0 (below_size BL)); have n1_ := Aside0.mk (Kd.R_lower ho1 (below_size BL)); replace BK510 := KB BK510 hb; replace HB := BS (w := w) hb; have HO517 := n0_; have HO520 := n1_; clear n0_ n1_; (try clear hb); (try clear ho0); (try clear ho1); obtain ⟨Ao9005, co9005, eo9005⟩ := Kd.S_slice HO517.out; subst eo9005; obtain ⟨Ao9006, co9006, eo9006⟩ := Kd.R_slice HO520.out; subst eo9006) | ((with_reducible refine gate_callee (f := 40) rfl ?_); refine goesS (some 14) Try.func40 #[.agg #[.int .i64 t512, .int .i64 t513, .string t514, .slice Ao9005 t515.length co9005, .slice Ao9006 t518.length co9006, .int .i64 t521]] ?_; (with_reducible refine (spec_HardOf.calls k t512 t513 t514 _ _ t515 _ _ t518 t521 t522 _ ?side1 ?side2 ?side3 ?side4 A8.out).mono ?_); (case side1 => repeat (first | exact (Kd.S_reads' HO517.out).2.2 | (with_reducible refine Kd.C_alloc ?_ _) | (with_reducible refine Kd.C_drewN ?_ _) | (with_reducible refine Kd.C_drew ?_))); (case side2 => exact (Kd.S_reads' HO517.out).2.1); (case side3 => exact CR2 HO520); (case side4 => exact (Kd.R_reads' HO520.out).2.1); rintro e w9007 ⟨rfl, hb⟩; refine ⟨_, rfl, ?_⟩; have n0_ := Aside0.mk (Kd.S_below (SR HO517) hb); replace HO520 := RB HO520 hb; replace BK510 := KB BK510 hb; replace HB := BS (w := w) hb; clear HO517; have HO517 := n0_; clear n0_; (try clear hb); obtain ⟨hcz9008_0, hcz9008_1, hcz9008_2, hcz9008_3, hcz9008_4, hcz9008_5, hfz9008_0, hfz9008_1, hfz9008_2, hfz9008_3, hfz9008_4, hfz9008_5⟩ := cz6 BK510.out) | ((with_reducible refine gate_callee (f := 37) rfl ?_); refine goesS (some 16) Try.func37 #[.agg #[.int .i64 a0_0, .int .i64 a0_1, .string a0_2, .slice A0_3 l0_3.length c0_3, .slice A0_4 l0_4.length c0_4, .int .i64 a0_5]] ?_; (with_reducible refine (laws_toPuzzle.calls k a0_0 a0_1 a0_2 _ _ l0_3 _ _ l0_4 a0_5 t523 t524 t525 t526 t529 t532 _ ?side1 ?side2 ?side3 ?side4 A9.out).mono ?_); (case side1 => exact CB HR0_3); (case side2 => exact HC0_3.out); (case side3 => exact CB HR0_4); (case side4 => exact HC0_4.out); rintro e w9009 ⟨v527, v530, rfl, ho0, ho1, hb⟩; refine ⟨_, rfl, ?_⟩; have n0_ := Aside0.mk (Kd.S_elder' (SR HO517) (Kd.S_base ho0) hb); have n1_ := Aside0.mk (Kd.R_elder' (RR HO520) (Kd.R_base ho1) hb); have n2_ := Aside0.mk (Kd.S_lower (Kd.S_new' ho0 (Kd.S_lt (SR HO517))) (below_size BL)); have n3_ := Aside0.mk (Kd.R_lower (Kd.R_new' ho1 (Kd.R_lt (RR HO520))) (below_size BL)); replace BK510 := KB BK510 hb; replace HB := BS (w := w) hb; clear HO517 HO520; have HO517 := n0_; have HO520 := n1_; have HO528 := n2_; have HO531 := n3_; clear n0_ n1_ n2_ n3_; (try clear hb); (try clear ho0); (try clear ho1)) | ((with_reducible refine gate_dst (N := 5) rfl ?_); refine box_ev (N := 5) (cs := #[.int .i64 0, .int .i64 0, .string (⟨#[]⟩ : ByteArray), .slice none 0 0, .slice none 0 0, .int .i64 0]) (t := 69) ?_; intro gb533 hg w9010 hbox hb; have n0_ := Aside0.mk (Kd.S_below (SR HO517) hb); have n1_ := RB HO520 hb; have n2_ := Aside0.mk (Kd.S_below (SR HO528) hb); have n3_ := RB HO531 hb; have n4_ := KB BK510 hb; have n5_ := BS (w := w) hb; have n6_ := Aside0.mk (hbox); have n7_ := SZ (w := w) hg; have n8_ := SZ (w := w) hg; have n9_ := NL BK510 hg; have n10_ := NG BK510 hg; clear HO517 HO520 HO528 HO531 BK510 HB; have HO517 := n0_; have HO520 := n1_; have HO528 := n2_; have HO531 := n3_; have BK510 := n4_; have HB := n5_; have BK533 := n6_; have GW533 := n7_; have GE533 := n8_; have NB510_533 := n9_; have NB533_510 := n10_; clear n0_ n1_ n2_ n3_ n4_ n5_ n6_ n7_ n8_ n9_ n10_; clear hb hbox hg; have hnb9011 := NB533_510.out; have hnc9011 := NB510_533.out; obtain ⟨hcz9012_0, hcz9012_1, hcz9012_2, hcz9012_3, hcz9012_4, hcz9012_5, hfz9012_0, hfz9012_1, hfz9012_2, hfz9012_3, hfz9012_4, hfz9012_5⟩ := cz6 BK533.out; obtain ⟨Ao9013, co9013, eo9013⟩ := Kd.S_slice HO528.out; subst eo9013; obtain ⟨Ao9014, co9014, eo9014⟩ := Kd.R_slice HO531.out; subst eo9014) | ((with_reducible refine gate_callee (f := 41) rfl ?_); refine goesS (some 18) Try.func41 #[.agg #[.int .i64 t523, .int .i64 t524, .string t525, .slice Ao9013 t526.length co9013, .slice Ao9014 t529.length co9014, .int .i64 t532]] ?_; (with_reducible refine (impl_HardOf.calls k t523 t524 t525 _ _ t526 _ _ t529 t532 t534 _ ?side1 ?side2 ?side3 ?side4 A10.out).mono ?_); (case side1 => refine (Kd.S_reads' (e := 116) (base := w.heap.size) (ok := fun k_ => (True ∧ some k_ ≠ (.slice Ao9005 t515.length co9005 : Value).ownBlock)) (n := t526.length) (c := co9013) ?_).2.2; exact (by (with_reducible repeat (first | apply Kd.S_alloc | apply Kd.S_drewN | apply Kd.S_drew)); exact (Kd.S_mono (Kd.S_far (p := ⟨gb533, 5, none⟩) (Kd.S_far (p := ⟨gb533, 4, none⟩) (Kd.S_far (p := ⟨gb533, 3, none⟩) (Kd.S_far (p := ⟨gb533, 2, none⟩) (Kd.S_far (p := ⟨gb533, 1, none⟩) (Kd.S_far (p := ⟨gb533, 0, none⟩) (Kd.S_types HO528.out BK533.out (by decide)) (fun _ hk => hk.2) (.int .i64 t523)) (fun _ hk => hk.2) (.int .i64 t524)) (fun _ hk => hk.2) (.string t525)) (fun _ hk => hk.2) (.slice Ao9013 t526.length co9013)) (fun _ hk => hk.2) (.slice Ao9014 t529.length co9014)) (fun _ hk => hk.2) (.int .i64 t532)) (fun _ h_ => h_.1)))); (case side2 => exact (Kd.S_reads' HO528.out).2.1); (case side3 => refine (Kd.R_reads' (e := 3) (base := w.heap.size) (ok := fun k_ => (True ∧ some k_ ≠ (.slice Ao9006 t518.length co9006 : Value).ownBlock)) (n := t529.length) (c := co9014) ?_).2.2; exact (by (with_reducible repeat (first | apply Kd.R_alloc | apply Kd.R_drewN | apply Kd.R_drew)); exact (Kd.R_mono (Kd.R_far (p := ⟨gb533, 5, none⟩) (Kd.R_far (p := ⟨gb533, 4, none⟩) (Kd.R_far (p := ⟨gb533, 3, none⟩) (Kd.R_far (p := ⟨gb533, 2, none⟩) (Kd.R_far (p := ⟨gb533, 1, none⟩) (Kd.R_far (p := ⟨gb533, 0, none⟩) (Kd.R_types HO531.out BK533.out (by decide)) (fun _ hk => hk.2) (.int .i64 t523)) (fun _ hk => hk.2) (.int .i64 t524)) (fun _ hk => hk.2) (.string t525)) (fun _ hk => hk.2) (.slice Ao9013 t526.length co9013)) (fun _ hk => hk.2) (.slice Ao9014 t529.length co9014)) (fun _ hk => hk.2) (.int .i64 t532)) (fun _ h_ => h_.1)))); (case side4 => exact (Kd.R_reads' HO531.out).2.1); rintro e w9015 ⟨rfl, hb⟩; refine ⟨_, rfl, ?_⟩; have n0_ := Aside0.mk (Kd.S_below (by (with_reducible repeat (first | apply Kd.S_alloc | apply Kd.S_drewN | apply Kd.S_drew)); exact (Kd.S_mono (Kd.S_far (p := ⟨gb533, 5, none⟩) (Kd.S_far (p := ⟨gb533, 4, none⟩) (Kd.S_far (p := ⟨gb533, 3, none⟩) (Kd.S_far (p := ⟨gb533, 2, none⟩) (Kd.S_far (p := ⟨gb533, 1, none⟩) (Kd.S_far (p := ⟨gb533, 0, none⟩) (Kd.S_types HO517.out BK533.out (by decide)) (fun _ hk => hk.2) (.int .i64 t523)) (fun _ hk => hk.2) (.int .i64 t524)) (fun _ hk => hk.2) (.string t525)) (fun _ hk => hk.2) (.slice Ao9013 t526.length co9013)) (fun _ hk => hk.2) (.slice Ao9014 t529.length co9014)) (fun _ hk => hk.2) (.int .i64 t532)) (fun _ h_ => h_.1))) hb); have n1_ := Aside0.mk (Kd.R_below (by (with_reducible repeat (first | apply Kd.R_alloc | apply Kd.R_drewN | apply Kd.R_drew)); exact (Kd.R_mono (Kd.R_far (p := ⟨gb533, 5, none⟩) (Kd.R_far (p := ⟨gb533, 4, none⟩) (Kd.R_far (p := ⟨gb533, 3, none⟩) (Kd.R_far (p := ⟨gb533, 2, none⟩) (Kd.R_far (p := ⟨gb533, 1, none⟩) (Kd.R_far (p := ⟨gb533, 0, none⟩) (Kd.R_types HO520.out BK533.out (by decide)) (fun _ hk => hk.2) (.int .i64 t523)) (fun _ hk => hk.2) (.int .i64 t524)) (fun _ hk => hk.2) (.string t525)) (fun _ hk => hk.2) (.slice Ao9013 t526.length co9013)) (fun _ hk => hk.2) (.slice Ao9014 t529.length co9014)) (fun _ hk => hk.2) (.int .i64 t532)) (fun _ h_ => h_.1))) hb); have n2_ := Aside0.mk (Kd.S_below (by (with_reducible repeat (first | apply Kd.S_alloc | apply Kd.S_drewN | apply Kd.S_drew)); exact (Kd.S_mono (Kd.S_far (p := ⟨gb533, 5, none⟩) (Kd.S_far (p := ⟨gb533, 4, none⟩) (Kd.S_far (p := ⟨gb533, 3, none⟩) (Kd.S_far (p := ⟨gb533, 2, none⟩) (Kd.S_far (p := ⟨gb533, 1, none⟩) (Kd.S_far (p := ⟨gb533, 0, none⟩) (Kd.S_types HO528.out BK533.out (by decide)) (fun _ hk => hk.2) (.int .i64 t523)) (fun _ hk => hk.2) (.int .i64 t524)) (fun _ hk => hk.2) (.string t525)) (fun _ hk => hk.2) (.slice Ao9013 t526.length co9013)) (fun _ hk => hk.2) (.slice Ao9014 t529.length co9014)) (fun _ hk => hk.2) (.int .i64 t532)) (fun _ h_ => h_.1))) hb); have n3_ := Aside0.mk (Kd.R_below (by (with_reducible repeat (first | apply Kd.R_alloc | apply Kd.R_drewN | apply Kd.R_drew)); exact (Kd.R_mono (Kd.R_far (p := ⟨gb533, 5, none⟩) (Kd.R_far (p := ⟨gb533, 4, none⟩) (Kd.R_far (p := ⟨gb533, 3, none⟩) (Kd.R_far (p := ⟨gb533, 2, none⟩) (Kd.R_far (p := ⟨gb533, 1, none⟩) (Kd.R_far (p := ⟨gb533, 0, none⟩) (Kd.R_types HO531.out BK533.out (by decide)) (fun _ hk => hk.2) (.int .i64 t523)) (fun _ hk => hk.2) (.int .i64 t524)) (fun _ hk => hk.2) (.string t525)) (fun _ hk => hk.2) (.slice Ao9013 t526.length co9013)) (fun _ hk => hk.2) (.slice Ao9014 t529.length co9014)) (fun _ hk => hk.2) (.int .i64 t532)) (fun _ h_ => h_.1))) hb); have n4_ := Aside0.mk (blk_below (g := gb510) (o := .cells #[.int .i64 a0_0, .int .i64 a0_1, .string a0_2, .slice A0_3 l0_3.length c0_3, .slice A0_4 l0_4.length c0_4, .int .i64 a0_5] 63 (0, 0)) (by (with_reducible repeat (first | refine blk_drewN ?_ _ | refine blk_drew ?_ | refine blk_alloc ?_ _)); refine blk_far ?_ NB510_533.out _; (with_reducible repeat (first | refine blk_drewN ?_ _ | refine blk_drew ?_ | refine blk_alloc ?_ _)); refine blk_far ?_ NB510_533.out _; (with_reducible repeat (first | refine blk_drewN ?_ _ | refine blk_drew ?_ | refine blk_alloc ?_ _)); refine blk_far ?_ NB510_533.out _; (with_reducible repeat (first | refine blk_drewN ?_ _ | refine blk_drew ?_ | refine blk_alloc ?_ _)); refine blk_far ?_ NB510_533.out _; (with_reducible repeat (first | refine blk_drewN ?_ _ | refine blk_drew ?_ | refine blk_alloc ?_ _)); refine blk_far ?_ NB510_533.out _; (with_reducible repeat (first | refine blk_drewN ?_ _ | refine blk_drew ?_ | refine blk_alloc ?_ _)); refine blk_far ?_ NB510_533.out _; (with_reducible repeat (first | refine blk_drewN ?_ _ | refine blk_drew ?_ | refine blk_alloc ?_ _)); exact BK510.out) hb); have n5_ := Aside0.mk (blk_below (g := gb533) (o := .cells #[.int .i64 t523, .int .i64 t524, .string t525, .slice Ao9013 t526.length co9013, .slice Ao9014 t529.length co9014, .int .i64 t532] 69 (0, 0)) (by (with_reducible repeat (first | refine blk_drewN ?_ _ | refine blk_drew ?_ | refine blk_alloc ?_ _)); refine blk_put (cs := #[.int .i64 t523, .int .i64 t524, .string t525, .slice Ao9013 t526.length co9013, .slice Ao9014 t529.length co9014, .int .i64 0]) ?_ 5 _ rfl; (with_reducible repeat (first | refine blk_drewN ?_ _ | refine blk_drew ?_ | refine blk_alloc ?_ _)); refine blk_put (cs := #[.int .i64 t523, .int .i64 t524, .string t525, .slice Ao9013 t526.length co9013, .slice none 0 0, .int .i64 0]) ?_ 4 _ rfl; (with_reducible repeat (first | refine blk_drewN ?_ _ | refine blk_drew ?_ | refine blk_alloc ?_ _)); refine blk_put (cs := #[.int .i64 t523, .int .i64 t524, .string t525, .slice none 0 0, .slice none 0 0, .int .i64 0]) ?_ 3 _ rfl; (with_reducible repeat (first | refine blk_drewN ?_ _ | refine blk_drew ?_ | refine blk_alloc ?_ _)); refine blk_put (cs := #[.int .i64 t523, .int .i64 t524, .string (⟨#[]⟩ : ByteArray), .slice none 0 0, .slice none 0 0, .int .i64 0]) ?_ 2 _ rfl; (with_reducible repeat (first | refine blk_drewN ?_ _ | refine blk_drew ?_ | refine blk_alloc ?_ _)); refine blk_put (cs := #[.int .i64 t523, .int .i64 0, .string (⟨#[]⟩ : ByteArray), .slice none 0 0, .slice none 0 0, .int .i64 0]) ?_ 1 _ rfl; (with_reducible repeat (first | refine blk_drewN ?_ _ | refine blk_drew ?_ | refine blk_alloc ?_ _)); refine blk_put (cs := #[.int .i64 0, .int .i64 0, .string (⟨#[]⟩ : ByteArray), .slice none 0 0, .slice none 0 0, .int .i64 0]) ?_ 0 _ rfl; (with_reducible repeat (first | refine blk_drewN ?_ _ | refine blk_drew ?_ | refine blk_alloc ?_ _)); exact BK533.out) hb); replace HB := BS (w := w) hb; clear HO517 HO520 HO528 HO531 BK510 BK533; have HO517 := n0_; have HO520 := n1_; have HO528 := n2_; have HO531 := n3_; have BK510 := n4_; have BK533 := n5_; clear n0_ n1_ n2_ n3_ n4_ n5_; (try clear hb); (try clear hk); refine stop_ ?_))
  refine Hide.mk ?_
  replace H := H.out
  by_cases c11 : t534 = t522
  ·rw [if_pos c11] at H
   have c11b0 : (t534 == t522) = true := beq_iff_eq.mpr c11
   have c11b1 : (t534 != t522) = false := bne_eq_false_iff_eq.mpr c11
   clear c11
   obtain ⟨⟨t535, t536, t537, t538, t541, t544⟩, A12, H⟩ := be H
   dsimp only at H
   obtain ⟨t545, A13, H⟩ := be H
   replace H := Aside0.mk H
   try go_wp2
   have n0_ := Aside0.mk (Kd.S_drew HO517.out)
   have n1_ := Aside0.mk (Kd.R_drew HO520.out)
   have n2_ := Aside0.mk (Kd.S_drew HO528.out)
   have n3_ := Aside0.mk (Kd.R_drew HO531.out)
   have n4_ := Aside0.mk (blk_drew BK510.out)
   have n5_ := Aside0.mk (blk_drew BK533.out)
   have n6_ := Aside0.mk (below_drew1 HB.out)
   clear HO517
   clear HO520
   clear HO528
   clear HO531
   clear BK510
   clear BK533
   clear HB
   have HO517 := n0_
   have HO520 := n1_
   have HO528 := n2_
   have HO531 := n3_
   have BK510 := n4_
   have BK533 := n5_
   have HB := n6_
   clear n0_ n1_ n2_ n3_ n4_ n5_ n6_
   refine start_ (n := 5) (S := fun w' => w'.cell? ⟨gb533, 0, none⟩ = some (.int .i64 t523) ∧ w'.cell? ⟨gb533, 1, none⟩ = some (.int .i64 t524) ∧ w'.cell? ⟨gb533, 2, none⟩ = some (.string t525) ∧ w'.cell? ⟨gb533, 3, none⟩ = some (.slice Ao9013 t526.length co9013) ∧ w'.cell? ⟨gb533, 4, none⟩ = some (.slice Ao9014 t529.length co9014) ∧ w'.cell? ⟨gb533, 5, none⟩ = some (.int .i64 t532) ∧ w'.cell? ⟨gb510, 0, none⟩ = some (.int .i64 a0_0) ∧ w'.cell? ⟨gb510, 1, none⟩ = some (.int .i64 a0_1) ∧ w'.cell? ⟨gb510, 2, none⟩ = some (.string a0_2) ∧ w'.cell? ⟨gb510, 3, none⟩ = some (.slice A0_3 l0_3.length c0_3) ∧ w'.cell? ⟨gb510, 4, none⟩ = some (.slice A0_4 l0_4.length c0_4) ∧ w'.cell? ⟨gb510, 5, none⟩ = some (.int .i64 a0_5)) (ds := []) #[false, false, false, false, false] (by kernel_rfl) rfl rfl ⟨(blk_cell BK533.out 0).trans rfl, (blk_cell BK533.out 1).trans rfl, (blk_cell BK533.out 2).trans rfl, (blk_cell BK533.out 3).trans rfl, (blk_cell BK533.out 4).trans rfl, (blk_cell BK533.out 5).trans rfl, (blk_cell BK510.out 0).trans rfl, (blk_cell BK510.out 1).trans rfl, (blk_cell BK510.out 2).trans rfl, (blk_cell BK510.out 3).trans rfl, (blk_cell BK510.out 4).trans rfl, (blk_cell BK510.out 5).trans rfl⟩ (fun hHeld => ?_)
   generalize w9015.drew = w9016 at HO517 HO520 HO528 HO531 BK510 BK533 HB hHeld ⊢
   refine take_ (i := 0) (N := some 22) (v := ?_) (a' := ?_) #[true, false, false, false, false] rfl rfl (by kernel_rfl) (fun _ _ _ h => h) (Or.inl ⟨by rfl, ?_⟩) hHeld ?_ ?_
   rotate_left
   ·rintro w' ⟨s0, s1, s2, s3, s4, s5, s6, s7, s8, s9, s10, s11⟩
    go_simp
    with_reducible rfl
   rotate_left
   ·simp only [Act.put, PT, i64_w, i32_w]
    rfl
   refine take_ (i := 1) (N := some 23) (v := ?_) (a' := ?_) #[true, true, false, false, false] rfl rfl (by kernel_rfl) (fun _ _ _ h => h) (Or.inl ⟨by rfl, ?_⟩) hHeld ?_ ?_
   rotate_left
   ·rintro w' ⟨s0, s1, s2, s3, s4, s5, s6, s7, s8, s9, s10, s11⟩
    go_simp
    with_reducible rfl
   rotate_left
   ·simp only [Act.put, PT, i64_w, i32_w]
    rfl
   refine one_ (i := 2) (N := some 24) #[true, true, true, false, false] rfl rfl (by kernel_rfl) (by decide) (fun K hK => ?_)
   refine goes_ Try.func37 (by kernel_rfl) rfl #[.agg #[.int .i64 a0_0, .int .i64 a0_1, .string a0_2, .slice A0_3 l0_3.length c0_3, .slice A0_4 l0_4.length c0_4, .int .i64 a0_5]] (by rfl) rfl rfl (by (try simp only [List.map_toArray, List.map_cons, List.map_nil]); first | done | rfl | (simp only [List.length_drop, List.length_take]; rfl)) ?_
   with_reducible refine (laws_toPuzzle.calls k a0_0 a0_1 a0_2 _ _ l0_3 _ _ l0_4 a0_5 t535 t536 t537 t538 t541 t544 _ ?side1 ?side2 ?side3 ?side4 A12.out).mono ?_
   (case side1 => exact CB HR0_3)
   (case side2 => exact HC0_3.out)
   (case side3 => exact CB HR0_4)
   (case side4 => exact HC0_4.out)
   rintro e w9017 ⟨v539, v542, rfl, ho0, ho1, hb⟩
   refine ⟨_, rfl, ?_⟩
   have n0_ := Aside0.mk (Kd.S_elder' (SR HO517) (Kd.S_base ho0) hb)
   have n1_ := Aside0.mk (Kd.R_elder' (RR HO520) (Kd.R_base ho1) hb)
   have n2_ := Aside0.mk (Kd.S_elder' (SR HO528) (Kd.S_base ho0) hb)
   have n3_ := Aside0.mk (Kd.R_elder' (RR HO531) (Kd.R_base ho1) hb)
   have n4_ := Aside0.mk (Kd.S_lower (Kd.S_new' (Kd.S_new' ho0 (Kd.S_lt (SR HO517))) (Kd.S_lt (SR HO528))) (below_size BL))
   have n5_ := Aside0.mk (Kd.R_lower (Kd.R_new' (Kd.R_new' ho1 (Kd.R_lt (RR HO520))) (Kd.R_lt (RR HO531))) (below_size BL))
   have n6_ := KB BK510 hb
   have n7_ := KB BK533 hb
   have n8_ := BS (w := w) hb
   clear HO517
   clear HO520
   clear HO528
   clear HO531
   clear BK510
   clear BK533
   clear HB
   have HO517 := n0_
   have HO520 := n1_
   have HO528 := n2_
   have HO531 := n3_
   have HO540 := n4_
   have HO543 := n5_
   have BK510 := n6_
   have BK533 := n7_
   have HB := n8_
   clear n0_ n1_ n2_ n3_ n4_ n5_ n6_ n7_ n8_
   (try clear hb)
   (try clear hb2)
   (try clear hk)
   (try clear hi)
   (try clear ho0)
   (try clear ho1)
   obtain ⟨Ao9018, co9018, eo9018⟩ := Kd.S_slice HO540.out
   (first | subst eo9018 | (injection eo9018 with f1_ f2_ f3_; have f4_ := f1_.symm; have f5_ := f3_.symm; clear f1_ f2_ f3_; subst f4_; subst f5_))
   obtain ⟨Ao9019, co9019, eo9019⟩ := Kd.R_slice HO543.out
   (first | subst eo9019 | (injection eo9019 with f1_ f2_ f3_; have f4_ := f1_.symm; have f5_ := f3_.symm; clear f1_ f2_ f3_; subst f4_; subst f5_))
   refine hK.out _ _ ⟨(blk_cell BK533.out 0).trans rfl, (blk_cell BK533.out 1).trans rfl, (blk_cell BK533.out 2).trans rfl, (blk_cell BK533.out 3).trans rfl, (blk_cell BK533.out 4).trans rfl, (blk_cell BK533.out 5).trans rfl, (blk_cell BK510.out 0).trans rfl, (blk_cell BK510.out 1).trans rfl, (blk_cell BK510.out 2).trans rfl, (blk_cell BK510.out 3).trans rfl, (blk_cell BK510.out 4).trans rfl, (blk_cell BK510.out 5).trans rfl⟩ (fun hHeld => ?_)
   clear hK K
   refine norm_ (a' := ?_) ?_ ?_
   rotate_left
   ·show Act.put _ (some 24) _ = _
    simp only [Act.put, PT, i64_w, i32_w]
    rfl
   refine one_ (i := 3) (N := some 25) #[true, true, true, true, false] rfl rfl (by kernel_rfl) (by decide) (fun K hK => ?_)
   refine goes_ Try.func39 (by kernel_rfl) rfl #[.agg #[.int .i64 t523, .int .i64 t524, .string t525, .slice Ao9013 t526.length co9013, .slice Ao9014 t529.length co9014, .int .i64 t532], .agg #[.int .i64 t535, .int .i64 t536, .string t537, .slice Ao9018 t538.length co9018, .slice Ao9019 t541.length co9019, .int .i64 t544]] (by rfl) rfl rfl (by (try simp only [List.map_toArray, List.map_cons, List.map_nil]); first | done | rfl | (simp only [List.length_drop, List.length_take]; rfl)) ?_
   with_reducible refine (laws_eqPuzzle.calls k t523 t524 t525 _ _ t526 _ _ t529 t532 t535 t536 t537 _ _ t538 _ _ t541 t544 _ _ ?side1 ?side2 ?side3 ?side4 ?side5 ?side6 ?side7 ?side8 A13.out).mono ?_
   (case side1 => repeat (first | exact (Kd.S_reads' HO528.out).2.2 | (with_reducible refine Kd.C_alloc ?_ _) | (with_reducible refine Kd.C_drewN ?_ _) | (with_reducible refine Kd.C_drew ?_)))
   (case side2 => exact (Kd.S_reads' HO528.out).2.1)
   (case side3 => exact CR2 HO531)
   (case side4 => exact (Kd.R_reads' HO531.out).2.1)
   (case side5 => repeat (first | exact (Kd.S_reads' HO540.out).2.2 | (with_reducible refine Kd.C_alloc ?_ _) | (with_reducible refine Kd.C_drewN ?_ _) | (with_reducible refine Kd.C_drew ?_)))
   (case side6 => exact (Kd.S_reads' HO540.out).2.1)
   (case side7 => exact CR2 HO543)
   (case side8 => exact (Kd.R_reads' HO543.out).2.1)
   rintro e w9020 ⟨rfl, hb⟩
   refine ⟨_, rfl, ?_⟩
   have n0_ := Aside0.mk (Kd.S_below (SR HO517) hb)
   have n1_ := RB HO520 hb
   have n2_ := Aside0.mk (Kd.S_below (SR HO528) hb)
   have n3_ := RB HO531 hb
   have n4_ := Aside0.mk (Kd.S_below (SR HO540) hb)
   have n5_ := RB HO543 hb
   have n6_ := KB BK510 hb
   have n7_ := KB BK533 hb
   have n8_ := BS (w := w) hb
   clear HO517
   clear HO520
   clear HO528
   clear HO531
   clear HO540
   clear HO543
   clear BK510
   clear BK533
   clear HB
   have HO517 := n0_
   have HO520 := n1_
   have HO528 := n2_
   have HO531 := n3_
   have HO540 := n4_
   have HO543 := n5_
   have BK510 := n6_
   have BK533 := n7_
   have HB := n8_
   clear n0_ n1_ n2_ n3_ n4_ n5_ n6_ n7_ n8_
   (try clear hb)
   (try clear hb2)
   (try clear hk)
   (try clear hi)
   refine hK.out _ _ ⟨(blk_cell BK533.out 0).trans rfl, (blk_cell BK533.out 1).trans rfl, (blk_cell BK533.out 2).trans rfl, (blk_cell BK533.out 3).trans rfl, (blk_cell BK533.out 4).trans rfl, (blk_cell BK533.out 5).trans rfl, (blk_cell BK510.out 0).trans rfl, (blk_cell BK510.out 1).trans rfl, (blk_cell BK510.out 2).trans rfl, (blk_cell BK510.out 3).trans rfl, (blk_cell BK510.out 4).trans rfl, (blk_cell BK510.out 5).trans rfl⟩ (fun hHeld => ?_)
   clear hK K
   refine norm_ (a' := ?_) ?_ ?_
   rotate_left
   ·show Act.put _ (some 25) _ = _
    simp only [Act.put, PT, i64_w, i32_w]
    rfl
   replace H := H.out
   by_cases c14 : t545 = true
   ·subst c14
    rw [if_pos rfl] at H
    obtain rfl := Option.some.inj H
    refine puS (i := 4) (N := some 26) #[true, true, true, true, true] (by kernel_rfl) ?_
    refine done_ (by kernel_rfl) ?_
    try go_wp2
    go_ret
    exact ⟨EWW, BL⟩
   ·replace c14 := Bool.eq_false_iff.mpr c14
    subst c14
    rw [if_neg Bool.false_ne_true] at H
    obtain rfl := Option.some.inj H
    refine puS (i := 4) (N := some 26) #[true, true, true, true, true] (by kernel_rfl) ?_
    refine done_ (by kernel_rfl) ?_
    try go_wp2
    go_ret
    exact ⟨EWW, BL⟩
  ·rw [if_neg c11] at H
   have c11b0 : (t534 == t522) = false := beq_eq_false_iff_ne.mpr c11
   have c11b1 : (t534 != t522) = true := bne_iff_ne.mpr c11
   obtain rfl := Option.some.inj H
   try go_wp2
   go_ret
   exact ⟨EWW, BL⟩
end Go.Proofs.Ythjcicmmbmagbaa.PFnExactHardOf
