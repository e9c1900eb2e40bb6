/- Walks of functions: what each computes. -/
import Derived.Test.YthincoghppaegaaZGainP0
import Derived.Test.YthincoghppaegaaZGainP2
import Derived.Test.YthincoghppaegaaZGainP7
import Derived.Test.YthincoghppaegaaZGainP8
import Derived.Test.YthincoghppaegaaZGainP13
import Derived.Test.YthincoghppaegaaZGainP14
import Derived.Test.YthincoghppaegaaZGainW
import Derived.Test.YthincoghppaegaaZGainShelf
import Derived.Test.YthincoghppaegaaZGainHandSort
namespace Go.Proofs.Ythincoghppaegaa.PFnExactGain
open Go.RowKit Go.Proofs.YthincoghppaegaaW.PrintWords Go.Proofs.YthincoghppaegaaW.PrintLast Go.Proofs.YthincoghppaegaaW.PrintMore Go.Proofs.Ythincoghppaegaa.Sq
attribute [local go_sem] max2_int min2_int max_two min_two max_three min_three max_four min_four
set_option linter.unusedVariables false
set_option linter.unusedSimpArgs false
def laws_FnExactGain.f (k : Nat) (a0_0 : Int) (l0_1 : List (S72)) (l1 : List (S52)) (l2 : List ByteArray) (a3 : ByteArray) : Option (Bool) := if (a3.size : Int) > 1048576 then (some true) else ((laws_szClue.f k a0_0 l0_1 1048576).bind fun t298 => (if t298 < 0 then (some true) else ((laws_szMeaningS.f k l1 t298).bind fun t299 => (if t299 < 0 then (some true) else ((laws_szStringS.f k l2 t299).bind fun t300 => (if t300 < 0 then (some true) else ((laws_toClue.f k a0_0 l0_1).bind fun bt301 => ((laws_toMeaningS.f k l1).bind fun t305 => ((laws_toStringS.f k l2).bind fun t308 => ((spec_Gain.f k bt301.1 bt301.2 t305 t308 a3).bind fun t311 => ((laws_toClue.f k a0_0 l0_1).bind fun bt312 => ((laws_toMeaningS.f k l1).bind fun t317 => ((laws_toStringS.f k l2).bind fun t320 => ((impl_Gain.f k bt312.1 bt312.2 t317 t320 a3).bind fun t323 => (if t323 = t311 then ((laws_toClue.f k a0_0 l0_1).bind fun bt324 => ((laws_eqClue.f k bt312.1 bt312.2 bt324.1 bt324.2).bind fun t328 => (if t328 = true then ((laws_toMeaningS.f k l1).bind fun t329 => ((laws_eqMeaningS.f k t317 t329).bind fun t332 => (if t332 = true then ((laws_toStringS.f k l2).bind fun t333 => ((laws_eqStringS.f k t320 t333).bind fun t336 => (if t336 = true then (some true) else (some false)))) else (some false)))) else (some false)))) else (some false))))))))))))))))
set_option maxHeartbeats 8000000 in
set_option maxRecDepth 100000 in
theorem laws_FnExactGain.calls (k : Nat) (a0_0 : Int) (A0_1 : Option Addr) (c0_1 : Nat) (l0_1 : List (S72)) (A1 : Option Addr) (c1 : Nat) (l1 : List (S52)) (A2 : Option Addr) (c2 : Nat) (l2 : List ByteArray) (a3 : ByteArray) (r : Bool) (w : World) (hr0_1 : Kd.C k72 w A0_1 l0_1.length l0_1) (hc0_1 : l0_1.length ≤ c0_1) (hr1 : Kd.C k52 w A1 l1.length l1) (hc1 : l1.length ≤ c1) (hr2 : Kd.C Kd.string w A2 l2.length l2) (hc2 : l2.length ≤ c2) (h : laws_FnExactGain.f k a0_0 l0_1 l1 l2 a3 = some r) :
  Calls Try.prog 3 #[.agg #[.int .i64 a0_0, .slice A0_1 l0_1.length c0_1], .slice A1 l1.length c1, .slice A2 l2.length c2, .string a3] w fun e w' => e = .returned (.bool r) ∧ Below w.heap.size w w' := by
 have hu24 := Try.underlying24
 have hu33 := Try.underlying33
 have HR0_1 := Aside0.mk hr0_1
 have HC0_1 := Aside0.mk hc0_1
 clear hr0_1 hc0_1
 have HR1 := Aside0.mk hr1
 have HC1 := Aside0.mk hc1
 clear hr1 hc1
 have HR2 := Aside0.mk hr2
 have HC2 := Aside0.mk hc2
 clear hr2 hc2
 have HB := Aside0.mk (Below.refl w.heap.size w)
 have H : (if (a3.size : Int) > 1048576 then (some true) else ((laws_szClue.f k a0_0 l0_1 1048576).bind fun t298 => (if t298 < 0 then (some true) else ((laws_szMeaningS.f k l1 t298).bind fun t299 => (if t299 < 0 then (some true) else ((laws_szStringS.f k l2 t299).bind fun t300 => (if t300 < 0 then (some true) else ((laws_toClue.f k a0_0 l0_1).bind fun bt301 => ((laws_toMeaningS.f k l1).bind fun t305 => ((laws_toStringS.f k l2).bind fun t308 => ((spec_Gain.f k bt301.1 bt301.2 t305 t308 a3).bind fun t311 => ((laws_toClue.f k a0_0 l0_1).bind fun bt312 => ((laws_toMeaningS.f k l1).bind fun t317 => ((laws_toStringS.f k l2).bind fun t320 => ((impl_Gain.f k bt312.1 bt312.2 t317 t320 a3).bind fun t323 => (if t323 = t311 then ((laws_toClue.f k a0_0 l0_1).bind fun bt324 => ((laws_eqClue.f k bt312.1 bt312.2 bt324.1 bt324.2).bind fun t328 => (if t328 = true then ((laws_toMeaningS.f k l1).bind fun t329 => ((laws_eqMeaningS.f k t317 t329).bind fun t332 => (if t332 = true then ((laws_toStringS.f k l2).bind fun t333 => ((laws_eqStringS.f k t320 t333).bind fun t336 => (if t336 = true then (some true) else (some false)))) else (some false)))) else (some false)))) else (some false))))))))))))))))) = some r := h
 clear h
 by_cases c5 : (a3.size : Int) > 1048576
 ·rw [if_pos c5] at H
  have c5b0 : decide (1048576 < (a3.size : Int)) = true := decide_eq_true c5
  have c5b1 : decide (1048576 < a3.size) = true := decide_eq_true (by omega)
  clear c5
  obtain rfl := Option.some.inj H
  go_enter Try.func3, Try.ntmps3
  go_wp2_with (first | ((with_reducible refine gate_dst (N := 4) rfl ?_); refine box_ev (N := 4) (cs := #[.int .i64 a0_0, .slice A0_1 l0_1.length c0_1]) (t := 24) ?_; intro gb297 hg w6 hbox hb; have n0_ := BS (w := w) hb; have n1_ := Aside0.mk (hbox); have n2_ := SZ (w := w) hg; have n3_ := SZ (w := w) hg; clear HB; have HB := n0_; have BK297 := n1_; have GW297 := n2_; have GE297 := n3_; clear n0_ n1_ n2_ n3_; clear hb hbox hg))
  go_ret
  exact ⟨EWW, BL⟩
 ·rw [if_neg c5] at H
  have c5b0 : decide (1048576 < (a3.size : Int)) = false := decide_eq_false c5
  have c5b1 : decide (1048576 < a3.size) = false := decide_eq_false (by omega)
  clear c5
  replace H := Option.bind_eq_some_iff.mp H
  obtain ⟨t298, A70, H⟩ := H
  replace H : (if t298 < 0 then (some true) else ((laws_szMeaningS.f k l1 t298).bind fun t299 => (if t299 < 0 then (some true) else ((laws_szStringS.f k l2 t299).bind fun t300 => (if t300 < 0 then (some true) else ((laws_toClue.f k a0_0 l0_1).bind fun bt301 => ((laws_toMeaningS.f k l1).bind fun t305 => ((laws_toStringS.f k l2).bind fun t308 => ((spec_Gain.f k bt301.1 bt301.2 t305 t308 a3).bind fun t311 => ((laws_toClue.f k a0_0 l0_1).bind fun bt312 => ((laws_toMeaningS.f k l1).bind fun t317 => ((laws_toStringS.f k l2).bind fun t320 => ((impl_Gain.f k bt312.1 bt312.2 t317 t320 a3).bind fun t323 => (if t323 = t311 then ((laws_toClue.f k a0_0 l0_1).bind fun bt324 => ((laws_eqClue.f k bt312.1 bt312.2 bt324.1 bt324.2).bind fun t328 => (if t328 = true then ((laws_toMeaningS.f k l1).bind fun t329 => ((laws_eqMeaningS.f k t317 t329).bind fun t332 => (if t332 = true then ((laws_toStringS.f k l2).bind fun t333 => ((laws_eqStringS.f k t320 t333).bind fun t336 => (if t336 = true then (some true) else (some false)))) else (some false)))) else (some false)))) else (some false))))))))))))))) = some r := H
  have A7 := Aside0.mk A70
  clear A70
  by_cases c8 : t298 < 0
  ·rw [if_pos c8] at H
   have c8b0 : decide (t298 < 0) = true := decide_eq_true c8
   clear c8
   obtain rfl := Option.some.inj H
   go_enter Try.func3, Try.ntmps3
   go_wp2_with (first | ((with_reducible refine gate_dst (N := 4) rfl ?_); refine box_ev (N := 4) (cs := #[.int .i64 a0_0, .slice A0_1 l0_1.length c0_1]) (t := 24) ?_; intro gb297 hg w9 hbox hb; have n0_ := BS (w := w) hb; have n1_ := Aside0.mk (hbox); have n2_ := SZ (w := w) hg; have n3_ := SZ (w := w) hg; clear HB; have HB := n0_; have BK297 := n1_; have GW297 := n2_; have GE297 := n3_; clear n0_ n1_ n2_ n3_; clear hb hbox hg; obtain ⟨hcz10_0, hcz10_1, hfz10_0, hfz10_1⟩ := cz2 BK297.out) | ((with_reducible refine gate_callee (f := 8) rfl ?_); refine goesS (some 20) Try.func8 #[.agg #[.int .i64 a0_0, .slice A0_1 l0_1.length c0_1], .int .i64 1048576] ?_; (with_reducible refine (laws_szClue.calls k a0_0 _ _ l0_1 1048576 t298 _ ?side1 ?side2 A7.out).mono ?_); (case side1 => exact CB HR0_1); (case side2 => exact HC0_1.out); rintro e w11 ⟨rfl, hb⟩; refine ⟨_, rfl, ?_⟩; replace BK297 := KB BK297 hb; replace HB := BS (w := w) hb; (try clear hb)))
   go_ret
   exact ⟨EWW, BL⟩
  ·rw [if_neg c8] at H
   have c8b0 : decide (t298 < 0) = false := decide_eq_false c8
   clear c8
   replace H := Option.bind_eq_some_iff.mp H
   obtain ⟨t299, A120, H⟩ := H
   replace H : (if t299 < 0 then (some true) else ((laws_szStringS.f k l2 t299).bind fun t300 => (if t300 < 0 then (some true) else ((laws_toClue.f k a0_0 l0_1).bind fun bt301 => ((laws_toMeaningS.f k l1).bind fun t305 => ((laws_toStringS.f k l2).bind fun t308 => ((spec_Gain.f k bt301.1 bt301.2 t305 t308 a3).bind fun t311 => ((laws_toClue.f k a0_0 l0_1).bind fun bt312 => ((laws_toMeaningS.f k l1).bind fun t317 => ((laws_toStringS.f k l2).bind fun t320 => ((impl_Gain.f k bt312.1 bt312.2 t317 t320 a3).bind fun t323 => (if t323 = t311 then ((laws_toClue.f k a0_0 l0_1).bind fun bt324 => ((laws_eqClue.f k bt312.1 bt312.2 bt324.1 bt324.2).bind fun t328 => (if t328 = true then ((laws_toMeaningS.f k l1).bind fun t329 => ((laws_eqMeaningS.f k t317 t329).bind fun t332 => (if t332 = true then ((laws_toStringS.f k l2).bind fun t333 => ((laws_eqStringS.f k t320 t333).bind fun t336 => (if t336 = true then (some true) else (some false)))) else (some false)))) else (some false)))) else (some false))))))))))))) = some r := H
   have A12 := Aside0.mk A120
   clear A120
   by_cases c13 : t299 < 0
   ·rw [if_pos c13] at H
    have c13b0 : decide (t299 < 0) = true := decide_eq_true c13
    clear c13
    obtain rfl := Option.some.inj H
    go_enter Try.func3, Try.ntmps3
    go_wp2_with (first | ((with_reducible refine gate_dst (N := 4) rfl ?_); refine box_ev (N := 4) (cs := #[.int .i64 a0_0, .slice A0_1 l0_1.length c0_1]) (t := 24) ?_; intro gb297 hg w14 hbox hb; have n0_ := BS (w := w) hb; have n1_ := Aside0.mk (hbox); have n2_ := SZ (w := w) hg; have n3_ := SZ (w := w) hg; clear HB; have HB := n0_; have BK297 := n1_; have GW297 := n2_; have GE297 := n3_; clear n0_ n1_ n2_ n3_; clear hb hbox hg; obtain ⟨hcz15_0, hcz15_1, hfz15_0, hfz15_1⟩ := cz2 BK297.out) | ((with_reducible refine gate_callee (f := 8) rfl ?_); refine goesS (some 20) Try.func8 #[.agg #[.int .i64 a0_0, .slice A0_1 l0_1.length c0_1], .int .i64 1048576] ?_; (with_reducible refine (laws_szClue.calls k a0_0 _ _ l0_1 1048576 t298 _ ?side1 ?side2 A7.out).mono ?_); (case side1 => exact CB HR0_1); (case side2 => exact HC0_1.out); rintro e w16 ⟨rfl, hb⟩; refine ⟨_, rfl, ?_⟩; replace BK297 := KB BK297 hb; replace HB := BS (w := w) hb; (try clear hb)) | ((with_reducible refine gate_callee (f := 9) rfl ?_); refine goesS (some 25) Try.func9 #[.slice A1 l1.length c1, .int .i64 t298] ?_; (with_reducible refine (laws_szMeaningS.calls k _ _ l1 t298 t299 _ ?side1 ?side2 A12.out).mono ?_); (case side1 => exact CB HR1); (case side2 => exact HC1.out); rintro e w17 ⟨rfl, hb⟩; refine ⟨_, rfl, ?_⟩; replace BK297 := KB BK297 hb; replace HB := BS (w := w) hb; (try clear hb)))
    go_ret
    exact ⟨EWW, BL⟩
   ·rw [if_neg c13] at H
    have c13b0 : decide (t299 < 0) = false := decide_eq_false c13
    clear c13
    replace H := Option.bind_eq_some_iff.mp H
    obtain ⟨t300, A180, H⟩ := H
    replace H : (if t300 < 0 then (some true) else ((laws_toClue.f k a0_0 l0_1).bind fun bt301 => ((laws_toMeaningS.f k l1).bind fun t305 => ((laws_toStringS.f k l2).bind fun t308 => ((spec_Gain.f k bt301.1 bt301.2 t305 t308 a3).bind fun t311 => ((laws_toClue.f k a0_0 l0_1).bind fun bt312 => ((laws_toMeaningS.f k l1).bind fun t317 => ((laws_toStringS.f k l2).bind fun t320 => ((impl_Gain.f k bt312.1 bt312.2 t317 t320 a3).bind fun t323 => (if t323 = t311 then ((laws_toClue.f k a0_0 l0_1).bind fun bt324 => ((laws_eqClue.f k bt312.1 bt312.2 bt324.1 bt324.2).bind fun t328 => (if t328 = true then ((laws_toMeaningS.f k l1).bind fun t329 => ((laws_eqMeaningS.f k t317 t329).bind fun t332 => (if t332 = true then ((laws_toStringS.f k l2).bind fun t333 => ((laws_eqStringS.f k t320 t333).bind fun t336 => (if t336 = true then (some true) else (some false)))) else (some false)))) else (some false)))) else (some false))))))))))) = some r := H
    have A18 := Aside0.mk A180
    clear A180
    by_cases c19 : t300 < 0
    ·rw [if_pos c19] at H
     have c19b0 : decide (t300 < 0) = true := decide_eq_true c19
     clear c19
     obtain rfl := Option.some.inj H
     go_enter Try.func3, Try.ntmps3
     go_wp2_with (first | ((with_reducible refine gate_dst (N := 4) rfl ?_); refine box_ev (N := 4) (cs := #[.int .i64 a0_0, .slice A0_1 l0_1.length c0_1]) (t := 24) ?_; intro gb297 hg w20 hbox hb; have n0_ := BS (w := w) hb; have n1_ := Aside0.mk (hbox); have n2_ := SZ (w := w) hg; have n3_ := SZ (w := w) hg; clear HB; have HB := n0_; have BK297 := n1_; have GW297 := n2_; have GE297 := n3_; clear n0_ n1_ n2_ n3_; clear hb hbox hg; obtain ⟨hcz21_0, hcz21_1, hfz21_0, hfz21_1⟩ := cz2 BK297.out) | ((with_reducible refine gate_callee (f := 8) rfl ?_); refine goesS (some 20) Try.func8 #[.agg #[.int .i64 a0_0, .slice A0_1 l0_1.length c0_1], .int .i64 1048576] ?_; (with_reducible refine (laws_szClue.calls k a0_0 _ _ l0_1 1048576 t298 _ ?side1 ?side2 A7.out).mono ?_); (case side1 => exact CB HR0_1); (case side2 => exact HC0_1.out); rintro e w22 ⟨rfl, hb⟩; refine ⟨_, rfl, ?_⟩; replace BK297 := KB BK297 hb; replace HB := BS (w := w) hb; (try clear hb)) | ((with_reducible refine gate_callee (f := 9) rfl ?_); refine goesS (some 25) Try.func9 #[.slice A1 l1.length c1, .int .i64 t298] ?_; (with_reducible refine (laws_szMeaningS.calls k _ _ l1 t298 t299 _ ?side1 ?side2 A12.out).mono ?_); (case side1 => exact CB HR1); (case side2 => exact HC1.out); rintro e w23 ⟨rfl, hb⟩; refine ⟨_, rfl, ?_⟩; replace BK297 := KB BK297 hb; replace HB := BS (w := w) hb; (try clear hb)) | ((with_reducible refine gate_callee (f := 10) rfl ?_); refine goesS (some 30) Try.func10 #[.slice A2 l2.length c2, .int .i64 t299] ?_; (with_reducible refine (laws_szStringS.calls k _ _ l2 t299 t300 _ ?side1 ?side2 A18.out).mono ?_); (case side1 => exact CB HR2); (case side2 => exact HC2.out); rintro e w' ⟨rfl, ⟨nd, rfl⟩⟩; refine ⟨_, rfl, ?_⟩))
     go_ret
     exact ⟨EWW, BL⟩
    ·rw [if_neg c19] at H
     have c19b0 : decide (t300 < 0) = false := decide_eq_false c19
     clear c19
     replace H := Option.bind_eq_some_iff.mp H
     obtain ⟨⟨t301, t302⟩, A240, H⟩ := H
     replace H : ((laws_toMeaningS.f k l1).bind fun t305 => ((laws_toStringS.f k l2).bind fun t308 => ((spec_Gain.f k t301 t302 t305 t308 a3).bind fun t311 => ((laws_toClue.f k a0_0 l0_1).bind fun bt312 => ((laws_toMeaningS.f k l1).bind fun t317 => ((laws_toStringS.f k l2).bind fun t320 => ((impl_Gain.f k bt312.1 bt312.2 t317 t320 a3).bind fun t323 => (if t323 = t311 then ((laws_toClue.f k a0_0 l0_1).bind fun bt324 => ((laws_eqClue.f k bt312.1 bt312.2 bt324.1 bt324.2).bind fun t328 => (if t328 = true then ((laws_toMeaningS.f k l1).bind fun t329 => ((laws_eqMeaningS.f k t317 t329).bind fun t332 => (if t332 = true then ((laws_toStringS.f k l2).bind fun t333 => ((laws_eqStringS.f k t320 t333).bind fun t336 => (if t336 = true then (some true) else (some false)))) else (some false)))) else (some false)))) else (some false))))))))) = some r := H
     have A24 := Aside0.mk A240
     clear A240
     replace H := Option.bind_eq_some_iff.mp H
     obtain ⟨t305, A250, H⟩ := H
     replace H : ((laws_toStringS.f k l2).bind fun t308 => ((spec_Gain.f k t301 t302 t305 t308 a3).bind fun t311 => ((laws_toClue.f k a0_0 l0_1).bind fun bt312 => ((laws_toMeaningS.f k l1).bind fun t317 => ((laws_toStringS.f k l2).bind fun t320 => ((impl_Gain.f k bt312.1 bt312.2 t317 t320 a3).bind fun t323 => (if t323 = t311 then ((laws_toClue.f k a0_0 l0_1).bind fun bt324 => ((laws_eqClue.f k bt312.1 bt312.2 bt324.1 bt324.2).bind fun t328 => (if t328 = true then ((laws_toMeaningS.f k l1).bind fun t329 => ((laws_eqMeaningS.f k t317 t329).bind fun t332 => (if t332 = true then ((laws_toStringS.f k l2).bind fun t333 => ((laws_eqStringS.f k t320 t333).bind fun t336 => (if t336 = true then (some true) else (some false)))) else (some false)))) else (some false)))) else (some false)))))))) = some r := H
     have A25 := Aside0.mk A250
     clear A250
     replace H := Option.bind_eq_some_iff.mp H
     obtain ⟨t308, A260, H⟩ := H
     replace H : ((spec_Gain.f k t301 t302 t305 t308 a3).bind fun t311 => ((laws_toClue.f k a0_0 l0_1).bind fun bt312 => ((laws_toMeaningS.f k l1).bind fun t317 => ((laws_toStringS.f k l2).bind fun t320 => ((impl_Gain.f k bt312.1 bt312.2 t317 t320 a3).bind fun t323 => (if t323 = t311 then ((laws_toClue.f k a0_0 l0_1).bind fun bt324 => ((laws_eqClue.f k bt312.1 bt312.2 bt324.1 bt324.2).bind fun t328 => (if t328 = true then ((laws_toMeaningS.f k l1).bind fun t329 => ((laws_eqMeaningS.f k t317 t329).bind fun t332 => (if t332 = true then ((laws_toStringS.f k l2).bind fun t333 => ((laws_eqStringS.f k t320 t333).bind fun t336 => (if t336 = true then (some true) else (some false)))) else (some false)))) else (some false)))) else (some false))))))) = some r := H
     have A26 := Aside0.mk A260
     clear A260
     replace H := Option.bind_eq_some_iff.mp H
     obtain ⟨t311, A270, H⟩ := H
     replace H : ((laws_toClue.f k a0_0 l0_1).bind fun bt312 => ((laws_toMeaningS.f k l1).bind fun t317 => ((laws_toStringS.f k l2).bind fun t320 => ((impl_Gain.f k bt312.1 bt312.2 t317 t320 a3).bind fun t323 => (if t323 = t311 then ((laws_toClue.f k a0_0 l0_1).bind fun bt324 => ((laws_eqClue.f k bt312.1 bt312.2 bt324.1 bt324.2).bind fun t328 => (if t328 = true then ((laws_toMeaningS.f k l1).bind fun t329 => ((laws_eqMeaningS.f k t317 t329).bind fun t332 => (if t332 = true then ((laws_toStringS.f k l2).bind fun t333 => ((laws_eqStringS.f k t320 t333).bind fun t336 => (if t336 = true then (some true) else (some false)))) else (some false)))) else (some false)))) else (some false)))))) = some r := H
     have A27 := Aside0.mk A270
     clear A270
     replace H := Option.bind_eq_some_iff.mp H
     obtain ⟨⟨t312, t313⟩, A280, H⟩ := H
     replace H : ((laws_toMeaningS.f k l1).bind fun t317 => ((laws_toStringS.f k l2).bind fun t320 => ((impl_Gain.f k t312 t313 t317 t320 a3).bind fun t323 => (if t323 = t311 then ((laws_toClue.f k a0_0 l0_1).bind fun bt324 => ((laws_eqClue.f k t312 t313 bt324.1 bt324.2).bind fun t328 => (if t328 = true then ((laws_toMeaningS.f k l1).bind fun t329 => ((laws_eqMeaningS.f k t317 t329).bind fun t332 => (if t332 = true then ((laws_toStringS.f k l2).bind fun t333 => ((laws_eqStringS.f k t320 t333).bind fun t336 => (if t336 = true then (some true) else (some false)))) else (some false)))) else (some false)))) else (some false))))) = some r := H
     have A28 := Aside0.mk A280
     clear A280
     replace H := Option.bind_eq_some_iff.mp H
     obtain ⟨t317, A290, H⟩ := H
     replace H : ((laws_toStringS.f k l2).bind fun t320 => ((impl_Gain.f k t312 t313 t317 t320 a3).bind fun t323 => (if t323 = t311 then ((laws_toClue.f k a0_0 l0_1).bind fun bt324 => ((laws_eqClue.f k t312 t313 bt324.1 bt324.2).bind fun t328 => (if t328 = true then ((laws_toMeaningS.f k l1).bind fun t329 => ((laws_eqMeaningS.f k t317 t329).bind fun t332 => (if t332 = true then ((laws_toStringS.f k l2).bind fun t333 => ((laws_eqStringS.f k t320 t333).bind fun t336 => (if t336 = true then (some true) else (some false)))) else (some false)))) else (some false)))) else (some false)))) = some r := H
     have A29 := Aside0.mk A290
     clear A290
     replace H := Option.bind_eq_some_iff.mp H
     obtain ⟨t320, A300, H⟩ := H
     replace H : ((impl_Gain.f k t312 t313 t317 t320 a3).bind fun t323 => (if t323 = t311 then ((laws_toClue.f k a0_0 l0_1).bind fun bt324 => ((laws_eqClue.f k t312 t313 bt324.1 bt324.2).bind fun t328 => (if t328 = true then ((laws_toMeaningS.f k l1).bind fun t329 => ((laws_eqMeaningS.f k t317 t329).bind fun t332 => (if t332 = true then ((laws_toStringS.f k l2).bind fun t333 => ((laws_eqStringS.f k t320 t333).bind fun t336 => (if t336 = true then (some true) else (some false)))) else (some false)))) else (some false)))) else (some false))) = some r := H
     have A30 := Aside0.mk A300
     clear A300
     replace H := Option.bind_eq_some_iff.mp H
     obtain ⟨t323, A310, H⟩ := H
     replace H : (if t323 = t311 then ((laws_toClue.f k a0_0 l0_1).bind fun bt324 => ((laws_eqClue.f k t312 t313 bt324.1 bt324.2).bind fun t328 => (if t328 = true then ((laws_toMeaningS.f k l1).bind fun t329 => ((laws_eqMeaningS.f k t317 t329).bind fun t332 => (if t332 = true then ((laws_toStringS.f k l2).bind fun t333 => ((laws_eqStringS.f k t320 t333).bind fun t336 => (if t336 = true then (some true) else (some false)))) else (some false)))) else (some false)))) else (some false)) = some r := H
     have A31 := Aside0.mk A310
     clear A310
     by_cases c32 : t323 = t311
     ·rw [if_pos c32] at H
      have c32b0 : (t323 == t311) = true := beq_iff_eq.mpr c32
      have c32b1 : (t323 != t311) = false := bne_eq_false_iff_eq.mpr c32
      clear c32
      replace H := Option.bind_eq_some_iff.mp H
      obtain ⟨⟨t324, t325⟩, A330, H⟩ := H
      replace H : ((laws_eqClue.f k t312 t313 t324 t325).bind fun t328 => (if t328 = true then ((laws_toMeaningS.f k l1).bind fun t329 => ((laws_eqMeaningS.f k t317 t329).bind fun t332 => (if t332 = true then ((laws_toStringS.f k l2).bind fun t333 => ((laws_eqStringS.f k t320 t333).bind fun t336 => (if t336 = true then (some true) else (some false)))) else (some false)))) else (some false))) = some r := H
      have A33 := Aside0.mk A330
      clear A330
      replace H := Option.bind_eq_some_iff.mp H
      obtain ⟨t328, A340, H⟩ := H
      replace H : (if t328 = true then ((laws_toMeaningS.f k l1).bind fun t329 => ((laws_eqMeaningS.f k t317 t329).bind fun t332 => (if t332 = true then ((laws_toStringS.f k l2).bind fun t333 => ((laws_eqStringS.f k t320 t333).bind fun t336 => (if t336 = true then (some true) else (some false)))) else (some false)))) else (some false)) = some r := H
      have A34 := Aside0.mk A340
      clear A340
      by_cases c35 : t328 = true
      ·subst c35
       have H1 : ((laws_toMeaningS.f k l1).bind fun t329 => ((laws_eqMeaningS.f k t317 t329).bind fun t332 => (if t332 = true then ((laws_toStringS.f k l2).bind fun t333 => ((laws_eqStringS.f k t320 t333).bind fun t336 => (if t336 = true then (some true) else (some false)))) else (some false)))) = some r := by rw [if_pos rfl] at H; exact H
       clear H
       have H := H1
       clear H1
       replace H := Option.bind_eq_some_iff.mp H
       obtain ⟨t329, A360, H⟩ := H
       replace H : ((laws_eqMeaningS.f k t317 t329).bind fun t332 => (if t332 = true then ((laws_toStringS.f k l2).bind fun t333 => ((laws_eqStringS.f k t320 t333).bind fun t336 => (if t336 = true then (some true) else (some false)))) else (some false))) = some r := H
       have A36 := Aside0.mk A360
       clear A360
       replace H := Option.bind_eq_some_iff.mp H
       obtain ⟨t332, A370, H⟩ := H
       replace H : (if t332 = true then ((laws_toStringS.f k l2).bind fun t333 => ((laws_eqStringS.f k t320 t333).bind fun t336 => (if t336 = true then (some true) else (some false)))) else (some false)) = some r := H
       have A37 := Aside0.mk A370
       clear A370
       by_cases c38 : t332 = true
       ·subst c38
        have H1 : ((laws_toStringS.f k l2).bind fun t333 => ((laws_eqStringS.f k t320 t333).bind fun t336 => (if t336 = true then (some true) else (some false)))) = some r := by rw [if_pos rfl] at H; exact H
        clear H
        have H := H1
        clear H1
        replace H := Option.bind_eq_some_iff.mp H
        obtain ⟨t333, A390, H⟩ := H
        replace H : ((laws_eqStringS.f k t320 t333).bind fun t336 => (if t336 = true then (some true) else (some false))) = some r := H
        have A39 := Aside0.mk A390
        clear A390
        replace H := Option.bind_eq_some_iff.mp H
        obtain ⟨t336, A400, H⟩ := H
        replace H : (if t336 = true then (some true) else (some false)) = some r := H
        have A40 := Aside0.mk A400
        clear A400
        by_cases c41 : t336 = true
        ·subst c41
         have H1 : (some true) = some r := by rw [if_pos rfl] at H; exact H
         clear H
         have H := H1
         clear H1
         obtain rfl := Option.some.inj H
         go_enter Try.func3, Try.ntmps3
         try go_wp2_with (first | ((with_reducible refine gate_dst (N := 4) rfl ?_); refine box_ev (N := 4) (cs := #[.int .i64 a0_0, .slice A0_1 l0_1.length c0_1]) (t := 24) ?_; intro gb297 hg w42 hbox hb; have n0_ := BS (w := w) hb; have n1_ := Aside0.mk (hbox); have n2_ := SZ (w := w) hg; have n3_ := SZ (w := w) hg; clear HB; have HB := n0_; have BK297 := n1_; have GW297 := n2_; have GE297 := n3_; clear n0_ n1_ n2_ n3_; clear hb hbox hg; obtain ⟨hcz43_0, hcz43_1, hfz43_0, hfz43_1⟩ := cz2 BK297.out) | ((with_reducible refine gate_callee (f := 8) rfl ?_); refine goesS (some 20) Try.func8 #[.agg #[.int .i64 a0_0, .slice A0_1 l0_1.length c0_1], .int .i64 1048576] ?_; (with_reducible refine (laws_szClue.calls k a0_0 _ _ l0_1 1048576 t298 _ ?side1 ?side2 A7.out).mono ?_); (case side1 => exact CB HR0_1); (case side2 => exact HC0_1.out); rintro e w44 ⟨rfl, hb⟩; refine ⟨_, rfl, ?_⟩; replace BK297 := KB BK297 hb; replace HB := BS (w := w) hb; (try clear hb)) | ((with_reducible refine gate_callee (f := 9) rfl ?_); refine goesS (some 25) Try.func9 #[.slice A1 l1.length c1, .int .i64 t298] ?_; (with_reducible refine (laws_szMeaningS.calls k _ _ l1 t298 t299 _ ?side1 ?side2 A12.out).mono ?_); (case side1 => exact CB HR1); (case side2 => exact HC1.out); rintro e w45 ⟨rfl, hb⟩; refine ⟨_, rfl, ?_⟩; replace BK297 := KB BK297 hb; replace HB := BS (w := w) hb; (try clear hb)) | ((with_reducible refine gate_callee (f := 10) rfl ?_); refine goesS (some 30) Try.func10 #[.slice A2 l2.length c2, .int .i64 t299] ?_; (with_reducible refine (laws_szStringS.calls k _ _ l2 t299 t300 _ ?side1 ?side2 A18.out).mono ?_); (case side1 => exact CB HR2); (case side2 => exact HC2.out); rintro e w' ⟨rfl, ⟨nd, rfl⟩⟩; refine ⟨_, rfl, ?_⟩; (try (rw [drewN_self w45]; generalize hq_ : World.drewN w45 _ = w45; have n0_ : Aside0 (w45.heap[gb297]? = some (.cells #[.int .i64 a0_0, .slice A0_1 l0_1.length c0_1] 24 (0, 0))) := ⟨by rw [← hq_]; exact BK⟩; have n1_ : Aside0 (Below w.heap.size w w45) := ⟨by rw [← hq_]; exact BL⟩; clear BK297 HB hq_; have BK297 := n0_; have HB := n1_; clear n0_ n1_)); have hfz43_0 := blk_frozen BK297.out 0; have hfz43_1 := blk_frozen BK297.out 1; obtain ⟨hcz46_0, hcz46_1, hfz46_0, hfz46_1⟩ := cz2 BK297.out) | ((with_reducible refine gate_callee (f := 12) rfl ?_); refine goesS (some 34) Try.func12 #[.agg #[.int .i64 a0_0, .slice A0_1 l0_1.length c0_1]] ?_; (with_reducible refine (laws_toClue.calls k a0_0 _ _ l0_1 t301 t302 _ ?side1 ?side2 A24.out).mono ?_); (case side1 => exact CB HR0_1); (case side2 => exact HC0_1.out); rintro e w47 ⟨v303, rfl, ho0, hb⟩; refine ⟨_, rfl, ?_⟩; have n0_ := Aside0.mk (Kd.R_lower ho0 (below_size BL)); replace BK297 := KB BK297 hb; replace HB := BS (w := w) hb; have HO304 := n0_; clear n0_; (try clear hb); (try clear ho0)) | ((with_reducible refine gate_callee (f := 13) rfl ?_); refine goesS (some 36) Try.func13 #[.slice A1 l1.length c1] ?_; (with_reducible refine (laws_toMeaningS.calls k _ _ l1 t305 _ ?side1 ?side2 A25.out).mono ?_); (case side1 => exact CB HR1); (case side2 => exact HC1.out); rintro e w48 ⟨v306, rfl, ho0, hb⟩; refine ⟨_, rfl, ?_⟩; have n1_ := Aside0.mk (Kd.R_lower ho0 (below_size BL)); replace HO304 := RB HO304 hb; replace BK297 := KB BK297 hb; replace HB := BS (w := w) hb; have HO307 := n1_; clear n1_; (try clear hb); (try clear ho0)) | ((with_reducible refine gate_callee (f := 14) rfl ?_); refine goesS (some 38) Try.func14 #[.slice A2 l2.length c2] ?_; (with_reducible refine (laws_toStringS.calls k _ _ l2 t308 _ ?side1 ?side2 A26.out).mono ?_); (case side1 => exact CB HR2); (case side2 => exact HC2.out); rintro e w49 ⟨v309, rfl, ho0, hb⟩; refine ⟨_, rfl, ?_⟩; have n2_ := Aside0.mk (Kd.R_lower ho0 (below_size BL)); replace HO304 := RB HO304 hb; replace HO307 := RB HO307 hb; replace BK297 := KB BK297 hb; replace HB := BS (w := w) hb; have HO310 := n2_; clear n2_; (try clear hb); (try clear ho0); obtain ⟨Ao50, co50, eo50⟩ := Kd.R_slice HO304.out; subst eo50; obtain ⟨Ao51, co51, eo51⟩ := Kd.R_slice HO307.out; subst eo51; obtain ⟨Ao52, co52, eo52⟩ := Kd.R_slice HO310.out; subst eo52) | ((with_reducible refine gate_callee (f := 11) rfl ?_); refine goesS (some 40) Try.func11 #[.agg #[.int .i64 t301, .slice Ao50 t302.length co50], .slice Ao51 t305.length co51, .slice Ao52 t308.length co52, .string a3] ?_; (with_reducible refine (spec_Gain.calls k t301 _ _ t302 _ _ t305 _ _ t308 a3 t311 _ ?side1 ?side2 ?side3 ?side4 ?side5 ?side6 A27.out).mono ?_); (case side1 => exact CR2 HO304); (case side2 => exact (Kd.R_reads' HO304.out).2.1); (case side3 => exact CR2 HO307); (case side4 => exact (Kd.R_reads' HO307.out).2.1); (case side5 => exact CR2 HO310); (case side6 => exact (Kd.R_reads' HO310.out).2.1); rintro e w53 ⟨rfl, hb⟩; refine ⟨_, rfl, ?_⟩; replace HO304 := RB HO304 hb; replace HO307 := RB HO307 hb; replace HO310 := RB HO310 hb; replace BK297 := KB BK297 hb; replace HB := BS (w := w) hb; (try clear hb); obtain ⟨hcz54_0, hcz54_1, hfz54_0, hfz54_1⟩ := cz2 BK297.out) | ((with_reducible refine gate_callee (f := 12) rfl ?_); refine goesS (some 42) Try.func12 #[.agg #[.int .i64 a0_0, .slice A0_1 l0_1.length c0_1]] ?_; (with_reducible refine (laws_toClue.calls k a0_0 _ _ l0_1 t312 t313 _ ?side1 ?side2 A28.out).mono ?_); (case side1 => exact CB HR0_1); (case side2 => exact HC0_1.out); rintro e w55 ⟨v314, rfl, ho0, hb⟩; refine ⟨_, rfl, ?_⟩; have n0_ := Aside0.mk (Kd.R_elder' (RR HO304) (Kd.R_base ho0) hb); have n3_ := Aside0.mk (Kd.R_lower (Kd.R_new' ho0 (Kd.R_lt (RR HO304))) (below_size BL)); replace HO307 := RB HO307 hb; replace HO310 := RB HO310 hb; replace BK297 := KB BK297 hb; replace HB := BS (w := w) hb; clear HO304; have HO304 := n0_; have HO315 := n3_; clear n0_ n3_; (try clear hb); (try clear ho0)) | ((with_reducible refine gate_dst (N := 11) rfl ?_); refine box_ev (N := 11) (cs := #[.int .i64 0, .slice none 0 0]) (t := 33) ?_; intro gb316 hg w56 hbox hb; have n0_ := RB HO304 hb; have n1_ := RB HO307 hb; have n2_ := RB HO310 hb; have n3_ := RB HO315 hb; have n4_ := KB BK297 hb; have n5_ := BS (w := w) hb; have n6_ := Aside0.mk (hbox); have n7_ := SZ (w := w) hg; have n8_ := SZ (w := w) hg; have n9_ := NL BK297 hg; have n10_ := NG BK297 hg; clear HO304 HO307 HO310 HO315 BK297 HB; have HO304 := n0_; have HO307 := n1_; have HO310 := n2_; have HO315 := n3_; have BK297 := n4_; have HB := n5_; have BK316 := n6_; have GW316 := n7_; have GE316 := n8_; have NB297_316 := n9_; have NB316_297 := n10_; clear n0_ n1_ n2_ n3_ n4_ n5_ n6_ n7_ n8_ n9_ n10_; clear hb hbox hg; have hnb57 := NB316_297.out; have hnc57 := NB297_316.out; obtain ⟨hcz58_0, hcz58_1, hfz58_0, hfz58_1⟩ := cz2 BK316.out; obtain ⟨Ao59, co59, eo59⟩ := Kd.R_slice HO315.out; subst eo59) | ((with_reducible refine gate_callee (f := 13) rfl ?_); refine goesS (some 44) Try.func13 #[.slice A1 l1.length c1] ?_; (with_reducible refine (laws_toMeaningS.calls k _ _ l1 t317 _ ?side1 ?side2 A29.out).mono ?_); (case side1 => exact Kd.C_below HR1.out BL); (case side2 => exact HC1.out); rintro e w60 ⟨v318, rfl, ho0, hb⟩; refine ⟨_, rfl, ?_⟩; have n0_ := Aside0.mk (Kd.R_below (by (with_reducible repeat (first | apply Kd.R_alloc | apply Kd.R_drewN | apply Kd.R_drew)); exact (Kd.R_mono (Kd.R_far (p := ⟨gb316, 1, none⟩) (Kd.R_far (p := ⟨gb316, 0, none⟩) (Kd.R_types HO304.out BK316.out (by decide)) (fun _ hk => hk.2) (.int .i64 t312)) (fun _ hk => hk.2) (.slice Ao59 t313.length co59)) (fun _ h_ => h_.1))) hb); have n1_ := Aside0.mk (Kd.R_elder' (by (with_reducible repeat (first | apply Kd.R_alloc | apply Kd.R_drewN | apply Kd.R_drew)); exact (Kd.R_mono (Kd.R_far (p := ⟨gb316, 1, none⟩) (Kd.R_far (p := ⟨gb316, 0, none⟩) (Kd.R_types HO307.out BK316.out (by decide)) (fun _ hk => hk.2) (.int .i64 t312)) (fun _ hk => hk.2) (.slice Ao59 t313.length co59)) (fun _ h_ => h_.1))) (Kd.R_base ho0) hb); have n2_ := Aside0.mk (Kd.R_below (by (with_reducible repeat (first | apply Kd.R_alloc | apply Kd.R_drewN | apply Kd.R_drew)); exact (Kd.R_mono (Kd.R_far (p := ⟨gb316, 1, none⟩) (Kd.R_far (p := ⟨gb316, 0, none⟩) (Kd.R_types HO310.out BK316.out (by decide)) (fun _ hk => hk.2) (.int .i64 t312)) (fun _ hk => hk.2) (.slice Ao59 t313.length co59)) (fun _ h_ => h_.1))) hb); have n3_ := Aside0.mk (Kd.R_below (by (with_reducible repeat (first | apply Kd.R_alloc | apply Kd.R_drewN | apply Kd.R_drew)); exact (Kd.R_mono (Kd.R_far (p := ⟨gb316, 1, none⟩) (Kd.R_far (p := ⟨gb316, 0, none⟩) (Kd.R_types HO315.out BK316.out (by decide)) (fun _ hk => hk.2) (.int .i64 t312)) (fun _ hk => hk.2) (.slice Ao59 t313.length co59)) (fun _ h_ => h_.1))) hb); have n4_ := Aside0.mk (Kd.R_lower (Kd.R_new' ho0 (Kd.R_lt (by (with_reducible repeat (first | apply Kd.R_alloc | apply Kd.R_drewN | apply Kd.R_drew)); exact (Kd.R_mono (Kd.R_far (p := ⟨gb316, 1, none⟩) (Kd.R_far (p := ⟨gb316, 0, none⟩) (Kd.R_types HO307.out BK316.out (by decide)) (fun _ hk => hk.2) (.int .i64 t312)) (fun _ hk => hk.2) (.slice Ao59 t313.length co59)) (fun _ h_ => h_.1))))) (below_size BL)); have n5_ := Aside0.mk (blk_below (g := gb297) (o := .cells #[.int .i64 a0_0, .slice A0_1 l0_1.length c0_1] 24 (0, 0)) (by (with_reducible repeat (first | refine blk_drewN ?_ _ | refine blk_drew ?_ | refine blk_alloc ?_ _)); refine blk_far ?_ NB297_316.out _; (with_reducible repeat (first | refine blk_drewN ?_ _ | refine blk_drew ?_ | refine blk_alloc ?_ _)); refine blk_far ?_ NB297_316.out _; (with_reducible repeat (first | refine blk_drewN ?_ _ | refine blk_drew ?_ | refine blk_alloc ?_ _)); exact BK297.out) hb); have n6_ := Aside0.mk (blk_below (g := gb316) (o := .cells #[.int .i64 t312, .slice Ao59 t313.length co59] 33 (0, 0)) (by (with_reducible repeat (first | refine blk_drewN ?_ _ | refine blk_drew ?_ | refine blk_alloc ?_ _)); refine blk_put (cs := #[.int .i64 t312, .slice none 0 0]) ?_ 1 _ rfl; (with_reducible repeat (first | refine blk_drewN ?_ _ | refine blk_drew ?_ | refine blk_alloc ?_ _)); refine blk_put (cs := #[.int .i64 0, .slice none 0 0]) ?_ 0 _ rfl; (with_reducible repeat (first | refine blk_drewN ?_ _ | refine blk_drew ?_ | refine blk_alloc ?_ _)); exact BK316.out) hb); replace HB := BS (w := w) hb; clear HO304 HO307 HO310 HO315 BK297 BK316; have HO304 := n0_; have HO307 := n1_; have HO310 := n2_; have HO315 := n3_; have HO319 := n4_; have BK297 := n5_; have BK316 := n6_; clear n0_ n1_ n2_ n3_ n4_ n5_ n6_; (try clear hb); (try clear hk); (try clear ho0)) | ((with_reducible refine gate_callee (f := 14) rfl ?_); refine goesS (some 46) Try.func14 #[.slice A2 l2.length c2] ?_; (with_reducible refine (laws_toStringS.calls k _ _ l2 t320 _ ?side1 ?side2 A30.out).mono ?_); (case side1 => exact CB HR2); (case side2 => exact HC2.out); rintro e w61 ⟨v321, rfl, ho0, hb⟩; refine ⟨_, rfl, ?_⟩; have n2_ := Aside0.mk (Kd.R_elder' (RR HO310) (Kd.R_base ho0) hb); have n5_ := Aside0.mk (Kd.R_lower (Kd.R_new' ho0 (Kd.R_lt (RR HO310))) (below_size BL)); replace HO304 := RB HO304 hb; replace HO307 := RB HO307 hb; replace HO315 := RB HO315 hb; replace HO319 := RB HO319 hb; replace BK297 := KB BK297 hb; replace BK316 := KB BK316 hb; replace HB := BS (w := w) hb; clear HO310; have HO310 := n2_; have HO322 := n5_; clear n2_ n5_; (try clear hb); (try clear ho0); obtain ⟨hcz62_0, hcz62_1, hfz62_0, hfz62_1⟩ := cz2 BK316.out; obtain ⟨Ao63, co63, eo63⟩ := Kd.R_slice HO319.out; subst eo63; obtain ⟨Ao64, co64, eo64⟩ := Kd.R_slice HO322.out; subst eo64) | ((with_reducible refine gate_callee (f := 15) rfl ?_); refine goesS (some 51) Try.func15 #[.agg #[.int .i64 t312, .slice Ao59 t313.length co59], .slice Ao63 t317.length co63, .slice Ao64 t320.length co64, .string a3] ?_; (with_reducible refine (impl_Gain.calls k t312 _ _ t313 _ _ t317 _ _ t320 a3 t323 _ ?side1 ?side2 ?side3 ?side4 ?side5 ?side6 A31.out).mono ?_); (case side1 => exact CR2 HO315); (case side2 => exact (Kd.R_reads' HO315.out).2.1); (case side3 => exact CR2 HO319); (case side4 => exact (Kd.R_reads' HO319.out).2.1); (case side5 => exact CR2 HO322); (case side6 => exact (Kd.R_reads' HO322.out).2.1); rintro e w65 ⟨rfl, hb⟩; refine ⟨_, rfl, ?_⟩; replace HO304 := RB HO304 hb; replace HO307 := RB HO307 hb; replace HO310 := RB HO310 hb; replace HO315 := RB HO315 hb; replace HO319 := RB HO319 hb; replace HO322 := RB HO322 hb; replace BK297 := KB BK297 hb; replace BK316 := KB BK316 hb; replace HB := BS (w := w) hb; (try clear hb)))
         have n0_ := Aside0.mk (Kd.R_drew HO304.out)
         have n1_ := Aside0.mk (Kd.R_drew HO307.out)
         have n2_ := Aside0.mk (Kd.R_drew HO310.out)
         have n3_ := Aside0.mk (Kd.R_drew HO315.out)
         have n4_ := Aside0.mk (Kd.R_drew HO319.out)
         have n5_ := Aside0.mk (Kd.R_drew HO322.out)
         have n6_ := Aside0.mk (blk_drew BK297.out)
         have n7_ := Aside0.mk (blk_drew BK316.out)
         have n8_ := Aside0.mk (below_drew1 HB.out)
         clear HO304
         clear HO307
         clear HO310
         clear HO315
         clear HO319
         clear HO322
         clear BK297
         clear BK316
         clear HB
         have HO304 := n0_
         have HO307 := n1_
         have HO310 := n2_
         have HO315 := n3_
         have HO319 := n4_
         have HO322 := n5_
         have BK297 := n6_
         have BK316 := n7_
         have HB := n8_
         clear n0_ n1_ n2_ n3_ n4_ n5_ n6_ n7_ n8_
         refine start_ (n := 5) (S := fun w' => w'.cell? ⟨gb316, 0, none⟩ = some (.int .i64 t312) ∧ w'.cell? ⟨gb316, 1, none⟩ = some (.slice Ao59 t313.length co59) ∧ w'.cell? ⟨gb297, 0, none⟩ = some (.int .i64 a0_0) ∧ w'.cell? ⟨gb297, 1, none⟩ = some (.slice A0_1 l0_1.length c0_1)) (ds := []) #[false, false, false, false, false] (by kernel_rfl) rfl rfl ⟨(blk_cell BK316.out 0).trans rfl, (blk_cell BK316.out 1).trans rfl, (blk_cell BK297.out 0).trans rfl, (blk_cell BK297.out 1).trans rfl⟩ (fun hHeld => ?_)
         generalize w65.drew = w66 at HO304 HO307 HO310 HO315 HO319 HO322 BK297 BK316 HB hHeld ⊢
         refine take_ (i := 0) (N := some 55) (v := ?_) (a' := ?_) #[true, false, false, false, false] rfl rfl (by kernel_rfl) (fun _ _ _ h => h) (Or.inl ⟨by rfl, ?_⟩) hHeld ?_ ?_
         rotate_left
         ·rintro w' ⟨s0, s1, s2, s3⟩
          go_simp
          with_reducible rfl
         rotate_left
         ·simp only [Act.put, PT, i64_w, i32_w]
          rfl
         refine take_ (i := 1) (N := some 56) (v := ?_) (a' := ?_) #[true, true, false, false, false] rfl rfl (by kernel_rfl) (fun _ _ _ h => h) (Or.inl ⟨by rfl, ?_⟩) hHeld ?_ ?_
         rotate_left
         ·rintro w' ⟨s0, s1, s2, s3⟩
          go_simp
          with_reducible rfl
         rotate_left
         ·simp only [Act.put, PT, i64_w, i32_w]
          rfl
         refine one_ (i := 2) (N := some 57) #[true, true, true, false, false] rfl rfl (by kernel_rfl) (by decide) (fun K hK => ?_)
         refine goes_ Try.func12 (by kernel_rfl) rfl #[.agg #[.int .i64 a0_0, .slice A0_1 l0_1.length c0_1]] (by rfl) rfl rfl (by (try simp only [List.map_toArray, List.map_cons, List.map_nil]); first | done | rfl | (simp only [List.length_drop, List.length_take]; rfl)) ?_
         with_reducible refine (laws_toClue.calls k a0_0 _ _ l0_1 t324 t325 _ ?side1 ?side2 A33.out).mono ?_
         (case side1 => exact CB HR0_1)
         (case side2 => exact HC0_1.out)
         rintro e w67 ⟨v326, rfl, ho0, hb⟩
         refine ⟨_, rfl, ?_⟩
         have n0_ := Aside0.mk (Kd.R_elder' (RR HO304) (Kd.R_base ho0) hb)
         have n1_ := RB HO307 hb
         have n2_ := RB HO310 hb
         have n3_ := Aside0.mk (Kd.R_elder' (RR HO315) (Kd.R_base ho0) hb)
         have n4_ := RB HO319 hb
         have n5_ := RB HO322 hb
         have n6_ := Aside0.mk (Kd.R_lower (Kd.R_new' (Kd.R_new' ho0 (Kd.R_lt (RR HO304))) (Kd.R_lt (RR HO315))) (below_size BL))
         have n7_ := KB BK297 hb
         have n8_ := KB BK316 hb
         have n9_ := BS (w := w) hb
         clear HO304
         clear HO307
         clear HO310
         clear HO315
         clear HO319
         clear HO322
         clear BK297
         clear BK316
         clear HB
         have HO304 := n0_
         have HO307 := n1_
         have HO310 := n2_
         have HO315 := n3_
         have HO319 := n4_
         have HO322 := n5_
         have HO327 := n6_
         have BK297 := n7_
         have BK316 := n8_
         have HB := n9_
         clear n0_ n1_ n2_ n3_ n4_ n5_ n6_ n7_ n8_ n9_
         (try clear hb)
         (try clear hb2)
         (try clear hk)
         (try clear hi)
         (try clear ho0)
         obtain ⟨Ao68, co68, eo68⟩ := Kd.R_slice HO327.out
         (first | subst eo68 | (injection eo68 with f1_ f2_ f3_; have f4_ := f1_.symm; have f5_ := f3_.symm; clear f1_ f2_ f3_; subst f4_; subst f5_))
         refine hK.out _ _ ⟨(blk_cell BK316.out 0).trans rfl, (blk_cell BK316.out 1).trans rfl, (blk_cell BK297.out 0).trans rfl, (blk_cell BK297.out 1).trans rfl⟩ (fun hHeld => ?_)
         clear hK K
         refine norm_ (a' := ?_) ?_ ?_
         rotate_left
         ·show Act.put _ (some 57) _ = _
          simp only [Act.put, PT, i64_w, i32_w]
          rfl
         refine one_ (i := 3) (N := some 58) #[true, true, true, true, false] rfl rfl (by kernel_rfl) (by decide) (fun K hK => ?_)
         refine goes_ Try.func16 (by kernel_rfl) rfl #[.agg #[.int .i64 t312, .slice Ao59 t313.length co59], .agg #[.int .i64 t324, .slice Ao68 t325.length co68]] (by rfl) rfl rfl (by (try simp only [List.map_toArray, List.map_cons, List.map_nil]); first | done | rfl | (simp only [List.length_drop, List.length_take]; rfl)) ?_
         with_reducible refine (laws_eqClue.calls k t312 _ _ t313 t324 _ _ t325 true _ ?side1 ?side2 ?side3 ?side4 A34.out).mono ?_
         (case side1 => exact CR2 HO315)
         (case side2 => exact (Kd.R_reads' HO315.out).2.1)
         (case side3 => exact CR2 HO327)
         (case side4 => exact (Kd.R_reads' HO327.out).2.1)
         rintro e w69 ⟨rfl, hb⟩
         refine ⟨_, rfl, ?_⟩
         have n0_ := RB HO304 hb
         have n1_ := RB HO307 hb
         have n2_ := RB HO310 hb
         have n3_ := RB HO315 hb
         have n4_ := RB HO319 hb
         have n5_ := RB HO322 hb
         have n6_ := RB HO327 hb
         have n7_ := KB BK297 hb
         have n8_ := KB BK316 hb
         have n9_ := BS (w := w) hb
         clear HO304
         clear HO307
         clear HO310
         clear HO315
         clear HO319
         clear HO322
         clear HO327
         clear BK297
         clear BK316
         clear HB
         have HO304 := n0_
         have HO307 := n1_
         have HO310 := n2_
         have HO315 := n3_
         have HO319 := n4_
         have HO322 := n5_
         have HO327 := n6_
         have BK297 := n7_
         have BK316 := n8_
         have HB := n9_
         clear n0_ n1_ n2_ n3_ n4_ n5_ n6_ n7_ n8_ n9_
         (try clear hb)
         (try clear hb2)
         (try clear hk)
         (try clear hi)
         refine hK.out _ _ ⟨(blk_cell BK316.out 0).trans rfl, (blk_cell BK316.out 1).trans rfl, (blk_cell BK297.out 0).trans rfl, (blk_cell BK297.out 1).trans rfl⟩ (fun hHeld => ?_)
         clear hK K
         refine norm_ (a' := ?_) ?_ ?_
         rotate_left
         ·show Act.put _ (some 58) _ = _
          simp only [Act.put, PT, i64_w, i32_w]
          rfl
         refine puS (i := 4) (N := some 59) #[true, true, true, true, true] (by kernel_rfl) ?_
         refine done_ (by kernel_rfl) ?_
         try go_wp2_with (first | ((with_reducible refine gate_callee (f := 13) rfl ?_); refine goesS (some 62) Try.func13 #[.slice A1 l1.length c1] ?_; (with_reducible refine (laws_toMeaningS.calls k _ _ l1 t329 _ ?side1 ?side2 A36.out).mono ?_); (case side1 => exact CB HR1); (case side2 => exact HC1.out); rintro e w70 ⟨v330, rfl, ho0, hb⟩; refine ⟨_, rfl, ?_⟩; have n1_ := Aside0.mk (Kd.R_elder' (RR HO307) (Kd.R_base ho0) hb); have n4_ := Aside0.mk (Kd.R_elder' (RR HO319) (Kd.R_base ho0) hb); have n7_ := Aside0.mk (Kd.R_lower (Kd.R_new' (Kd.R_new' ho0 (Kd.R_lt (RR HO307))) (Kd.R_lt (RR HO319))) (below_size BL)); replace HO304 := RB HO304 hb; replace HO310 := RB HO310 hb; replace HO315 := RB HO315 hb; replace HO322 := RB HO322 hb; replace HO327 := RB HO327 hb; replace BK297 := KB BK297 hb; replace BK316 := KB BK316 hb; replace HB := BS (w := w) hb; clear HO307 HO319; have HO307 := n1_; have HO319 := n4_; have HO331 := n7_; clear n1_ n4_ n7_; (try clear hb); (try clear ho0); obtain ⟨Ao71, co71, eo71⟩ := Kd.R_slice HO331.out; subst eo71) | ((with_reducible refine gate_callee (f := 17) rfl ?_); refine goesS (some 63) Try.func17 #[.slice Ao63 t317.length co63, .slice Ao71 t329.length co71] ?_; (with_reducible refine (laws_eqMeaningS.calls k _ _ t317 _ _ t329 true _ ?side1 ?side2 ?side3 ?side4 A37.out).mono ?_); (case side1 => exact CR2 HO319); (case side2 => exact (Kd.R_reads' HO319.out).2.1); (case side3 => exact CR2 HO331); (case side4 => exact (Kd.R_reads' HO331.out).2.1); rintro e w72 ⟨rfl, hb⟩; refine ⟨_, rfl, ?_⟩; replace HO304 := RB HO304 hb; replace HO307 := RB HO307 hb; replace HO310 := RB HO310 hb; replace HO315 := RB HO315 hb; replace HO319 := RB HO319 hb; replace HO322 := RB HO322 hb; replace HO327 := RB HO327 hb; replace HO331 := RB HO331 hb; replace BK297 := KB BK297 hb; replace BK316 := KB BK316 hb; replace HB := BS (w := w) hb; (try clear hb)) | ((with_reducible refine gate_callee (f := 14) rfl ?_); refine goesS (some 67) Try.func14 #[.slice A2 l2.length c2] ?_; (with_reducible refine (laws_toStringS.calls k _ _ l2 t333 _ ?side1 ?side2 A39.out).mono ?_); (case side1 => exact CB HR2); (case side2 => exact HC2.out); rintro e w73 ⟨v334, rfl, ho0, hb⟩; refine ⟨_, rfl, ?_⟩; have n2_ := Aside0.mk (Kd.R_elder' (RR HO310) (Kd.R_base ho0) hb); have n5_ := Aside0.mk (Kd.R_elder' (RR HO322) (Kd.R_base ho0) hb); have n8_ := Aside0.mk (Kd.R_lower (Kd.R_new' (Kd.R_new' ho0 (Kd.R_lt (RR HO310))) (Kd.R_lt (RR HO322))) (below_size BL)); replace HO304 := RB HO304 hb; replace HO307 := RB HO307 hb; replace HO315 := RB HO315 hb; replace HO319 := RB HO319 hb; replace HO327 := RB HO327 hb; replace HO331 := RB HO331 hb; replace BK297 := KB BK297 hb; replace BK316 := KB BK316 hb; replace HB := BS (w := w) hb; clear HO310 HO322; have HO310 := n2_; have HO322 := n5_; have HO335 := n8_; clear n2_ n5_ n8_; (try clear hb); (try clear ho0); obtain ⟨Ao74, co74, eo74⟩ := Kd.R_slice HO335.out; subst eo74) | ((with_reducible refine gate_callee (f := 18) rfl ?_); refine goesS (some 68) Try.func18 #[.slice Ao64 t320.length co64, .slice Ao74 t333.length co74] ?_; (with_reducible refine (laws_eqStringS.calls k _ _ t320 _ _ t333 true _ ?side1 ?side2 ?side3 ?side4 A40.out).mono ?_); (case side1 => exact CR2 HO322); (case side2 => exact (Kd.R_reads' HO322.out).2.1); (case side3 => exact CR2 HO335); (case side4 => exact (Kd.R_reads' HO335.out).2.1); rintro e w' ⟨rfl, ⟨nd, rfl⟩⟩; refine ⟨_, rfl, ?_⟩))
         go_ret
         exact ⟨EWW, BL⟩
        ·replace c41 := Bool.eq_false_iff.mpr c41
         subst c41
         have H1 : (some false) = some r := by rw [if_neg (show ¬ (false = true) by decide)] at H; exact H
         clear H
         have H := H1
         clear H1
         obtain rfl := Option.some.inj H
         go_enter Try.func3, Try.ntmps3
         try go_wp2_with (first | ((with_reducible refine gate_dst (N := 4) rfl ?_); refine box_ev (N := 4) (cs := #[.int .i64 a0_0, .slice A0_1 l0_1.length c0_1]) (t := 24) ?_; intro gb297 hg w75 hbox hb; have n0_ := BS (w := w) hb; have n1_ := Aside0.mk (hbox); have n2_ := SZ (w := w) hg; have n3_ := SZ (w := w) hg; clear HB; have HB := n0_; have BK297 := n1_; have GW297 := n2_; have GE297 := n3_; clear n0_ n1_ n2_ n3_; clear hb hbox hg; obtain ⟨hcz76_0, hcz76_1, hfz76_0, hfz76_1⟩ := cz2 BK297.out) | ((with_reducible refine gate_callee (f := 8) rfl ?_); refine goesS (some 20) Try.func8 #[.agg #[.int .i64 a0_0, .slice A0_1 l0_1.length c0_1], .int .i64 1048576] ?_; (with_reducible refine (laws_szClue.calls k a0_0 _ _ l0_1 1048576 t298 _ ?side1 ?side2 A7.out).mono ?_); (case side1 => exact CB HR0_1); (case side2 => exact HC0_1.out); rintro e w77 ⟨rfl, hb⟩; refine ⟨_, rfl, ?_⟩; replace BK297 := KB BK297 hb; replace HB := BS (w := w) hb; (try clear hb)) | ((with_reducible refine gate_callee (f := 9) rfl ?_); refine goesS (some 25) Try.func9 #[.slice A1 l1.length c1, .int .i64 t298] ?_; (with_reducible refine (laws_szMeaningS.calls k _ _ l1 t298 t299 _ ?side1 ?side2 A12.out).mono ?_); (case side1 => exact CB HR1); (case side2 => exact HC1.out); rintro e w78 ⟨rfl, hb⟩; refine ⟨_, rfl, ?_⟩; replace BK297 := KB BK297 hb; replace HB := BS (w := w) hb; (try clear hb)) | ((with_reducible refine gate_callee (f := 10) rfl ?_); refine goesS (some 30) Try.func10 #[.slice A2 l2.length c2, .int .i64 t299] ?_; (with_reducible refine (laws_szStringS.calls k _ _ l2 t299 t300 _ ?side1 ?side2 A18.out).mono ?_); (case side1 => exact CB HR2); (case side2 => exact HC2.out); rintro e w' ⟨rfl, ⟨nd, rfl⟩⟩; refine ⟨_, rfl, ?_⟩; (try (rw [drewN_self w78]; generalize hq_ : World.drewN w78 _ = w78; have n0_ : Aside0 (w78.heap[gb297]? = some (.cells #[.int .i64 a0_0, .slice A0_1 l0_1.length c0_1] 24 (0, 0))) := ⟨by rw [← hq_]; exact BK⟩; have n1_ : Aside0 (Below w.heap.size w w78) := ⟨by rw [← hq_]; exact BL⟩; clear BK297 HB hq_; have BK297 := n0_; have HB := n1_; clear n0_ n1_)); have hfz76_0 := blk_frozen BK297.out 0; have hfz76_1 := blk_frozen BK297.out 1; obtain ⟨hcz79_0, hcz79_1, hfz79_0, hfz79_1⟩ := cz2 BK297.out) | ((with_reducible refine gate_callee (f := 12) rfl ?_); refine goesS (some 34) Try.func12 #[.agg #[.int .i64 a0_0, .slice A0_1 l0_1.length c0_1]] ?_; (with_reducible refine (laws_toClue.calls k a0_0 _ _ l0_1 t301 t302 _ ?side1 ?side2 A24.out).mono ?_); (case side1 => exact CB HR0_1); (case side2 => exact HC0_1.out); rintro e w80 ⟨v303, rfl, ho0, hb⟩; refine ⟨_, rfl, ?_⟩; have n0_ := Aside0.mk (Kd.R_lower ho0 (below_size BL)); replace BK297 := KB BK297 hb; replace HB := BS (w := w) hb; have HO304 := n0_; clear n0_; (try clear hb); (try clear ho0)) | ((with_reducible refine gate_callee (f := 13) rfl ?_); refine goesS (some 36) Try.func13 #[.slice A1 l1.length c1] ?_; (with_reducible refine (laws_toMeaningS.calls k _ _ l1 t305 _ ?side1 ?side2 A25.out).mono ?_); (case side1 => exact CB HR1); (case side2 => exact HC1.out); rintro e w81 ⟨v306, rfl, ho0, hb⟩; refine ⟨_, rfl, ?_⟩; have n1_ := Aside0.mk (Kd.R_lower ho0 (below_size BL)); replace HO304 := RB HO304 hb; replace BK297 := KB BK297 hb; replace HB := BS (w := w) hb; have HO307 := n1_; clear n1_; (try clear hb); (try clear ho0)) | ((with_reducible refine gate_callee (f := 14) rfl ?_); refine goesS (some 38) Try.func14 #[.slice A2 l2.length c2] ?_; (with_reducible refine (laws_toStringS.calls k _ _ l2 t308 _ ?side1 ?side2 A26.out).mono ?_); (case side1 => exact CB HR2); (case side2 => exact HC2.out); rintro e w82 ⟨v309, rfl, ho0, hb⟩; refine ⟨_, rfl, ?_⟩; have n2_ := Aside0.mk (Kd.R_lower ho0 (below_size BL)); replace HO304 := RB HO304 hb; replace HO307 := RB HO307 hb; replace BK297 := KB BK297 hb; replace HB := BS (w := w) hb; have HO310 := n2_; clear n2_; (try clear hb); (try clear ho0); obtain ⟨Ao83, co83, eo83⟩ := Kd.R_slice HO304.out; subst eo83; obtain ⟨Ao84, co84, eo84⟩ := Kd.R_slice HO307.out; subst eo84; obtain ⟨Ao85, co85, eo85⟩ := Kd.R_slice HO310.out; subst eo85) | ((with_reducible refine gate_callee (f := 11) rfl ?_); refine goesS (some 40) Try.func11 #[.agg #[.int .i64 t301, .slice Ao83 t302.length co83], .slice Ao84 t305.length co84, .slice Ao85 t308.length co85, .string a3] ?_; (with_reducible refine (spec_Gain.calls k t301 _ _ t302 _ _ t305 _ _ t308 a3 t311 _ ?side1 ?side2 ?side3 ?side4 ?side5 ?side6 A27.out).mono ?_); (case side1 => exact CR2 HO304); (case side2 => exact (Kd.R_reads' HO304.out).2.1); (case side3 => exact CR2 HO307); (case side4 => exact (Kd.R_reads' HO307.out).2.1); (case side5 => exact CR2 HO310); (case side6 => exact (Kd.R_reads' HO310.out).2.1); rintro e w86 ⟨rfl, hb⟩; refine ⟨_, rfl, ?_⟩; replace HO304 := RB HO304 hb; replace HO307 := RB HO307 hb; replace HO310 := RB HO310 hb; replace BK297 := KB BK297 hb; replace HB := BS (w := w) hb; (try clear hb); obtain ⟨hcz87_0, hcz87_1, hfz87_0, hfz87_1⟩ := cz2 BK297.out) | ((with_reducible refine gate_callee (f := 12) rfl ?_); refine goesS (some 42) Try.func12 #[.agg #[.int .i64 a0_0, .slice A0_1 l0_1.length c0_1]] ?_; (with_reducible refine (laws_toClue.calls k a0_0 _ _ l0_1 t312 t313 _ ?side1 ?side2 A28.out).mono ?_); (case side1 => exact CB HR0_1); (case side2 => exact HC0_1.out); rintro e w88 ⟨v314, rfl, ho0, hb⟩; refine ⟨_, rfl, ?_⟩; have n0_ := Aside0.mk (Kd.R_elder' (RR HO304) (Kd.R_base ho0) hb); have n3_ := Aside0.mk (Kd.R_lower (Kd.R_new' ho0 (Kd.R_lt (RR HO304))) (below_size BL)); replace HO307 := RB HO307 hb; replace HO310 := RB HO310 hb; replace BK297 := KB BK297 hb; replace HB := BS (w := w) hb; clear HO304; have HO304 := n0_; have HO315 := n3_; clear n0_ n3_; (try clear hb); (try clear ho0)) | ((with_reducible refine gate_dst (N := 11) rfl ?_); refine box_ev (N := 11) (cs := #[.int .i64 0, .slice none 0 0]) (t := 33) ?_; intro gb316 hg w89 hbox hb; have n0_ := RB HO304 hb; have n1_ := RB HO307 hb; have n2_ := RB HO310 hb; have n3_ := RB HO315 hb; have n4_ := KB BK297 hb; have n5_ := BS (w := w) hb; have n6_ := Aside0.mk (hbox); have n7_ := SZ (w := w) hg; have n8_ := SZ (w := w) hg; have n9_ := NL BK297 hg; have n10_ := NG BK297 hg; clear HO304 HO307 HO310 HO315 BK297 HB; have HO304 := n0_; have HO307 := n1_; have HO310 := n2_; have HO315 := n3_; have BK297 := n4_; have HB := n5_; have BK316 := n6_; have GW316 := n7_; have GE316 := n8_; have NB297_316 := n9_; have NB316_297 := n10_; clear n0_ n1_ n2_ n3_ n4_ n5_ n6_ n7_ n8_ n9_ n10_; clear hb hbox hg; have hnb90 := NB316_297.out; have hnc90 := NB297_316.out; obtain ⟨hcz91_0, hcz91_1, hfz91_0, hfz91_1⟩ := cz2 BK316.out; obtain ⟨Ao92, co92, eo92⟩ := Kd.R_slice HO315.out; subst eo92) | ((with_reducible refine gate_callee (f := 13) rfl ?_); refine goesS (some 44) Try.func13 #[.slice A1 l1.length c1] ?_; (with_reducible refine (laws_toMeaningS.calls k _ _ l1 t317 _ ?side1 ?side2 A29.out).mono ?_); (case side1 => exact Kd.C_below HR1.out BL); (case side2 => exact HC1.out); rintro e w93 ⟨v318, rfl, ho0, hb⟩; refine ⟨_, rfl, ?_⟩; have n0_ := Aside0.mk (Kd.R_below (by (with_reducible repeat (first | apply Kd.R_alloc | apply Kd.R_drewN | apply Kd.R_drew)); exact (Kd.R_mono (Kd.R_far (p := ⟨gb316, 1, none⟩) (Kd.R_far (p := ⟨gb316, 0, none⟩) (Kd.R_types HO304.out BK316.out (by decide)) (fun _ hk => hk.2) (.int .i64 t312)) (fun _ hk => hk.2) (.slice Ao92 t313.length co92)) (fun _ h_ => h_.1))) hb); have n1_ := Aside0.mk (Kd.R_elder' (by (with_reducible repeat (first | apply Kd.R_alloc | apply Kd.R_drewN | apply Kd.R_drew)); exact (Kd.R_mono (Kd.R_far (p := ⟨gb316, 1, none⟩) (Kd.R_far (p := ⟨gb316, 0, none⟩) (Kd.R_types HO307.out BK316.out (by decide)) (fun _ hk => hk.2) (.int .i64 t312)) (fun _ hk => hk.2) (.slice Ao92 t313.length co92)) (fun _ h_ => h_.1))) (Kd.R_base ho0) hb); have n2_ := Aside0.mk (Kd.R_below (by (with_reducible repeat (first | apply Kd.R_alloc | apply Kd.R_drewN | apply Kd.R_drew)); exact (Kd.R_mono (Kd.R_far (p := ⟨gb316, 1, none⟩) (Kd.R_far (p := ⟨gb316, 0, none⟩) (Kd.R_types HO310.out BK316.out (by decide)) (fun _ hk => hk.2) (.int .i64 t312)) (fun _ hk => hk.2) (.slice Ao92 t313.length co92)) (fun _ h_ => h_.1))) hb); have n3_ := Aside0.mk (Kd.R_below (by (with_reducible repeat (first | apply Kd.R_alloc | apply Kd.R_drewN | apply Kd.R_drew)); exact (Kd.R_mono (Kd.R_far (p := ⟨gb316, 1, none⟩) (Kd.R_far (p := ⟨gb316, 0, none⟩) (Kd.R_types HO315.out BK316.out (by decide)) (fun _ hk => hk.2) (.int .i64 t312)) (fun _ hk => hk.2) (.slice Ao92 t313.length co92)) (fun _ h_ => h_.1))) hb); have n4_ := Aside0.mk (Kd.R_lower (Kd.R_new' ho0 (Kd.R_lt (by (with_reducible repeat (first | apply Kd.R_alloc | apply Kd.R_drewN | apply Kd.R_drew)); exact (Kd.R_mono (Kd.R_far (p := ⟨gb316, 1, none⟩) (Kd.R_far (p := ⟨gb316, 0, none⟩) (Kd.R_types HO307.out BK316.out (by decide)) (fun _ hk => hk.2) (.int .i64 t312)) (fun _ hk => hk.2) (.slice Ao92 t313.length co92)) (fun _ h_ => h_.1))))) (below_size BL)); have n5_ := Aside0.mk (blk_below (g := gb297) (o := .cells #[.int .i64 a0_0, .slice A0_1 l0_1.length c0_1] 24 (0, 0)) (by (with_reducible repeat (first | refine blk_drewN ?_ _ | refine blk_drew ?_ | refine blk_alloc ?_ _)); refine blk_far ?_ NB297_316.out _; (with_reducible repeat (first | refine blk_drewN ?_ _ | refine blk_drew ?_ | refine blk_alloc ?_ _)); refine blk_far ?_ NB297_316.out _; (with_reducible repeat (first | refine blk_drewN ?_ _ | refine blk_drew ?_ | refine blk_alloc ?_ _)); exact BK297.out) hb); have n6_ := Aside0.mk (blk_below (g := gb316) (o := .cells #[.int .i64 t312, .slice Ao92 t313.length co92] 33 (0, 0)) (by (with_reducible repeat (first | refine blk_drewN ?_ _ | refine blk_drew ?_ | refine blk_alloc ?_ _)); refine blk_put (cs := #[.int .i64 t312, .slice none 0 0]) ?_ 1 _ rfl; (with_reducible repeat (first | refine blk_drewN ?_ _ | refine blk_drew ?_ | refine blk_alloc ?_ _)); refine blk_put (cs := #[.int .i64 0, .slice none 0 0]) ?_ 0 _ rfl; (with_reducible repeat (first | refine blk_drewN ?_ _ | refine blk_drew ?_ | refine blk_alloc ?_ _)); exact BK316.out) hb); replace HB := BS (w := w) hb; clear HO304 HO307 HO310 HO315 BK297 BK316; have HO304 := n0_; have HO307 := n1_; have HO310 := n2_; have HO315 := n3_; have HO319 := n4_; have BK297 := n5_; have BK316 := n6_; clear n0_ n1_ n2_ n3_ n4_ n5_ n6_; (try clear hb); (try clear hk); (try clear ho0)) | ((with_reducible refine gate_callee (f := 14) rfl ?_); refine goesS (some 46) Try.func14 #[.slice A2 l2.length c2] ?_; (with_reducible refine (laws_toStringS.calls k _ _ l2 t320 _ ?side1 ?side2 A30.out).mono ?_); (case side1 => exact CB HR2); (case side2 => exact HC2.out); rintro e w94 ⟨v321, rfl, ho0, hb⟩; refine ⟨_, rfl, ?_⟩; have n2_ := Aside0.mk (Kd.R_elder' (RR HO310) (Kd.R_base ho0) hb); have n5_ := Aside0.mk (Kd.R_lower (Kd.R_new' ho0 (Kd.R_lt (RR HO310))) (below_size BL)); replace HO304 := RB HO304 hb; replace HO307 := RB HO307 hb; replace HO315 := RB HO315 hb; replace HO319 := RB HO319 hb; replace BK297 := KB BK297 hb; replace BK316 := KB BK316 hb; replace HB := BS (w := w) hb; clear HO310; have HO310 := n2_; have HO322 := n5_; clear n2_ n5_; (try clear hb); (try clear ho0); obtain ⟨hcz95_0, hcz95_1, hfz95_0, hfz95_1⟩ := cz2 BK316.out; obtain ⟨Ao96, co96, eo96⟩ := Kd.R_slice HO319.out; subst eo96; obtain ⟨Ao97, co97, eo97⟩ := Kd.R_slice HO322.out; subst eo97) | ((with_reducible refine gate_callee (f := 15) rfl ?_); refine goesS (some 51) Try.func15 #[.agg #[.int .i64 t312, .slice Ao92 t313.length co92], .slice Ao96 t317.length co96, .slice Ao97 t320.length co97, .string a3] ?_; (with_reducible refine (impl_Gain.calls k t312 _ _ t313 _ _ t317 _ _ t320 a3 t323 _ ?side1 ?side2 ?side3 ?side4 ?side5 ?side6 A31.out).mono ?_); (case side1 => exact CR2 HO315); (case side2 => exact (Kd.R_reads' HO315.out).2.1); (case side3 => exact CR2 HO319); (case side4 => exact (Kd.R_reads' HO319.out).2.1); (case side5 => exact CR2 HO322); (case side6 => exact (Kd.R_reads' HO322.out).2.1); rintro e w98 ⟨rfl, hb⟩; refine ⟨_, rfl, ?_⟩; replace HO304 := RB HO304 hb; replace HO307 := RB HO307 hb; replace HO310 := RB HO310 hb; replace HO315 := RB HO315 hb; replace HO319 := RB HO319 hb; replace HO322 := RB HO322 hb; replace BK297 := KB BK297 hb; replace BK316 := KB BK316 hb; replace HB := BS (w := w) hb; (try clear hb)))
         have n0_ := Aside0.mk (Kd.R_drew HO304.out)
         have n1_ := Aside0.mk (Kd.R_drew HO307.out)
         have n2_ := Aside0.mk (Kd.R_drew HO310.out)
         have n3_ := Aside0.mk (Kd.R_drew HO315.out)
         have n4_ := Aside0.mk (Kd.R_drew HO319.out)
         have n5_ := Aside0.mk (Kd.R_drew HO322.out)
         have n6_ := Aside0.mk (blk_drew BK297.out)
         have n7_ := Aside0.mk (blk_drew BK316.out)
         have n8_ := Aside0.mk (below_drew1 HB.out)
         clear HO304
         clear HO307
         clear HO310
         clear HO315
         clear HO319
         clear HO322
         clear BK297
         clear BK316
         clear HB
         have HO304 := n0_
         have HO307 := n1_
         have HO310 := n2_
         have HO315 := n3_
         have HO319 := n4_
         have HO322 := n5_
         have BK297 := n6_
         have BK316 := n7_
         have HB := n8_
         clear n0_ n1_ n2_ n3_ n4_ n5_ n6_ n7_ n8_
         refine start_ (n := 5) (S := fun w' => w'.cell? ⟨gb316, 0, none⟩ = some (.int .i64 t312) ∧ w'.cell? ⟨gb316, 1, none⟩ = some (.slice Ao92 t313.length co92) ∧ w'.cell? ⟨gb297, 0, none⟩ = some (.int .i64 a0_0) ∧ w'.cell? ⟨gb297, 1, none⟩ = some (.slice A0_1 l0_1.length c0_1)) (ds := []) #[false, false, false, false, false] (by kernel_rfl) rfl rfl ⟨(blk_cell BK316.out 0).trans rfl, (blk_cell BK316.out 1).trans rfl, (blk_cell BK297.out 0).trans rfl, (blk_cell BK297.out 1).trans rfl⟩ (fun hHeld => ?_)
         generalize w98.drew = w99 at HO304 HO307 HO310 HO315 HO319 HO322 BK297 BK316 HB hHeld ⊢
         refine take_ (i := 0) (N := some 55) (v := ?_) (a' := ?_) #[true, false, false, false, false] rfl rfl (by kernel_rfl) (fun _ _ _ h => h) (Or.inl ⟨by rfl, ?_⟩) hHeld ?_ ?_
         rotate_left
         ·rintro w' ⟨s0, s1, s2, s3⟩
          go_simp
          with_reducible rfl
         rotate_left
         ·simp only [Act.put, PT, i64_w, i32_w]
          rfl
         refine take_ (i := 1) (N := some 56) (v := ?_) (a' := ?_) #[true, true, false, false, false] rfl rfl (by kernel_rfl) (fun _ _ _ h => h) (Or.inl ⟨by rfl, ?_⟩) hHeld ?_ ?_
         rotate_left
         ·rintro w' ⟨s0, s1, s2, s3⟩
          go_simp
          with_reducible rfl
         rotate_left
         ·simp only [Act.put, PT, i64_w, i32_w]
          rfl
         refine one_ (i := 2) (N := some 57) #[true, true, true, false, false] rfl rfl (by kernel_rfl) (by decide) (fun K hK => ?_)
         refine goes_ Try.func12 (by kernel_rfl) rfl #[.agg #[.int .i64 a0_0, .slice A0_1 l0_1.length c0_1]] (by rfl) rfl rfl (by (try simp only [List.map_toArray, List.map_cons, List.map_nil]); first | done | rfl | (simp only [List.length_drop, List.length_take]; rfl)) ?_
         with_reducible refine (laws_toClue.calls k a0_0 _ _ l0_1 t324 t325 _ ?side1 ?side2 A33.out).mono ?_
         (case side1 => exact CB HR0_1)
         (case side2 => exact HC0_1.out)
         rintro e w100 ⟨v326, rfl, ho0, hb⟩
         refine ⟨_, rfl, ?_⟩
         have n0_ := Aside0.mk (Kd.R_elder' (RR HO304) (Kd.R_base ho0) hb)
         have n1_ := RB HO307 hb
         have n2_ := RB HO310 hb
         have n3_ := Aside0.mk (Kd.R_elder' (RR HO315) (Kd.R_base ho0) hb)
         have n4_ := RB HO319 hb
         have n5_ := RB HO322 hb
         have n6_ := Aside0.mk (Kd.R_lower (Kd.R_new' (Kd.R_new' ho0 (Kd.R_lt (RR HO304))) (Kd.R_lt (RR HO315))) (below_size BL))
         have n7_ := KB BK297 hb
         have n8_ := KB BK316 hb
         have n9_ := BS (w := w) hb
         clear HO304
         clear HO307
         clear HO310
         clear HO315
         clear HO319
         clear HO322
         clear BK297
         clear BK316
         clear HB
         have HO304 := n0_
         have HO307 := n1_
         have HO310 := n2_
         have HO315 := n3_
         have HO319 := n4_
         have HO322 := n5_
         have HO327 := n6_
         have BK297 := n7_
         have BK316 := n8_
         have HB := n9_
         clear n0_ n1_ n2_ n3_ n4_ n5_ n6_ n7_ n8_ n9_
         (try clear hb)
         (try clear hb2)
         (try clear hk)
         (try clear hi)
         (try clear ho0)
         obtain ⟨Ao101, co101, eo101⟩ := Kd.R_slice HO327.out
         (first | subst eo101 | (injection eo101 with f1_ f2_ f3_; have f4_ := f1_.symm; have f5_ := f3_.symm; clear f1_ f2_ f3_; subst f4_; subst f5_))
         refine hK.out _ _ ⟨(blk_cell BK316.out 0).trans rfl, (blk_cell BK316.out 1).trans rfl, (blk_cell BK297.out 0).trans rfl, (blk_cell BK297.out 1).trans rfl⟩ (fun hHeld => ?_)
         clear hK K
         refine norm_ (a' := ?_) ?_ ?_
         rotate_left
         ·show Act.put _ (some 57) _ = _
          simp only [Act.put, PT, i64_w, i32_w]
          rfl
         refine one_ (i := 3) (N := some 58) #[true, true, true, true, false] rfl rfl (by kernel_rfl) (by decide) (fun K hK => ?_)
         refine goes_ Try.func16 (by kernel_rfl) rfl #[.agg #[.int .i64 t312, .slice Ao92 t313.length co92], .agg #[.int .i64 t324, .slice Ao101 t325.length co101]] (by rfl) rfl rfl (by (try simp only [List.map_toArray, List.map_cons, List.map_nil]); first | done | rfl | (simp only [List.length_drop, List.length_take]; rfl)) ?_
         with_reducible refine (laws_eqClue.calls k t312 _ _ t313 t324 _ _ t325 true _ ?side1 ?side2 ?side3 ?side4 A34.out).mono ?_
         (case side1 => exact CR2 HO315)
         (case side2 => exact (Kd.R_reads' HO315.out).2.1)
         (case side3 => exact CR2 HO327)
         (case side4 => exact (Kd.R_reads' HO327.out).2.1)
         rintro e w102 ⟨rfl, hb⟩
         refine ⟨_, rfl, ?_⟩
         have n0_ := RB HO304 hb
         have n1_ := RB HO307 hb
         have n2_ := RB HO310 hb
         have n3_ := RB HO315 hb
         have n4_ := RB HO319 hb
         have n5_ := RB HO322 hb
         have n6_ := RB HO327 hb
         have n7_ := KB BK297 hb
         have n8_ := KB BK316 hb
         have n9_ := BS (w := w) hb
         clear HO304
         clear HO307
         clear HO310
         clear HO315
         clear HO319
         clear HO322
         clear HO327
         clear BK297
         clear BK316
         clear HB
         have HO304 := n0_
         have HO307 := n1_
         have HO310 := n2_
         have HO315 := n3_
         have HO319 := n4_
         have HO322 := n5_
         have HO327 := n6_
         have BK297 := n7_
         have BK316 := n8_
         have HB := n9_
         clear n0_ n1_ n2_ n3_ n4_ n5_ n6_ n7_ n8_ n9_
         (try clear hb)
         (try clear hb2)
         (try clear hk)
         (try clear hi)
         refine hK.out _ _ ⟨(blk_cell BK316.out 0).trans rfl, (blk_cell BK316.out 1).trans rfl, (blk_cell BK297.out 0).trans rfl, (blk_cell BK297.out 1).trans rfl⟩ (fun hHeld => ?_)
         clear hK K
         refine norm_ (a' := ?_) ?_ ?_
         rotate_left
         ·show Act.put _ (some 58) _ = _
          simp only [Act.put, PT, i64_w, i32_w]
          rfl
         refine puS (i := 4) (N := some 59) #[true, true, true, true, true] (by kernel_rfl) ?_
         refine done_ (by kernel_rfl) ?_
         try go_wp2_with (first | ((with_reducible refine gate_callee (f := 13) rfl ?_); refine goesS (some 62) Try.func13 #[.slice A1 l1.length c1] ?_; (with_reducible refine (laws_toMeaningS.calls k _ _ l1 t329 _ ?side1 ?side2 A36.out).mono ?_); (case side1 => exact CB HR1); (case side2 => exact HC1.out); rintro e w103 ⟨v330, rfl, ho0, hb⟩; refine ⟨_, rfl, ?_⟩; have n1_ := Aside0.mk (Kd.R_elder' (RR HO307) (Kd.R_base ho0) hb); have n4_ := Aside0.mk (Kd.R_elder' (RR HO319) (Kd.R_base ho0) hb); have n7_ := Aside0.mk (Kd.R_lower (Kd.R_new' (Kd.R_new' ho0 (Kd.R_lt (RR HO307))) (Kd.R_lt (RR HO319))) (below_size BL)); replace HO304 := RB HO304 hb; replace HO310 := RB HO310 hb; replace HO315 := RB HO315 hb; replace HO322 := RB HO322 hb; replace HO327 := RB HO327 hb; replace BK297 := KB BK297 hb; replace BK316 := KB BK316 hb; replace HB := BS (w := w) hb; clear HO307 HO319; have HO307 := n1_; have HO319 := n4_; have HO331 := n7_; clear n1_ n4_ n7_; (try clear hb); (try clear ho0); obtain ⟨Ao104, co104, eo104⟩ := Kd.R_slice HO331.out; subst eo104) | ((with_reducible refine gate_callee (f := 17) rfl ?_); refine goesS (some 63) Try.func17 #[.slice Ao96 t317.length co96, .slice Ao104 t329.length co104] ?_; (with_reducible refine (laws_eqMeaningS.calls k _ _ t317 _ _ t329 true _ ?side1 ?side2 ?side3 ?side4 A37.out).mono ?_); (case side1 => exact CR2 HO319); (case side2 => exact (Kd.R_reads' HO319.out).2.1); (case side3 => exact CR2 HO331); (case side4 => exact (Kd.R_reads' HO331.out).2.1); rintro e w105 ⟨rfl, hb⟩; refine ⟨_, rfl, ?_⟩; replace HO304 := RB HO304 hb; replace HO307 := RB HO307 hb; replace HO310 := RB HO310 hb; replace HO315 := RB HO315 hb; replace HO319 := RB HO319 hb; replace HO322 := RB HO322 hb; replace HO327 := RB HO327 hb; replace HO331 := RB HO331 hb; replace BK297 := KB BK297 hb; replace BK316 := KB BK316 hb; replace HB := BS (w := w) hb; (try clear hb)) | ((with_reducible refine gate_callee (f := 14) rfl ?_); refine goesS (some 67) Try.func14 #[.slice A2 l2.length c2] ?_; (with_reducible refine (laws_toStringS.calls k _ _ l2 t333 _ ?side1 ?side2 A39.out).mono ?_); (case side1 => exact CB HR2); (case side2 => exact HC2.out); rintro e w106 ⟨v334, rfl, ho0, hb⟩; refine ⟨_, rfl, ?_⟩; have n2_ := Aside0.mk (Kd.R_elder' (RR HO310) (Kd.R_base ho0) hb); have n5_ := Aside0.mk (Kd.R_elder' (RR HO322) (Kd.R_base ho0) hb); have n8_ := Aside0.mk (Kd.R_lower (Kd.R_new' (Kd.R_new' ho0 (Kd.R_lt (RR HO310))) (Kd.R_lt (RR HO322))) (below_size BL)); replace HO304 := RB HO304 hb; replace HO307 := RB HO307 hb; replace HO315 := RB HO315 hb; replace HO319 := RB HO319 hb; replace HO327 := RB HO327 hb; replace HO331 := RB HO331 hb; replace BK297 := KB BK297 hb; replace BK316 := KB BK316 hb; replace HB := BS (w := w) hb; clear HO310 HO322; have HO310 := n2_; have HO322 := n5_; have HO335 := n8_; clear n2_ n5_ n8_; (try clear hb); (try clear ho0); obtain ⟨Ao107, co107, eo107⟩ := Kd.R_slice HO335.out; subst eo107) | ((with_reducible refine gate_callee (f := 18) rfl ?_); refine goesS (some 68) Try.func18 #[.slice Ao97 t320.length co97, .slice Ao107 t333.length co107] ?_; (with_reducible refine (laws_eqStringS.calls k _ _ t320 _ _ t333 false _ ?side1 ?side2 ?side3 ?side4 A40.out).mono ?_); (case side1 => exact CR2 HO322); (case side2 => exact (Kd.R_reads' HO322.out).2.1); (case side3 => exact CR2 HO335); (case side4 => exact (Kd.R_reads' HO335.out).2.1); rintro e w' ⟨rfl, ⟨nd, rfl⟩⟩; refine ⟨_, rfl, ?_⟩))
         go_ret
         exact ⟨EWW, BL⟩
       ·replace c38 := Bool.eq_false_iff.mpr c38
        subst c38
        have H1 : (some false) = some r := by rw [if_neg (show ¬ (false = true) by decide)] at H; exact H
        clear H
        have H := H1
        clear H1
        obtain rfl := Option.some.inj H
        go_enter Try.func3, Try.ntmps3
        try go_wp2_with (first | ((with_reducible refine gate_dst (N := 4) rfl ?_); refine box_ev (N := 4) (cs := #[.int .i64 a0_0, .slice A0_1 l0_1.length c0_1]) (t := 24) ?_; intro gb297 hg w108 hbox hb; have n0_ := BS (w := w) hb; have n1_ := Aside0.mk (hbox); have n2_ := SZ (w := w) hg; have n3_ := SZ (w := w) hg; clear HB; have HB := n0_; have BK297 := n1_; have GW297 := n2_; have GE297 := n3_; clear n0_ n1_ n2_ n3_; clear hb hbox hg; obtain ⟨hcz109_0, hcz109_1, hfz109_0, hfz109_1⟩ := cz2 BK297.out) | ((with_reducible refine gate_callee (f := 8) rfl ?_); refine goesS (some 20) Try.func8 #[.agg #[.int .i64 a0_0, .slice A0_1 l0_1.length c0_1], .int .i64 1048576] ?_; (with_reducible refine (laws_szClue.calls k a0_0 _ _ l0_1 1048576 t298 _ ?side1 ?side2 A7.out).mono ?_); (case side1 => exact CB HR0_1); (case side2 => exact HC0_1.out); rintro e w110 ⟨rfl, hb⟩; refine ⟨_, rfl, ?_⟩; replace BK297 := KB BK297 hb; replace HB := BS (w := w) hb; (try clear hb)) | ((with_reducible refine gate_callee (f := 9) rfl ?_); refine goesS (some 25) Try.func9 #[.slice A1 l1.length c1, .int .i64 t298] ?_; (with_reducible refine (laws_szMeaningS.calls k _ _ l1 t298 t299 _ ?side1 ?side2 A12.out).mono ?_); (case side1 => exact CB HR1); (case side2 => exact HC1.out); rintro e w111 ⟨rfl, hb⟩; refine ⟨_, rfl, ?_⟩; replace BK297 := KB BK297 hb; replace HB := BS (w := w) hb; (try clear hb)) | ((with_reducible refine gate_callee (f := 10) rfl ?_); refine goesS (some 30) Try.func10 #[.slice A2 l2.length c2, .int .i64 t299] ?_; (with_reducible refine (laws_szStringS.calls k _ _ l2 t299 t300 _ ?side1 ?side2 A18.out).mono ?_); (case side1 => exact CB HR2); (case side2 => exact HC2.out); rintro e w' ⟨rfl, ⟨nd, rfl⟩⟩; refine ⟨_, rfl, ?_⟩; (try (rw [drewN_self w111]; generalize hq_ : World.drewN w111 _ = w111; have n0_ : Aside0 (w111.heap[gb297]? = some (.cells #[.int .i64 a0_0, .slice A0_1 l0_1.length c0_1] 24 (0, 0))) := ⟨by rw [← hq_]; exact BK⟩; have n1_ : Aside0 (Below w.heap.size w w111) := ⟨by rw [← hq_]; exact BL⟩; clear BK297 HB hq_; have BK297 := n0_; have HB := n1_; clear n0_ n1_)); have hfz109_0 := blk_frozen BK297.out 0; have hfz109_1 := blk_frozen BK297.out 1; obtain ⟨hcz112_0, hcz112_1, hfz112_0, hfz112_1⟩ := cz2 BK297.out) | ((with_reducible refine gate_callee (f := 12) rfl ?_); refine goesS (some 34) Try.func12 #[.agg #[.int .i64 a0_0, .slice A0_1 l0_1.length c0_1]] ?_; (with_reducible refine (laws_toClue.calls k a0_0 _ _ l0_1 t301 t302 _ ?side1 ?side2 A24.out).mono ?_); (case side1 => exact CB HR0_1); (case side2 => exact HC0_1.out); rintro e w113 ⟨v303, rfl, ho0, hb⟩; refine ⟨_, rfl, ?_⟩; have n0_ := Aside0.mk (Kd.R_lower ho0 (below_size BL)); replace BK297 := KB BK297 hb; replace HB := BS (w := w) hb; have HO304 := n0_; clear n0_; (try clear hb); (try clear ho0)) | ((with_reducible refine gate_callee (f := 13) rfl ?_); refine goesS (some 36) Try.func13 #[.slice A1 l1.length c1] ?_; (with_reducible refine (laws_toMeaningS.calls k _ _ l1 t305 _ ?side1 ?side2 A25.out).mono ?_); (case side1 => exact CB HR1); (case side2 => exact HC1.out); rintro e w114 ⟨v306, rfl, ho0, hb⟩; refine ⟨_, rfl, ?_⟩; have n1_ := Aside0.mk (Kd.R_lower ho0 (below_size BL)); replace HO304 := RB HO304 hb; replace BK297 := KB BK297 hb; replace HB := BS (w := w) hb; have HO307 := n1_; clear n1_; (try clear hb); (try clear ho0)) | ((with_reducible refine gate_callee (f := 14) rfl ?_); refine goesS (some 38) Try.func14 #[.slice A2 l2.length c2] ?_; (with_reducible refine (laws_toStringS.calls k _ _ l2 t308 _ ?side1 ?side2 A26.out).mono ?_); (case side1 => exact CB HR2); (case side2 => exact HC2.out); rintro e w115 ⟨v309, rfl, ho0, hb⟩; refine ⟨_, rfl, ?_⟩; have n2_ := Aside0.mk (Kd.R_lower ho0 (below_size BL)); replace HO304 := RB HO304 hb; replace HO307 := RB HO307 hb; replace BK297 := KB BK297 hb; replace HB := BS (w := w) hb; have HO310 := n2_; clear n2_; (try clear hb); (try clear ho0); obtain ⟨Ao116, co116, eo116⟩ := Kd.R_slice HO304.out; subst eo116; obtain ⟨Ao117, co117, eo117⟩ := Kd.R_slice HO307.out; subst eo117; obtain ⟨Ao118, co118, eo118⟩ := Kd.R_slice HO310.out; subst eo118) | ((with_reducible refine gate_callee (f := 11) rfl ?_); refine goesS (some 40) Try.func11 #[.agg #[.int .i64 t301, .slice Ao116 t302.length co116], .slice Ao117 t305.length co117, .slice Ao118 t308.length co118, .string a3] ?_; (with_reducible refine (spec_Gain.calls k t301 _ _ t302 _ _ t305 _ _ t308 a3 t311 _ ?side1 ?side2 ?side3 ?side4 ?side5 ?side6 A27.out).mono ?_); (case side1 => exact CR2 HO304); (case side2 => exact (Kd.R_reads' HO304.out).2.1); (case side3 => exact CR2 HO307); (case side4 => exact (Kd.R_reads' HO307.out).2.1); (case side5 => exact CR2 HO310); (case side6 => exact (Kd.R_reads' HO310.out).2.1); rintro e w119 ⟨rfl, hb⟩; refine ⟨_, rfl, ?_⟩; replace HO304 := RB HO304 hb; replace HO307 := RB HO307 hb; replace HO310 := RB HO310 hb; replace BK297 := KB BK297 hb; replace HB := BS (w := w) hb; (try clear hb); obtain ⟨hcz120_0, hcz120_1, hfz120_0, hfz120_1⟩ := cz2 BK297.out) | ((with_reducible refine gate_callee (f := 12) rfl ?_); refine goesS (some 42) Try.func12 #[.agg #[.int .i64 a0_0, .slice A0_1 l0_1.length c0_1]] ?_; (with_reducible refine (laws_toClue.calls k a0_0 _ _ l0_1 t312 t313 _ ?side1 ?side2 A28.out).mono ?_); (case side1 => exact CB HR0_1); (case side2 => exact HC0_1.out); rintro e w121 ⟨v314, rfl, ho0, hb⟩; refine ⟨_, rfl, ?_⟩; have n0_ := Aside0.mk (Kd.R_elder' (RR HO304) (Kd.R_base ho0) hb); have n3_ := Aside0.mk (Kd.R_lower (Kd.R_new' ho0 (Kd.R_lt (RR HO304))) (below_size BL)); replace HO307 := RB HO307 hb; replace HO310 := RB HO310 hb; replace BK297 := KB BK297 hb; replace HB := BS (w := w) hb; clear HO304; have HO304 := n0_; have HO315 := n3_; clear n0_ n3_; (try clear hb); (try clear ho0)) | ((with_reducible refine gate_dst (N := 11) rfl ?_); refine box_ev (N := 11) (cs := #[.int .i64 0, .slice none 0 0]) (t := 33) ?_; intro gb316 hg w122 hbox hb; have n0_ := RB HO304 hb; have n1_ := RB HO307 hb; have n2_ := RB HO310 hb; have n3_ := RB HO315 hb; have n4_ := KB BK297 hb; have n5_ := BS (w := w) hb; have n6_ := Aside0.mk (hbox); have n7_ := SZ (w := w) hg; have n8_ := SZ (w := w) hg; have n9_ := NL BK297 hg; have n10_ := NG BK297 hg; clear HO304 HO307 HO310 HO315 BK297 HB; have HO304 := n0_; have HO307 := n1_; have HO310 := n2_; have HO315 := n3_; have BK297 := n4_; have HB := n5_; have BK316 := n6_; have GW316 := n7_; have GE316 := n8_; have NB297_316 := n9_; have NB316_297 := n10_; clear n0_ n1_ n2_ n3_ n4_ n5_ n6_ n7_ n8_ n9_ n10_; clear hb hbox hg; have hnb123 := NB316_297.out; have hnc123 := NB297_316.out; obtain ⟨hcz124_0, hcz124_1, hfz124_0, hfz124_1⟩ := cz2 BK316.out; obtain ⟨Ao125, co125, eo125⟩ := Kd.R_slice HO315.out; subst eo125) | ((with_reducible refine gate_callee (f := 13) rfl ?_); refine goesS (some 44) Try.func13 #[.slice A1 l1.length c1] ?_; (with_reducible refine (laws_toMeaningS.calls k _ _ l1 t317 _ ?side1 ?side2 A29.out).mono ?_); (case side1 => exact Kd.C_below HR1.out BL); (case side2 => exact HC1.out); rintro e w126 ⟨v318, rfl, ho0, hb⟩; refine ⟨_, rfl, ?_⟩; have n0_ := Aside0.mk (Kd.R_below (by (with_reducible repeat (first | apply Kd.R_alloc | apply Kd.R_drewN | apply Kd.R_drew)); exact (Kd.R_mono (Kd.R_far (p := ⟨gb316, 1, none⟩) (Kd.R_far (p := ⟨gb316, 0, none⟩) (Kd.R_types HO304.out BK316.out (by decide)) (fun _ hk => hk.2) (.int .i64 t312)) (fun _ hk => hk.2) (.slice Ao125 t313.length co125)) (fun _ h_ => h_.1))) hb); have n1_ := Aside0.mk (Kd.R_elder' (by (with_reducible repeat (first | apply Kd.R_alloc | apply Kd.R_drewN | apply Kd.R_drew)); exact (Kd.R_mono (Kd.R_far (p := ⟨gb316, 1, none⟩) (Kd.R_far (p := ⟨gb316, 0, none⟩) (Kd.R_types HO307.out BK316.out (by decide)) (fun _ hk => hk.2) (.int .i64 t312)) (fun _ hk => hk.2) (.slice Ao125 t313.length co125)) (fun _ h_ => h_.1))) (Kd.R_base ho0) hb); have n2_ := Aside0.mk (Kd.R_below (by (with_reducible repeat (first | apply Kd.R_alloc | apply Kd.R_drewN | apply Kd.R_drew)); exact (Kd.R_mono (Kd.R_far (p := ⟨gb316, 1, none⟩) (Kd.R_far (p := ⟨gb316, 0, none⟩) (Kd.R_types HO310.out BK316.out (by decide)) (fun _ hk => hk.2) (.int .i64 t312)) (fun _ hk => hk.2) (.slice Ao125 t313.length co125)) (fun _ h_ => h_.1))) hb); have n3_ := Aside0.mk (Kd.R_below (by (with_reducible repeat (first | apply Kd.R_alloc | apply Kd.R_drewN | apply Kd.R_drew)); exact (Kd.R_mono (Kd.R_far (p := ⟨gb316, 1, none⟩) (Kd.R_far (p := ⟨gb316, 0, none⟩) (Kd.R_types HO315.out BK316.out (by decide)) (fun _ hk => hk.2) (.int .i64 t312)) (fun _ hk => hk.2) (.slice Ao125 t313.length co125)) (fun _ h_ => h_.1))) hb); have n4_ := Aside0.mk (Kd.R_lower (Kd.R_new' ho0 (Kd.R_lt (by (with_reducible repeat (first | apply Kd.R_alloc | apply Kd.R_drewN | apply Kd.R_drew)); exact (Kd.R_mono (Kd.R_far (p := ⟨gb316, 1, none⟩) (Kd.R_far (p := ⟨gb316, 0, none⟩) (Kd.R_types HO307.out BK316.out (by decide)) (fun _ hk => hk.2) (.int .i64 t312)) (fun _ hk => hk.2) (.slice Ao125 t313.length co125)) (fun _ h_ => h_.1))))) (below_size BL)); have n5_ := Aside0.mk (blk_below (g := gb297) (o := .cells #[.int .i64 a0_0, .slice A0_1 l0_1.length c0_1] 24 (0, 0)) (by (with_reducible repeat (first | refine blk_drewN ?_ _ | refine blk_drew ?_ | refine blk_alloc ?_ _)); refine blk_far ?_ NB297_316.out _; (with_reducible repeat (first | refine blk_drewN ?_ _ | refine blk_drew ?_ | refine blk_alloc ?_ _)); refine blk_far ?_ NB297_316.out _; (with_reducible repeat (first | refine blk_drewN ?_ _ | refine blk_drew ?_ | refine blk_alloc ?_ _)); exact BK297.out) hb); have n6_ := Aside0.mk (blk_below (g := gb316) (o := .cells #[.int .i64 t312, .slice Ao125 t313.length co125] 33 (0, 0)) (by (with_reducible repeat (first | refine blk_drewN ?_ _ | refine blk_drew ?_ | refine blk_alloc ?_ _)); refine blk_put (cs := #[.int .i64 t312, .slice none 0 0]) ?_ 1 _ rfl; (with_reducible repeat (first | refine blk_drewN ?_ _ | refine blk_drew ?_ | refine blk_alloc ?_ _)); refine blk_put (cs := #[.int .i64 0, .slice none 0 0]) ?_ 0 _ rfl; (with_reducible repeat (first | refine blk_drewN ?_ _ | refine blk_drew ?_ | refine blk_alloc ?_ _)); exact BK316.out) hb); replace HB := BS (w := w) hb; clear HO304 HO307 HO310 HO315 BK297 BK316; have HO304 := n0_; have HO307 := n1_; have HO310 := n2_; have HO315 := n3_; have HO319 := n4_; have BK297 := n5_; have BK316 := n6_; clear n0_ n1_ n2_ n3_ n4_ n5_ n6_; (try clear hb); (try clear hk); (try clear ho0)) | ((with_reducible refine gate_callee (f := 14) rfl ?_); refine goesS (some 46) Try.func14 #[.slice A2 l2.length c2] ?_; (with_reducible refine (laws_toStringS.calls k _ _ l2 t320 _ ?side1 ?side2 A30.out).mono ?_); (case side1 => exact CB HR2); (case side2 => exact HC2.out); rintro e w127 ⟨v321, rfl, ho0, hb⟩; refine ⟨_, rfl, ?_⟩; have n2_ := Aside0.mk (Kd.R_elder' (RR HO310) (Kd.R_base ho0) hb); have n5_ := Aside0.mk (Kd.R_lower (Kd.R_new' ho0 (Kd.R_lt (RR HO310))) (below_size BL)); replace HO304 := RB HO304 hb; replace HO307 := RB HO307 hb; replace HO315 := RB HO315 hb; replace HO319 := RB HO319 hb; replace BK297 := KB BK297 hb; replace BK316 := KB BK316 hb; replace HB := BS (w := w) hb; clear HO310; have HO310 := n2_; have HO322 := n5_; clear n2_ n5_; (try clear hb); (try clear ho0); obtain ⟨hcz128_0, hcz128_1, hfz128_0, hfz128_1⟩ := cz2 BK316.out; obtain ⟨Ao129, co129, eo129⟩ := Kd.R_slice HO319.out; subst eo129; obtain ⟨Ao130, co130, eo130⟩ := Kd.R_slice HO322.out; subst eo130) | ((with_reducible refine gate_callee (f := 15) rfl ?_); refine goesS (some 51) Try.func15 #[.agg #[.int .i64 t312, .slice Ao125 t313.length co125], .slice Ao129 t317.length co129, .slice Ao130 t320.length co130, .string a3] ?_; (with_reducible refine (impl_Gain.calls k t312 _ _ t313 _ _ t317 _ _ t320 a3 t323 _ ?side1 ?side2 ?side3 ?side4 ?side5 ?side6 A31.out).mono ?_); (case side1 => exact CR2 HO315); (case side2 => exact (Kd.R_reads' HO315.out).2.1); (case side3 => exact CR2 HO319); (case side4 => exact (Kd.R_reads' HO319.out).2.1); (case side5 => exact CR2 HO322); (case side6 => exact (Kd.R_reads' HO322.out).2.1); rintro e w131 ⟨rfl, hb⟩; refine ⟨_, rfl, ?_⟩; replace HO304 := RB HO304 hb; replace HO307 := RB HO307 hb; replace HO310 := RB HO310 hb; replace HO315 := RB HO315 hb; replace HO319 := RB HO319 hb; replace HO322 := RB HO322 hb; replace BK297 := KB BK297 hb; replace BK316 := KB BK316 hb; replace HB := BS (w := w) hb; (try clear hb)))
        have n0_ := Aside0.mk (Kd.R_drew HO304.out)
        have n1_ := Aside0.mk (Kd.R_drew HO307.out)
        have n2_ := Aside0.mk (Kd.R_drew HO310.out)
        have n3_ := Aside0.mk (Kd.R_drew HO315.out)
        have n4_ := Aside0.mk (Kd.R_drew HO319.out)
        have n5_ := Aside0.mk (Kd.R_drew HO322.out)
        have n6_ := Aside0.mk (blk_drew BK297.out)
        have n7_ := Aside0.mk (blk_drew BK316.out)
        have n8_ := Aside0.mk (below_drew1 HB.out)
        clear HO304
        clear HO307
        clear HO310
        clear HO315
        clear HO319
        clear HO322
        clear BK297
        clear BK316
        clear HB
        have HO304 := n0_
        have HO307 := n1_
        have HO310 := n2_
        have HO315 := n3_
        have HO319 := n4_
        have HO322 := n5_
        have BK297 := n6_
        have BK316 := n7_
        have HB := n8_
        clear n0_ n1_ n2_ n3_ n4_ n5_ n6_ n7_ n8_
        refine start_ (n := 5) (S := fun w' => w'.cell? ⟨gb316, 0, none⟩ = some (.int .i64 t312) ∧ w'.cell? ⟨gb316, 1, none⟩ = some (.slice Ao125 t313.length co125) ∧ w'.cell? ⟨gb297, 0, none⟩ = some (.int .i64 a0_0) ∧ w'.cell? ⟨gb297, 1, none⟩ = some (.slice A0_1 l0_1.length c0_1)) (ds := []) #[false, false, false, false, false] (by kernel_rfl) rfl rfl ⟨(blk_cell BK316.out 0).trans rfl, (blk_cell BK316.out 1).trans rfl, (blk_cell BK297.out 0).trans rfl, (blk_cell BK297.out 1).trans rfl⟩ (fun hHeld => ?_)
        generalize w131.drew = w132 at HO304 HO307 HO310 HO315 HO319 HO322 BK297 BK316 HB hHeld ⊢
        refine take_ (i := 0) (N := some 55) (v := ?_) (a' := ?_) #[true, false, false, false, false] rfl rfl (by kernel_rfl) (fun _ _ _ h => h) (Or.inl ⟨by rfl, ?_⟩) hHeld ?_ ?_
        rotate_left
        ·rintro w' ⟨s0, s1, s2, s3⟩
         go_simp
         with_reducible rfl
        rotate_left
        ·simp only [Act.put, PT, i64_w, i32_w]
         rfl
        refine take_ (i := 1) (N := some 56) (v := ?_) (a' := ?_) #[true, true, false, false, false] rfl rfl (by kernel_rfl) (fun _ _ _ h => h) (Or.inl ⟨by rfl, ?_⟩) hHeld ?_ ?_
        rotate_left
        ·rintro w' ⟨s0, s1, s2, s3⟩
         go_simp
         with_reducible rfl
        rotate_left
        ·simp only [Act.put, PT, i64_w, i32_w]
         rfl
        refine one_ (i := 2) (N := some 57) #[true, true, true, false, false] rfl rfl (by kernel_rfl) (by decide) (fun K hK => ?_)
        refine goes_ Try.func12 (by kernel_rfl) rfl #[.agg #[.int .i64 a0_0, .slice A0_1 l0_1.length c0_1]] (by rfl) rfl rfl (by (try simp only [List.map_toArray, List.map_cons, List.map_nil]); first | done | rfl | (simp only [List.length_drop, List.length_take]; rfl)) ?_
        with_reducible refine (laws_toClue.calls k a0_0 _ _ l0_1 t324 t325 _ ?side1 ?side2 A33.out).mono ?_
        (case side1 => exact CB HR0_1)
        (case side2 => exact HC0_1.out)
        rintro e w133 ⟨v326, rfl, ho0, hb⟩
        refine ⟨_, rfl, ?_⟩
        have n0_ := Aside0.mk (Kd.R_elder' (RR HO304) (Kd.R_base ho0) hb)
        have n1_ := RB HO307 hb
        have n2_ := RB HO310 hb
        have n3_ := Aside0.mk (Kd.R_elder' (RR HO315) (Kd.R_base ho0) hb)
        have n4_ := RB HO319 hb
        have n5_ := RB HO322 hb
        have n6_ := Aside0.mk (Kd.R_lower (Kd.R_new' (Kd.R_new' ho0 (Kd.R_lt (RR HO304))) (Kd.R_lt (RR HO315))) (below_size BL))
        have n7_ := KB BK297 hb
        have n8_ := KB BK316 hb
        have n9_ := BS (w := w) hb
        clear HO304
        clear HO307
        clear HO310
        clear HO315
        clear HO319
        clear HO322
        clear BK297
        clear BK316
        clear HB
        have HO304 := n0_
        have HO307 := n1_
        have HO310 := n2_
        have HO315 := n3_
        have HO319 := n4_
        have HO322 := n5_
        have HO327 := n6_
        have BK297 := n7_
        have BK316 := n8_
        have HB := n9_
        clear n0_ n1_ n2_ n3_ n4_ n5_ n6_ n7_ n8_ n9_
        (try clear hb)
        (try clear hb2)
        (try clear hk)
        (try clear hi)
        (try clear ho0)
        obtain ⟨Ao134, co134, eo134⟩ := Kd.R_slice HO327.out
        (first | subst eo134 | (injection eo134 with f1_ f2_ f3_; have f4_ := f1_.symm; have f5_ := f3_.symm; clear f1_ f2_ f3_; subst f4_; subst f5_))
        refine hK.out _ _ ⟨(blk_cell BK316.out 0).trans rfl, (blk_cell BK316.out 1).trans rfl, (blk_cell BK297.out 0).trans rfl, (blk_cell BK297.out 1).trans rfl⟩ (fun hHeld => ?_)
        clear hK K
        refine norm_ (a' := ?_) ?_ ?_
        rotate_left
        ·show Act.put _ (some 57) _ = _
         simp only [Act.put, PT, i64_w, i32_w]
         rfl
        refine one_ (i := 3) (N := some 58) #[true, true, true, true, false] rfl rfl (by kernel_rfl) (by decide) (fun K hK => ?_)
        refine goes_ Try.func16 (by kernel_rfl) rfl #[.agg #[.int .i64 t312, .slice Ao125 t313.length co125], .agg #[.int .i64 t324, .slice Ao134 t325.length co134]] (by rfl) rfl rfl (by (try simp only [List.map_toArray, List.map_cons, List.map_nil]); first | done | rfl | (simp only [List.length_drop, List.length_take]; rfl)) ?_
        with_reducible refine (laws_eqClue.calls k t312 _ _ t313 t324 _ _ t325 true _ ?side1 ?side2 ?side3 ?side4 A34.out).mono ?_
        (case side1 => exact CR2 HO315)
        (case side2 => exact (Kd.R_reads' HO315.out).2.1)
        (case side3 => exact CR2 HO327)
        (case side4 => exact (Kd.R_reads' HO327.out).2.1)
        rintro e w135 ⟨rfl, hb⟩
        refine ⟨_, rfl, ?_⟩
        have n0_ := RB HO304 hb
        have n1_ := RB HO307 hb
        have n2_ := RB HO310 hb
        have n3_ := RB HO315 hb
        have n4_ := RB HO319 hb
        have n5_ := RB HO322 hb
        have n6_ := RB HO327 hb
        have n7_ := KB BK297 hb
        have n8_ := KB BK316 hb
        have n9_ := BS (w := w) hb
        clear HO304
        clear HO307
        clear HO310
        clear HO315
        clear HO319
        clear HO322
        clear HO327
        clear BK297
        clear BK316
        clear HB
        have HO304 := n0_
        have HO307 := n1_
        have HO310 := n2_
        have HO315 := n3_
        have HO319 := n4_
        have HO322 := n5_
        have HO327 := n6_
        have BK297 := n7_
        have BK316 := n8_
        have HB := n9_
        clear n0_ n1_ n2_ n3_ n4_ n5_ n6_ n7_ n8_ n9_
        (try clear hb)
        (try clear hb2)
        (try clear hk)
        (try clear hi)
        refine hK.out _ _ ⟨(blk_cell BK316.out 0).trans rfl, (blk_cell BK316.out 1).trans rfl, (blk_cell BK297.out 0).trans rfl, (blk_cell BK297.out 1).trans rfl⟩ (fun hHeld => ?_)
        clear hK K
        refine norm_ (a' := ?_) ?_ ?_
        rotate_left
        ·show Act.put _ (some 58) _ = _
         simp only [Act.put, PT, i64_w, i32_w]
         rfl
        refine puS (i := 4) (N := some 59) #[true, true, true, true, true] (by kernel_rfl) ?_
        refine done_ (by kernel_rfl) ?_
        try go_wp2_with (first | ((with_reducible refine gate_callee (f := 13) rfl ?_); refine goesS (some 62) Try.func13 #[.slice A1 l1.length c1] ?_; (with_reducible refine (laws_toMeaningS.calls k _ _ l1 t329 _ ?side1 ?side2 A36.out).mono ?_); (case side1 => exact CB HR1); (case side2 => exact HC1.out); rintro e w136 ⟨v330, rfl, ho0, hb⟩; refine ⟨_, rfl, ?_⟩; have n1_ := Aside0.mk (Kd.R_elder' (RR HO307) (Kd.R_base ho0) hb); have n4_ := Aside0.mk (Kd.R_elder' (RR HO319) (Kd.R_base ho0) hb); have n7_ := Aside0.mk (Kd.R_lower (Kd.R_new' (Kd.R_new' ho0 (Kd.R_lt (RR HO307))) (Kd.R_lt (RR HO319))) (below_size BL)); replace HO304 := RB HO304 hb; replace HO310 := RB HO310 hb; replace HO315 := RB HO315 hb; replace HO322 := RB HO322 hb; replace HO327 := RB HO327 hb; replace BK297 := KB BK297 hb; replace BK316 := KB BK316 hb; replace HB := BS (w := w) hb; clear HO307 HO319; have HO307 := n1_; have HO319 := n4_; have HO331 := n7_; clear n1_ n4_ n7_; (try clear hb); (try clear ho0); obtain ⟨Ao137, co137, eo137⟩ := Kd.R_slice HO331.out; subst eo137) | ((with_reducible refine gate_callee (f := 17) rfl ?_); refine goesS (some 63) Try.func17 #[.slice Ao129 t317.length co129, .slice Ao137 t329.length co137] ?_; (with_reducible refine (laws_eqMeaningS.calls k _ _ t317 _ _ t329 false _ ?side1 ?side2 ?side3 ?side4 A37.out).mono ?_); (case side1 => exact CR2 HO319); (case side2 => exact (Kd.R_reads' HO319.out).2.1); (case side3 => exact CR2 HO331); (case side4 => exact (Kd.R_reads' HO331.out).2.1); rintro e w138 ⟨rfl, hb⟩; refine ⟨_, rfl, ?_⟩; replace HO304 := RB HO304 hb; replace HO307 := RB HO307 hb; replace HO310 := RB HO310 hb; replace HO315 := RB HO315 hb; replace HO319 := RB HO319 hb; replace HO322 := RB HO322 hb; replace HO327 := RB HO327 hb; replace HO331 := RB HO331 hb; replace BK297 := KB BK297 hb; replace BK316 := KB BK316 hb; replace HB := BS (w := w) hb; (try clear hb)))
        go_ret
        exact ⟨EWW, BL⟩
      ·replace c35 := Bool.eq_false_iff.mpr c35
       subst c35
       have H1 : (some false) = some r := by rw [if_neg (show ¬ (false = true) by decide)] at H; exact H
       clear H
       have H := H1
       clear H1
       obtain rfl := Option.some.inj H
       go_enter Try.func3, Try.ntmps3
       try go_wp2_with (first | ((with_reducible refine gate_dst (N := 4) rfl ?_); refine box_ev (N := 4) (cs := #[.int .i64 a0_0, .slice A0_1 l0_1.length c0_1]) (t := 24) ?_; intro gb297 hg w139 hbox hb; have n0_ := BS (w := w) hb; have n1_ := Aside0.mk (hbox); have n2_ := SZ (w := w) hg; have n3_ := SZ (w := w) hg; clear HB; have HB := n0_; have BK297 := n1_; have GW297 := n2_; have GE297 := n3_; clear n0_ n1_ n2_ n3_; clear hb hbox hg; obtain ⟨hcz140_0, hcz140_1, hfz140_0, hfz140_1⟩ := cz2 BK297.out) | ((with_reducible refine gate_callee (f := 8) rfl ?_); refine goesS (some 20) Try.func8 #[.agg #[.int .i64 a0_0, .slice A0_1 l0_1.length c0_1], .int .i64 1048576] ?_; (with_reducible refine (laws_szClue.calls k a0_0 _ _ l0_1 1048576 t298 _ ?side1 ?side2 A7.out).mono ?_); (case side1 => exact CB HR0_1); (case side2 => exact HC0_1.out); rintro e w141 ⟨rfl, hb⟩; refine ⟨_, rfl, ?_⟩; replace BK297 := KB BK297 hb; replace HB := BS (w := w) hb; (try clear hb)) | ((with_reducible refine gate_callee (f := 9) rfl ?_); refine goesS (some 25) Try.func9 #[.slice A1 l1.length c1, .int .i64 t298] ?_; (with_reducible refine (laws_szMeaningS.calls k _ _ l1 t298 t299 _ ?side1 ?side2 A12.out).mono ?_); (case side1 => exact CB HR1); (case side2 => exact HC1.out); rintro e w142 ⟨rfl, hb⟩; refine ⟨_, rfl, ?_⟩; replace BK297 := KB BK297 hb; replace HB := BS (w := w) hb; (try clear hb)) | ((with_reducible refine gate_callee (f := 10) rfl ?_); refine goesS (some 30) Try.func10 #[.slice A2 l2.length c2, .int .i64 t299] ?_; (with_reducible refine (laws_szStringS.calls k _ _ l2 t299 t300 _ ?side1 ?side2 A18.out).mono ?_); (case side1 => exact CB HR2); (case side2 => exact HC2.out); rintro e w' ⟨rfl, ⟨nd, rfl⟩⟩; refine ⟨_, rfl, ?_⟩; (try (rw [drewN_self w142]; generalize hq_ : World.drewN w142 _ = w142; have n0_ : Aside0 (w142.heap[gb297]? = some (.cells #[.int .i64 a0_0, .slice A0_1 l0_1.length c0_1] 24 (0, 0))) := ⟨by rw [← hq_]; exact BK⟩; have n1_ : Aside0 (Below w.heap.size w w142) := ⟨by rw [← hq_]; exact BL⟩; clear BK297 HB hq_; have BK297 := n0_; have HB := n1_; clear n0_ n1_)); have hfz140_0 := blk_frozen BK297.out 0; have hfz140_1 := blk_frozen BK297.out 1; obtain ⟨hcz143_0, hcz143_1, hfz143_0, hfz143_1⟩ := cz2 BK297.out) | ((with_reducible refine gate_callee (f := 12) rfl ?_); refine goesS (some 34) Try.func12 #[.agg #[.int .i64 a0_0, .slice A0_1 l0_1.length c0_1]] ?_; (with_reducible refine (laws_toClue.calls k a0_0 _ _ l0_1 t301 t302 _ ?side1 ?side2 A24.out).mono ?_); (case side1 => exact CB HR0_1); (case side2 => exact HC0_1.out); rintro e w144 ⟨v303, rfl, ho0, hb⟩; refine ⟨_, rfl, ?_⟩; have n0_ := Aside0.mk (Kd.R_lower ho0 (below_size BL)); replace BK297 := KB BK297 hb; replace HB := BS (w := w) hb; have HO304 := n0_; clear n0_; (try clear hb); (try clear ho0)) | ((with_reducible refine gate_callee (f := 13) rfl ?_); refine goesS (some 36) Try.func13 #[.slice A1 l1.length c1] ?_; (with_reducible refine (laws_toMeaningS.calls k _ _ l1 t305 _ ?side1 ?side2 A25.out).mono ?_); (case side1 => exact CB HR1); (case side2 => exact HC1.out); rintro e w145 ⟨v306, rfl, ho0, hb⟩; refine ⟨_, rfl, ?_⟩; have n1_ := Aside0.mk (Kd.R_lower ho0 (below_size BL)); replace HO304 := RB HO304 hb; replace BK297 := KB BK297 hb; replace HB := BS (w := w) hb; have HO307 := n1_; clear n1_; (try clear hb); (try clear ho0)) | ((with_reducible refine gate_callee (f := 14) rfl ?_); refine goesS (some 38) Try.func14 #[.slice A2 l2.length c2] ?_; (with_reducible refine (laws_toStringS.calls k _ _ l2 t308 _ ?side1 ?side2 A26.out).mono ?_); (case side1 => exact CB HR2); (case side2 => exact HC2.out); rintro e w146 ⟨v309, rfl, ho0, hb⟩; refine ⟨_, rfl, ?_⟩; have n2_ := Aside0.mk (Kd.R_lower ho0 (below_size BL)); replace HO304 := RB HO304 hb; replace HO307 := RB HO307 hb; replace BK297 := KB BK297 hb; replace HB := BS (w := w) hb; have HO310 := n2_; clear n2_; (try clear hb); (try clear ho0); obtain ⟨Ao147, co147, eo147⟩ := Kd.R_slice HO304.out; subst eo147; obtain ⟨Ao148, co148, eo148⟩ := Kd.R_slice HO307.out; subst eo148; obtain ⟨Ao149, co149, eo149⟩ := Kd.R_slice HO310.out; subst eo149) | ((with_reducible refine gate_callee (f := 11) rfl ?_); refine goesS (some 40) Try.func11 #[.agg #[.int .i64 t301, .slice Ao147 t302.length co147], .slice Ao148 t305.length co148, .slice Ao149 t308.length co149, .string a3] ?_; (with_reducible refine (spec_Gain.calls k t301 _ _ t302 _ _ t305 _ _ t308 a3 t311 _ ?side1 ?side2 ?side3 ?side4 ?side5 ?side6 A27.out).mono ?_); (case side1 => exact CR2 HO304); (case side2 => exact (Kd.R_reads' HO304.out).2.1); (case side3 => exact CR2 HO307); (case side4 => exact (Kd.R_reads' HO307.out).2.1); (case side5 => exact CR2 HO310); (case side6 => exact (Kd.R_reads' HO310.out).2.1); rintro e w150 ⟨rfl, hb⟩; refine ⟨_, rfl, ?_⟩; replace HO304 := RB HO304 hb; replace HO307 := RB HO307 hb; replace HO310 := RB HO310 hb; replace BK297 := KB BK297 hb; replace HB := BS (w := w) hb; (try clear hb); obtain ⟨hcz151_0, hcz151_1, hfz151_0, hfz151_1⟩ := cz2 BK297.out) | ((with_reducible refine gate_callee (f := 12) rfl ?_); refine goesS (some 42) Try.func12 #[.agg #[.int .i64 a0_0, .slice A0_1 l0_1.length c0_1]] ?_; (with_reducible refine (laws_toClue.calls k a0_0 _ _ l0_1 t312 t313 _ ?side1 ?side2 A28.out).mono ?_); (case side1 => exact CB HR0_1); (case side2 => exact HC0_1.out); rintro e w152 ⟨v314, rfl, ho0, hb⟩; refine ⟨_, rfl, ?_⟩; have n0_ := Aside0.mk (Kd.R_elder' (RR HO304) (Kd.R_base ho0) hb); have n3_ := Aside0.mk (Kd.R_lower (Kd.R_new' ho0 (Kd.R_lt (RR HO304))) (below_size BL)); replace HO307 := RB HO307 hb; replace HO310 := RB HO310 hb; replace BK297 := KB BK297 hb; replace HB := BS (w := w) hb; clear HO304; have HO304 := n0_; have HO315 := n3_; clear n0_ n3_; (try clear hb); (try clear ho0)) | ((with_reducible refine gate_dst (N := 11) rfl ?_); refine box_ev (N := 11) (cs := #[.int .i64 0, .slice none 0 0]) (t := 33) ?_; intro gb316 hg w153 hbox hb; have n0_ := RB HO304 hb; have n1_ := RB HO307 hb; have n2_ := RB HO310 hb; have n3_ := RB HO315 hb; have n4_ := KB BK297 hb; have n5_ := BS (w := w) hb; have n6_ := Aside0.mk (hbox); have n7_ := SZ (w := w) hg; have n8_ := SZ (w := w) hg; have n9_ := NL BK297 hg; have n10_ := NG BK297 hg; clear HO304 HO307 HO310 HO315 BK297 HB; have HO304 := n0_; have HO307 := n1_; have HO310 := n2_; have HO315 := n3_; have BK297 := n4_; have HB := n5_; have BK316 := n6_; have GW316 := n7_; have GE316 := n8_; have NB297_316 := n9_; have NB316_297 := n10_; clear n0_ n1_ n2_ n3_ n4_ n5_ n6_ n7_ n8_ n9_ n10_; clear hb hbox hg; have hnb154 := NB316_297.out; have hnc154 := NB297_316.out; obtain ⟨hcz155_0, hcz155_1, hfz155_0, hfz155_1⟩ := cz2 BK316.out; obtain ⟨Ao156, co156, eo156⟩ := Kd.R_slice HO315.out; subst eo156) | ((with_reducible refine gate_callee (f := 13) rfl ?_); refine goesS (some 44) Try.func13 #[.slice A1 l1.length c1] ?_; (with_reducible refine (laws_toMeaningS.calls k _ _ l1 t317 _ ?side1 ?side2 A29.out).mono ?_); (case side1 => exact Kd.C_below HR1.out BL); (case side2 => exact HC1.out); rintro e w157 ⟨v318, rfl, ho0, hb⟩; refine ⟨_, rfl, ?_⟩; have n0_ := Aside0.mk (Kd.R_below (by (with_reducible repeat (first | apply Kd.R_alloc | apply Kd.R_drewN | apply Kd.R_drew)); exact (Kd.R_mono (Kd.R_far (p := ⟨gb316, 1, none⟩) (Kd.R_far (p := ⟨gb316, 0, none⟩) (Kd.R_types HO304.out BK316.out (by decide)) (fun _ hk => hk.2) (.int .i64 t312)) (fun _ hk => hk.2) (.slice Ao156 t313.length co156)) (fun _ h_ => h_.1))) hb); have n1_ := Aside0.mk (Kd.R_elder' (by (with_reducible repeat (first | apply Kd.R_alloc | apply Kd.R_drewN | apply Kd.R_drew)); exact (Kd.R_mono (Kd.R_far (p := ⟨gb316, 1, none⟩) (Kd.R_far (p := ⟨gb316, 0, none⟩) (Kd.R_types HO307.out BK316.out (by decide)) (fun _ hk => hk.2) (.int .i64 t312)) (fun _ hk => hk.2) (.slice Ao156 t313.length co156)) (fun _ h_ => h_.1))) (Kd.R_base ho0) hb); have n2_ := Aside0.mk (Kd.R_below (by (with_reducible repeat (first | apply Kd.R_alloc | apply Kd.R_drewN | apply Kd.R_drew)); exact (Kd.R_mono (Kd.R_far (p := ⟨gb316, 1, none⟩) (Kd.R_far (p := ⟨gb316, 0, none⟩) (Kd.R_types HO310.out BK316.out (by decide)) (fun _ hk => hk.2) (.int .i64 t312)) (fun _ hk => hk.2) (.slice Ao156 t313.length co156)) (fun _ h_ => h_.1))) hb); have n3_ := Aside0.mk (Kd.R_below (by (with_reducible repeat (first | apply Kd.R_alloc | apply Kd.R_drewN | apply Kd.R_drew)); exact (Kd.R_mono (Kd.R_far (p := ⟨gb316, 1, none⟩) (Kd.R_far (p := ⟨gb316, 0, none⟩) (Kd.R_types HO315.out BK316.out (by decide)) (fun _ hk => hk.2) (.int .i64 t312)) (fun _ hk => hk.2) (.slice Ao156 t313.length co156)) (fun _ h_ => h_.1))) hb); have n4_ := Aside0.mk (Kd.R_lower (Kd.R_new' ho0 (Kd.R_lt (by (with_reducible repeat (first | apply Kd.R_alloc | apply Kd.R_drewN | apply Kd.R_drew)); exact (Kd.R_mono (Kd.R_far (p := ⟨gb316, 1, none⟩) (Kd.R_far (p := ⟨gb316, 0, none⟩) (Kd.R_types HO307.out BK316.out (by decide)) (fun _ hk => hk.2) (.int .i64 t312)) (fun _ hk => hk.2) (.slice Ao156 t313.length co156)) (fun _ h_ => h_.1))))) (below_size BL)); have n5_ := Aside0.mk (blk_below (g := gb297) (o := .cells #[.int .i64 a0_0, .slice A0_1 l0_1.length c0_1] 24 (0, 0)) (by (with_reducible repeat (first | refine blk_drewN ?_ _ | refine blk_drew ?_ | refine blk_alloc ?_ _)); refine blk_far ?_ NB297_316.out _; (with_reducible repeat (first | refine blk_drewN ?_ _ | refine blk_drew ?_ | refine blk_alloc ?_ _)); refine blk_far ?_ NB297_316.out _; (with_reducible repeat (first | refine blk_drewN ?_ _ | refine blk_drew ?_ | refine blk_alloc ?_ _)); exact BK297.out) hb); have n6_ := Aside0.mk (blk_below (g := gb316) (o := .cells #[.int .i64 t312, .slice Ao156 t313.length co156] 33 (0, 0)) (by (with_reducible repeat (first | refine blk_drewN ?_ _ | refine blk_drew ?_ | refine blk_alloc ?_ _)); refine blk_put (cs := #[.int .i64 t312, .slice none 0 0]) ?_ 1 _ rfl; (with_reducible repeat (first | refine blk_drewN ?_ _ | refine blk_drew ?_ | refine blk_alloc ?_ _)); refine blk_put (cs := #[.int .i64 0, .slice none 0 0]) ?_ 0 _ rfl; (with_reducible repeat (first | refine blk_drewN ?_ _ | refine blk_drew ?_ | refine blk_alloc ?_ _)); exact BK316.out) hb); replace HB := BS (w := w) hb; clear HO304 HO307 HO310 HO315 BK297 BK316; have HO304 := n0_; have HO307 := n1_; have HO310 := n2_; have HO315 := n3_; have HO319 := n4_; have BK297 := n5_; have BK316 := n6_; clear n0_ n1_ n2_ n3_ n4_ n5_ n6_; (try clear hb); (try clear hk); (try clear ho0)) | ((with_reducible refine gate_callee (f := 14) rfl ?_); refine goesS (some 46) Try.func14 #[.slice A2 l2.length c2] ?_; (with_reducible refine (laws_toStringS.calls k _ _ l2 t320 _ ?side1 ?side2 A30.out).mono ?_); (case side1 => exact CB HR2); (case side2 => exact HC2.out); rintro e w158 ⟨v321, rfl, ho0, hb⟩; refine ⟨_, rfl, ?_⟩; have n2_ := Aside0.mk (Kd.R_elder' (RR HO310) (Kd.R_base ho0) hb); have n5_ := Aside0.mk (Kd.R_lower (Kd.R_new' ho0 (Kd.R_lt (RR HO310))) (below_size BL)); replace HO304 := RB HO304 hb; replace HO307 := RB HO307 hb; replace HO315 := RB HO315 hb; replace HO319 := RB HO319 hb; replace BK297 := KB BK297 hb; replace BK316 := KB BK316 hb; replace HB := BS (w := w) hb; clear HO310; have HO310 := n2_; have HO322 := n5_; clear n2_ n5_; (try clear hb); (try clear ho0); obtain ⟨hcz159_0, hcz159_1, hfz159_0, hfz159_1⟩ := cz2 BK316.out; obtain ⟨Ao160, co160, eo160⟩ := Kd.R_slice HO319.out; subst eo160; obtain ⟨Ao161, co161, eo161⟩ := Kd.R_slice HO322.out; subst eo161) | ((with_reducible refine gate_callee (f := 15) rfl ?_); refine goesS (some 51) Try.func15 #[.agg #[.int .i64 t312, .slice Ao156 t313.length co156], .slice Ao160 t317.length co160, .slice Ao161 t320.length co161, .string a3] ?_; (with_reducible refine (impl_Gain.calls k t312 _ _ t313 _ _ t317 _ _ t320 a3 t323 _ ?side1 ?side2 ?side3 ?side4 ?side5 ?side6 A31.out).mono ?_); (case side1 => exact CR2 HO315); (case side2 => exact (Kd.R_reads' HO315.out).2.1); (case side3 => exact CR2 HO319); (case side4 => exact (Kd.R_reads' HO319.out).2.1); (case side5 => exact CR2 HO322); (case side6 => exact (Kd.R_reads' HO322.out).2.1); rintro e w162 ⟨rfl, hb⟩; refine ⟨_, rfl, ?_⟩; replace HO304 := RB HO304 hb; replace HO307 := RB HO307 hb; replace HO310 := RB HO310 hb; replace HO315 := RB HO315 hb; replace HO319 := RB HO319 hb; replace HO322 := RB HO322 hb; replace BK297 := KB BK297 hb; replace BK316 := KB BK316 hb; replace HB := BS (w := w) hb; (try clear hb)))
       have n0_ := Aside0.mk (Kd.R_drew HO304.out)
       have n1_ := Aside0.mk (Kd.R_drew HO307.out)
       have n2_ := Aside0.mk (Kd.R_drew HO310.out)
       have n3_ := Aside0.mk (Kd.R_drew HO315.out)
       have n4_ := Aside0.mk (Kd.R_drew HO319.out)
       have n5_ := Aside0.mk (Kd.R_drew HO322.out)
       have n6_ := Aside0.mk (blk_drew BK297.out)
       have n7_ := Aside0.mk (blk_drew BK316.out)
       have n8_ := Aside0.mk (below_drew1 HB.out)
       clear HO304
       clear HO307
       clear HO310
       clear HO315
       clear HO319
       clear HO322
       clear BK297
       clear BK316
       clear HB
       have HO304 := n0_
       have HO307 := n1_
       have HO310 := n2_
       have HO315 := n3_
       have HO319 := n4_
       have HO322 := n5_
       have BK297 := n6_
       have BK316 := n7_
       have HB := n8_
       clear n0_ n1_ n2_ n3_ n4_ n5_ n6_ n7_ n8_
       refine start_ (n := 5) (S := fun w' => w'.cell? ⟨gb316, 0, none⟩ = some (.int .i64 t312) ∧ w'.cell? ⟨gb316, 1, none⟩ = some (.slice Ao156 t313.length co156) ∧ w'.cell? ⟨gb297, 0, none⟩ = some (.int .i64 a0_0) ∧ w'.cell? ⟨gb297, 1, none⟩ = some (.slice A0_1 l0_1.length c0_1)) (ds := []) #[false, false, false, false, false] (by kernel_rfl) rfl rfl ⟨(blk_cell BK316.out 0).trans rfl, (blk_cell BK316.out 1).trans rfl, (blk_cell BK297.out 0).trans rfl, (blk_cell BK297.out 1).trans rfl⟩ (fun hHeld => ?_)
       generalize w162.drew = w163 at HO304 HO307 HO310 HO315 HO319 HO322 BK297 BK316 HB hHeld ⊢
       refine take_ (i := 0) (N := some 55) (v := ?_) (a' := ?_) #[true, false, false, false, false] rfl rfl (by kernel_rfl) (fun _ _ _ h => h) (Or.inl ⟨by rfl, ?_⟩) hHeld ?_ ?_
       rotate_left
       ·rintro w' ⟨s0, s1, s2, s3⟩
        go_simp
        with_reducible rfl
       rotate_left
       ·simp only [Act.put, PT, i64_w, i32_w]
        rfl
       refine take_ (i := 1) (N := some 56) (v := ?_) (a' := ?_) #[true, true, false, false, false] rfl rfl (by kernel_rfl) (fun _ _ _ h => h) (Or.inl ⟨by rfl, ?_⟩) hHeld ?_ ?_
       rotate_left
       ·rintro w' ⟨s0, s1, s2, s3⟩
        go_simp
        with_reducible rfl
       rotate_left
       ·simp only [Act.put, PT, i64_w, i32_w]
        rfl
       refine one_ (i := 2) (N := some 57) #[true, true, true, false, false] rfl rfl (by kernel_rfl) (by decide) (fun K hK => ?_)
       refine goes_ Try.func12 (by kernel_rfl) rfl #[.agg #[.int .i64 a0_0, .slice A0_1 l0_1.length c0_1]] (by rfl) rfl rfl (by (try simp only [List.map_toArray, List.map_cons, List.map_nil]); first | done | rfl | (simp only [List.length_drop, List.length_take]; rfl)) ?_
       with_reducible refine (laws_toClue.calls k a0_0 _ _ l0_1 t324 t325 _ ?side1 ?side2 A33.out).mono ?_
       (case side1 => exact CB HR0_1)
       (case side2 => exact HC0_1.out)
       rintro e w164 ⟨v326, rfl, ho0, hb⟩
       refine ⟨_, rfl, ?_⟩
       have n0_ := Aside0.mk (Kd.R_elder' (RR HO304) (Kd.R_base ho0) hb)
       have n1_ := RB HO307 hb
       have n2_ := RB HO310 hb
       have n3_ := Aside0.mk (Kd.R_elder' (RR HO315) (Kd.R_base ho0) hb)
       have n4_ := RB HO319 hb
       have n5_ := RB HO322 hb
       have n6_ := Aside0.mk (Kd.R_lower (Kd.R_new' (Kd.R_new' ho0 (Kd.R_lt (RR HO304))) (Kd.R_lt (RR HO315))) (below_size BL))
       have n7_ := KB BK297 hb
       have n8_ := KB BK316 hb
       have n9_ := BS (w := w) hb
       clear HO304
       clear HO307
       clear HO310
       clear HO315
       clear HO319
       clear HO322
       clear BK297
       clear BK316
       clear HB
       have HO304 := n0_
       have HO307 := n1_
       have HO310 := n2_
       have HO315 := n3_
       have HO319 := n4_
       have HO322 := n5_
       have HO327 := n6_
       have BK297 := n7_
       have BK316 := n8_
       have HB := n9_
       clear n0_ n1_ n2_ n3_ n4_ n5_ n6_ n7_ n8_ n9_
       (try clear hb)
       (try clear hb2)
       (try clear hk)
       (try clear hi)
       (try clear ho0)
       obtain ⟨Ao165, co165, eo165⟩ := Kd.R_slice HO327.out
       (first | subst eo165 | (injection eo165 with f1_ f2_ f3_; have f4_ := f1_.symm; have f5_ := f3_.symm; clear f1_ f2_ f3_; subst f4_; subst f5_))
       refine hK.out _ _ ⟨(blk_cell BK316.out 0).trans rfl, (blk_cell BK316.out 1).trans rfl, (blk_cell BK297.out 0).trans rfl, (blk_cell BK297.out 1).trans rfl⟩ (fun hHeld => ?_)
       clear hK K
       refine norm_ (a' := ?_) ?_ ?_
       rotate_left
       ·show Act.put _ (some 57) _ = _
        simp only [Act.put, PT, i64_w, i32_w]
        rfl
       refine one_ (i := 3) (N := some 58) #[true, true, true, true, false] rfl rfl (by kernel_rfl) (by decide) (fun K hK => ?_)
       refine goes_ Try.func16 (by kernel_rfl) rfl #[.agg #[.int .i64 t312, .slice Ao156 t313.length co156], .agg #[.int .i64 t324, .slice Ao165 t325.length co165]] (by rfl) rfl rfl (by (try simp only [List.map_toArray, List.map_cons, List.map_nil]); first | done | rfl | (simp only [List.length_drop, List.length_take]; rfl)) ?_
       with_reducible refine (laws_eqClue.calls k t312 _ _ t313 t324 _ _ t325 false _ ?side1 ?side2 ?side3 ?side4 A34.out).mono ?_
       (case side1 => exact CR2 HO315)
       (case side2 => exact (Kd.R_reads' HO315.out).2.1)
       (case side3 => exact CR2 HO327)
       (case side4 => exact (Kd.R_reads' HO327.out).2.1)
       rintro e w166 ⟨rfl, hb⟩
       refine ⟨_, rfl, ?_⟩
       have n0_ := RB HO304 hb
       have n1_ := RB HO307 hb
       have n2_ := RB HO310 hb
       have n3_ := RB HO315 hb
       have n4_ := RB HO319 hb
       have n5_ := RB HO322 hb
       have n6_ := RB HO327 hb
       have n7_ := KB BK297 hb
       have n8_ := KB BK316 hb
       have n9_ := BS (w := w) hb
       clear HO304
       clear HO307
       clear HO310
       clear HO315
       clear HO319
       clear HO322
       clear HO327
       clear BK297
       clear BK316
       clear HB
       have HO304 := n0_
       have HO307 := n1_
       have HO310 := n2_
       have HO315 := n3_
       have HO319 := n4_
       have HO322 := n5_
       have HO327 := n6_
       have BK297 := n7_
       have BK316 := n8_
       have HB := n9_
       clear n0_ n1_ n2_ n3_ n4_ n5_ n6_ n7_ n8_ n9_
       (try clear hb)
       (try clear hb2)
       (try clear hk)
       (try clear hi)
       refine hK.out _ _ ⟨(blk_cell BK316.out 0).trans rfl, (blk_cell BK316.out 1).trans rfl, (blk_cell BK297.out 0).trans rfl, (blk_cell BK297.out 1).trans rfl⟩ (fun hHeld => ?_)
       clear hK K
       refine norm_ (a' := ?_) ?_ ?_
       rotate_left
       ·show Act.put _ (some 58) _ = _
        simp only [Act.put, PT, i64_w, i32_w]
        rfl
       refine puS (i := 4) (N := some 59) #[true, true, true, true, true] (by kernel_rfl) ?_
       refine done_ (by kernel_rfl) ?_
       try go_wp2
       go_ret
       exact ⟨EWW, BL⟩
     ·rw [if_neg c32] at H
      have c32b0 : (t323 == t311) = false := beq_eq_false_iff_ne.mpr c32
      have c32b1 : (t323 != t311) = true := bne_iff_ne.mpr c32
      obtain rfl := Option.some.inj H
      go_enter Try.func3, Try.ntmps3
      go_wp2_with (first | ((with_reducible refine gate_dst (N := 4) rfl ?_); refine box_ev (N := 4) (cs := #[.int .i64 a0_0, .slice A0_1 l0_1.length c0_1]) (t := 24) ?_; intro gb297 hg w167 hbox hb; have n0_ := BS (w := w) hb; have n1_ := Aside0.mk (hbox); have n2_ := SZ (w := w) hg; have n3_ := SZ (w := w) hg; clear HB; have HB := n0_; have BK297 := n1_; have GW297 := n2_; have GE297 := n3_; clear n0_ n1_ n2_ n3_; clear hb hbox hg; obtain ⟨hcz168_0, hcz168_1, hfz168_0, hfz168_1⟩ := cz2 BK297.out) | ((with_reducible refine gate_callee (f := 8) rfl ?_); refine goesS (some 20) Try.func8 #[.agg #[.int .i64 a0_0, .slice A0_1 l0_1.length c0_1], .int .i64 1048576] ?_; (with_reducible refine (laws_szClue.calls k a0_0 _ _ l0_1 1048576 t298 _ ?side1 ?side2 A7.out).mono ?_); (case side1 => exact CB HR0_1); (case side2 => exact HC0_1.out); rintro e w169 ⟨rfl, hb⟩; refine ⟨_, rfl, ?_⟩; replace BK297 := KB BK297 hb; replace HB := BS (w := w) hb; (try clear hb)) | ((with_reducible refine gate_callee (f := 9) rfl ?_); refine goesS (some 25) Try.func9 #[.slice A1 l1.length c1, .int .i64 t298] ?_; (with_reducible refine (laws_szMeaningS.calls k _ _ l1 t298 t299 _ ?side1 ?side2 A12.out).mono ?_); (case side1 => exact CB HR1); (case side2 => exact HC1.out); rintro e w170 ⟨rfl, hb⟩; refine ⟨_, rfl, ?_⟩; replace BK297 := KB BK297 hb; replace HB := BS (w := w) hb; (try clear hb)) | ((with_reducible refine gate_callee (f := 10) rfl ?_); refine goesS (some 30) Try.func10 #[.slice A2 l2.length c2, .int .i64 t299] ?_; (with_reducible refine (laws_szStringS.calls k _ _ l2 t299 t300 _ ?side1 ?side2 A18.out).mono ?_); (case side1 => exact CB HR2); (case side2 => exact HC2.out); rintro e w' ⟨rfl, ⟨nd, rfl⟩⟩; refine ⟨_, rfl, ?_⟩; (try (rw [drewN_self w170]; generalize hq_ : World.drewN w170 _ = w170; have n0_ : Aside0 (w170.heap[gb297]? = some (.cells #[.int .i64 a0_0, .slice A0_1 l0_1.length c0_1] 24 (0, 0))) := ⟨by rw [← hq_]; exact BK⟩; have n1_ : Aside0 (Below w.heap.size w w170) := ⟨by rw [← hq_]; exact BL⟩; clear BK297 HB hq_; have BK297 := n0_; have HB := n1_; clear n0_ n1_)); have hfz168_0 := blk_frozen BK297.out 0; have hfz168_1 := blk_frozen BK297.out 1; obtain ⟨hcz171_0, hcz171_1, hfz171_0, hfz171_1⟩ := cz2 BK297.out) | ((with_reducible refine gate_callee (f := 12) rfl ?_); refine goesS (some 34) Try.func12 #[.agg #[.int .i64 a0_0, .slice A0_1 l0_1.length c0_1]] ?_; (with_reducible refine (laws_toClue.calls k a0_0 _ _ l0_1 t301 t302 _ ?side1 ?side2 A24.out).mono ?_); (case side1 => exact CB HR0_1); (case side2 => exact HC0_1.out); rintro e w172 ⟨v303, rfl, ho0, hb⟩; refine ⟨_, rfl, ?_⟩; have n0_ := Aside0.mk (Kd.R_lower ho0 (below_size BL)); replace BK297 := KB BK297 hb; replace HB := BS (w := w) hb; have HO304 := n0_; clear n0_; (try clear hb); (try clear ho0)) | ((with_reducible refine gate_callee (f := 13) rfl ?_); refine goesS (some 36) Try.func13 #[.slice A1 l1.length c1] ?_; (with_reducible refine (laws_toMeaningS.calls k _ _ l1 t305 _ ?side1 ?side2 A25.out).mono ?_); (case side1 => exact CB HR1); (case side2 => exact HC1.out); rintro e w173 ⟨v306, rfl, ho0, hb⟩; refine ⟨_, rfl, ?_⟩; have n1_ := Aside0.mk (Kd.R_lower ho0 (below_size BL)); replace HO304 := RB HO304 hb; replace BK297 := KB BK297 hb; replace HB := BS (w := w) hb; have HO307 := n1_; clear n1_; (try clear hb); (try clear ho0)) | ((with_reducible refine gate_callee (f := 14) rfl ?_); refine goesS (some 38) Try.func14 #[.slice A2 l2.length c2] ?_; (with_reducible refine (laws_toStringS.calls k _ _ l2 t308 _ ?side1 ?side2 A26.out).mono ?_); (case side1 => exact CB HR2); (case side2 => exact HC2.out); rintro e w174 ⟨v309, rfl, ho0, hb⟩; refine ⟨_, rfl, ?_⟩; have n2_ := Aside0.mk (Kd.R_lower ho0 (below_size BL)); replace HO304 := RB HO304 hb; replace HO307 := RB HO307 hb; replace BK297 := KB BK297 hb; replace HB := BS (w := w) hb; have HO310 := n2_; clear n2_; (try clear hb); (try clear ho0); obtain ⟨Ao175, co175, eo175⟩ := Kd.R_slice HO304.out; subst eo175; obtain ⟨Ao176, co176, eo176⟩ := Kd.R_slice HO307.out; subst eo176; obtain ⟨Ao177, co177, eo177⟩ := Kd.R_slice HO310.out; subst eo177) | ((with_reducible refine gate_callee (f := 11) rfl ?_); refine goesS (some 40) Try.func11 #[.agg #[.int .i64 t301, .slice Ao175 t302.length co175], .slice Ao176 t305.length co176, .slice Ao177 t308.length co177, .string a3] ?_; (with_reducible refine (spec_Gain.calls k t301 _ _ t302 _ _ t305 _ _ t308 a3 t311 _ ?side1 ?side2 ?side3 ?side4 ?side5 ?side6 A27.out).mono ?_); (case side1 => exact CR2 HO304); (case side2 => exact (Kd.R_reads' HO304.out).2.1); (case side3 => exact CR2 HO307); (case side4 => exact (Kd.R_reads' HO307.out).2.1); (case side5 => exact CR2 HO310); (case side6 => exact (Kd.R_reads' HO310.out).2.1); rintro e w178 ⟨rfl, hb⟩; refine ⟨_, rfl, ?_⟩; replace HO304 := RB HO304 hb; replace HO307 := RB HO307 hb; replace HO310 := RB HO310 hb; replace BK297 := KB BK297 hb; replace HB := BS (w := w) hb; (try clear hb); obtain ⟨hcz179_0, hcz179_1, hfz179_0, hfz179_1⟩ := cz2 BK297.out) | ((with_reducible refine gate_callee (f := 12) rfl ?_); refine goesS (some 42) Try.func12 #[.agg #[.int .i64 a0_0, .slice A0_1 l0_1.length c0_1]] ?_; (with_reducible refine (laws_toClue.calls k a0_0 _ _ l0_1 t312 t313 _ ?side1 ?side2 A28.out).mono ?_); (case side1 => exact CB HR0_1); (case side2 => exact HC0_1.out); rintro e w180 ⟨v314, rfl, ho0, hb⟩; refine ⟨_, rfl, ?_⟩; have n0_ := Aside0.mk (Kd.R_elder' (RR HO304) (Kd.R_base ho0) hb); have n3_ := Aside0.mk (Kd.R_lower (Kd.R_new' ho0 (Kd.R_lt (RR HO304))) (below_size BL)); replace HO307 := RB HO307 hb; replace HO310 := RB HO310 hb; replace BK297 := KB BK297 hb; replace HB := BS (w := w) hb; clear HO304; have HO304 := n0_; have HO315 := n3_; clear n0_ n3_; (try clear hb); (try clear ho0)) | ((with_reducible refine gate_dst (N := 11) rfl ?_); refine box_ev (N := 11) (cs := #[.int .i64 0, .slice none 0 0]) (t := 33) ?_; intro gb316 hg w181 hbox hb; have n0_ := RB HO304 hb; have n1_ := RB HO307 hb; have n2_ := RB HO310 hb; have n3_ := RB HO315 hb; have n4_ := KB BK297 hb; have n5_ := BS (w := w) hb; have n6_ := Aside0.mk (hbox); have n7_ := SZ (w := w) hg; have n8_ := SZ (w := w) hg; have n9_ := NL BK297 hg; have n10_ := NG BK297 hg; clear HO304 HO307 HO310 HO315 BK297 HB; have HO304 := n0_; have HO307 := n1_; have HO310 := n2_; have HO315 := n3_; have BK297 := n4_; have HB := n5_; have BK316 := n6_; have GW316 := n7_; have GE316 := n8_; have NB297_316 := n9_; have NB316_297 := n10_; clear n0_ n1_ n2_ n3_ n4_ n5_ n6_ n7_ n8_ n9_ n10_; clear hb hbox hg; have hnb182 := NB316_297.out; have hnc182 := NB297_316.out; obtain ⟨hcz183_0, hcz183_1, hfz183_0, hfz183_1⟩ := cz2 BK316.out; obtain ⟨Ao184, co184, eo184⟩ := Kd.R_slice HO315.out; subst eo184) | ((with_reducible refine gate_callee (f := 13) rfl ?_); refine goesS (some 44) Try.func13 #[.slice A1 l1.length c1] ?_; (with_reducible refine (laws_toMeaningS.calls k _ _ l1 t317 _ ?side1 ?side2 A29.out).mono ?_); (case side1 => exact Kd.C_below HR1.out BL); (case side2 => exact HC1.out); rintro e w185 ⟨v318, rfl, ho0, hb⟩; refine ⟨_, rfl, ?_⟩; have n0_ := Aside0.mk (Kd.R_below (by (with_reducible repeat (first | apply Kd.R_alloc | apply Kd.R_drewN | apply Kd.R_drew)); exact (Kd.R_mono (Kd.R_far (p := ⟨gb316, 1, none⟩) (Kd.R_far (p := ⟨gb316, 0, none⟩) (Kd.R_types HO304.out BK316.out (by decide)) (fun _ hk => hk.2) (.int .i64 t312)) (fun _ hk => hk.2) (.slice Ao184 t313.length co184)) (fun _ h_ => h_.1))) hb); have n1_ := Aside0.mk (Kd.R_elder' (by (with_reducible repeat (first | apply Kd.R_alloc | apply Kd.R_drewN | apply Kd.R_drew)); exact (Kd.R_mono (Kd.R_far (p := ⟨gb316, 1, none⟩) (Kd.R_far (p := ⟨gb316, 0, none⟩) (Kd.R_types HO307.out BK316.out (by decide)) (fun _ hk => hk.2) (.int .i64 t312)) (fun _ hk => hk.2) (.slice Ao184 t313.length co184)) (fun _ h_ => h_.1))) (Kd.R_base ho0) hb); have n2_ := Aside0.mk (Kd.R_below (by (with_reducible repeat (first | apply Kd.R_alloc | apply Kd.R_drewN | apply Kd.R_drew)); exact (Kd.R_mono (Kd.R_far (p := ⟨gb316, 1, none⟩) (Kd.R_far (p := ⟨gb316, 0, none⟩) (Kd.R_types HO310.out BK316.out (by decide)) (fun _ hk => hk.2) (.int .i64 t312)) (fun _ hk => hk.2) (.slice Ao184 t313.length co184)) (fun _ h_ => h_.1))) hb); have n3_ := Aside0.mk (Kd.R_below (by (with_reducible repeat (first | apply Kd.R_alloc | apply Kd.R_drewN | apply Kd.R_drew)); exact (Kd.R_mono (Kd.R_far (p := ⟨gb316, 1, none⟩) (Kd.R_far (p := ⟨gb316, 0, none⟩) (Kd.R_types HO315.out BK316.out (by decide)) (fun _ hk => hk.2) (.int .i64 t312)) (fun _ hk => hk.2) (.slice Ao184 t313.length co184)) (fun _ h_ => h_.1))) hb); have n4_ := Aside0.mk (Kd.R_lower (Kd.R_new' ho0 (Kd.R_lt (by (with_reducible repeat (first | apply Kd.R_alloc | apply Kd.R_drewN | apply Kd.R_drew)); exact (Kd.R_mono (Kd.R_far (p := ⟨gb316, 1, none⟩) (Kd.R_far (p := ⟨gb316, 0, none⟩) (Kd.R_types HO307.out BK316.out (by decide)) (fun _ hk => hk.2) (.int .i64 t312)) (fun _ hk => hk.2) (.slice Ao184 t313.length co184)) (fun _ h_ => h_.1))))) (below_size BL)); have n5_ := Aside0.mk (blk_below (g := gb297) (o := .cells #[.int .i64 a0_0, .slice A0_1 l0_1.length c0_1] 24 (0, 0)) (by (with_reducible repeat (first | refine blk_drewN ?_ _ | refine blk_drew ?_ | refine blk_alloc ?_ _)); refine blk_far ?_ NB297_316.out _; (with_reducible repeat (first | refine blk_drewN ?_ _ | refine blk_drew ?_ | refine blk_alloc ?_ _)); refine blk_far ?_ NB297_316.out _; (with_reducible repeat (first | refine blk_drewN ?_ _ | refine blk_drew ?_ | refine blk_alloc ?_ _)); exact BK297.out) hb); have n6_ := Aside0.mk (blk_below (g := gb316) (o := .cells #[.int .i64 t312, .slice Ao184 t313.length co184] 33 (0, 0)) (by (with_reducible repeat (first | refine blk_drewN ?_ _ | refine blk_drew ?_ | refine blk_alloc ?_ _)); refine blk_put (cs := #[.int .i64 t312, .slice none 0 0]) ?_ 1 _ rfl; (with_reducible repeat (first | refine blk_drewN ?_ _ | refine blk_drew ?_ | refine blk_alloc ?_ _)); refine blk_put (cs := #[.int .i64 0, .slice none 0 0]) ?_ 0 _ rfl; (with_reducible repeat (first | refine blk_drewN ?_ _ | refine blk_drew ?_ | refine blk_alloc ?_ _)); exact BK316.out) hb); replace HB := BS (w := w) hb; clear HO304 HO307 HO310 HO315 BK297 BK316; have HO304 := n0_; have HO307 := n1_; have HO310 := n2_; have HO315 := n3_; have HO319 := n4_; have BK297 := n5_; have BK316 := n6_; clear n0_ n1_ n2_ n3_ n4_ n5_ n6_; (try clear hb); (try clear hk); (try clear ho0)) | ((with_reducible refine gate_callee (f := 14) rfl ?_); refine goesS (some 46) Try.func14 #[.slice A2 l2.length c2] ?_; (with_reducible refine (laws_toStringS.calls k _ _ l2 t320 _ ?side1 ?side2 A30.out).mono ?_); (case side1 => exact CB HR2); (case side2 => exact HC2.out); rintro e w186 ⟨v321, rfl, ho0, hb⟩; refine ⟨_, rfl, ?_⟩; have n2_ := Aside0.mk (Kd.R_elder' (RR HO310) (Kd.R_base ho0) hb); have n5_ := Aside0.mk (Kd.R_lower (Kd.R_new' ho0 (Kd.R_lt (RR HO310))) (below_size BL)); replace HO304 := RB HO304 hb; replace HO307 := RB HO307 hb; replace HO315 := RB HO315 hb; replace HO319 := RB HO319 hb; replace BK297 := KB BK297 hb; replace BK316 := KB BK316 hb; replace HB := BS (w := w) hb; clear HO310; have HO310 := n2_; have HO322 := n5_; clear n2_ n5_; (try clear hb); (try clear ho0); obtain ⟨hcz187_0, hcz187_1, hfz187_0, hfz187_1⟩ := cz2 BK316.out; obtain ⟨Ao188, co188, eo188⟩ := Kd.R_slice HO319.out; subst eo188; obtain ⟨Ao189, co189, eo189⟩ := Kd.R_slice HO322.out; subst eo189) | ((with_reducible refine gate_callee (f := 15) rfl ?_); refine goesS (some 51) Try.func15 #[.agg #[.int .i64 t312, .slice Ao184 t313.length co184], .slice Ao188 t317.length co188, .slice Ao189 t320.length co189, .string a3] ?_; (with_reducible refine (impl_Gain.calls k t312 _ _ t313 _ _ t317 _ _ t320 a3 t323 _ ?side1 ?side2 ?side3 ?side4 ?side5 ?side6 A31.out).mono ?_); (case side1 => exact CR2 HO315); (case side2 => exact (Kd.R_reads' HO315.out).2.1); (case side3 => exact CR2 HO319); (case side4 => exact (Kd.R_reads' HO319.out).2.1); (case side5 => exact CR2 HO322); (case side6 => exact (Kd.R_reads' HO322.out).2.1); rintro e w190 ⟨rfl, hb⟩; refine ⟨_, rfl, ?_⟩; replace HO304 := RB HO304 hb; replace HO307 := RB HO307 hb; replace HO310 := RB HO310 hb; replace HO315 := RB HO315 hb; replace HO319 := RB HO319 hb; replace HO322 := RB HO322 hb; replace BK297 := KB BK297 hb; replace BK316 := KB BK316 hb; replace HB := BS (w := w) hb; (try clear hb)))
      go_ret
      exact ⟨EWW, BL⟩
end Go.Proofs.Ythincoghppaegaa.PFnExactGain
