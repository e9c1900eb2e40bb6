/- Walks of functions: what each computes. -/
import Derived.Test.YthincoghppaegaaZNeedsBothP0
import Derived.Test.YthincoghppaegaaZNeedsBothP2
import Derived.Test.YthincoghppaegaaZNeedsBothP3
import Derived.Test.YthincoghppaegaaZNeedsBothP4
import Derived.Test.YthincoghppaegaaZNeedsBothP9
import Derived.Test.YthincoghppaegaaZNeedsBothP14
import Derived.Test.YthincoghppaegaaZNeedsBothW
import Derived.Test.YthincoghppaegaaZNeedsBothShelf
import Derived.Test.YthincoghppaegaaZNeedsBothHandSort
namespace Go.Proofs.Ythincoghppaegaa.PFnExactNeedsBoth
open Go.RowKit Go.Proofs.YthincoghppaegaaW.PrintWords Go.Proofs.YthincoghppaegaaW.PrintLast Go.Proofs.YthincoghppaegaaW.PrintMore Go.Proofs.Ythincoghppaegaa.Sq
attribute [local go_sem] max2_int min2_int max_two min_two max_three min_three max_four min_four
set_option linter.unusedVariables false
set_option linter.unusedSimpArgs false
def laws_FnExactNeedsBoth.f (k : Nat) (a0_0 : Int) (l0_1 : List (S72)) (l1 : List (S52)) (l2 : List ByteArray) (a3 : ByteArray) : Option (Bool) := if (a3.size : Int) > 1048576 then (some true) else ((laws_szClue.f k a0_0 l0_1 1048576).bind fun t304 => (if t304 < 0 then (some true) else ((laws_szMeaningS.f k l1 t304).bind fun t305 => (if t305 < 0 then (some true) else ((laws_szStringS.f k l2 t305).bind fun t306 => (if t306 < 0 then (some true) else ((laws_toClue.f k a0_0 l0_1).bind fun bt307 => ((laws_toMeaningS.f k l1).bind fun t311 => ((laws_toStringS.f k l2).bind fun t314 => ((spec_NeedsBoth.f k bt307.1 bt307.2 t311 t314 a3).bind fun t317 => ((laws_toClue.f k a0_0 l0_1).bind fun bt318 => ((laws_toMeaningS.f k l1).bind fun t323 => ((laws_toStringS.f k l2).bind fun t326 => ((impl_NeedsBoth.f k bt318.1 bt318.2 t323 t326 a3).bind fun t329 => (if (t329 != t317) = true then (some false) else ((laws_toClue.f k a0_0 l0_1).bind fun bt330 => ((laws_eqClue.f k bt318.1 bt318.2 bt330.1 bt330.2).bind fun t334 => (if t334 = true then ((laws_toMeaningS.f k l1).bind fun t335 => ((laws_eqMeaningS.f k t323 t335).bind fun t338 => (if t338 = true then ((laws_toStringS.f k l2).bind fun t339 => ((laws_eqStringS.f k t326 t339).bind fun t342 => (if t342 = true then (some true) else (some false)))) else (some false)))) else (some false)))))))))))))))))))
set_option maxHeartbeats 8000000 in
set_option maxRecDepth 100000 in
theorem laws_FnExactNeedsBoth.calls (k : Nat) (a0_0 : Int) (A0_1 : Option Addr) (c0_1 : Nat) (l0_1 : List (S72)) (A1 : Option Addr) (c1 : Nat) (l1 : List (S52)) (A2 : Option Addr) (c2 : Nat) (l2 : List ByteArray) (a3 : ByteArray) (r : Bool) (w : World) (hr0_1 : Kd.C k72 w A0_1 l0_1.length l0_1) (hc0_1 : l0_1.length ≤ c0_1) (hr1 : Kd.C k52 w A1 l1.length l1) (hc1 : l1.length ≤ c1) (hr2 : Kd.C Kd.string w A2 l2.length l2) (hc2 : l2.length ≤ c2) (h : laws_FnExactNeedsBoth.f k a0_0 l0_1 l1 l2 a3 = some r) :
  Calls Try.prog 4 #[.agg #[.int .i64 a0_0, .slice A0_1 l0_1.length c0_1], .slice A1 l1.length c1, .slice A2 l2.length c2, .string a3] w fun e w' => e = .returned (.bool r) ∧ Below w.heap.size w w' := by
 have hu24 := Try.underlying24
 have hu33 := Try.underlying33
 have HR0_1 := Aside0.mk hr0_1
 have HC0_1 := Aside0.mk hc0_1
 clear hr0_1 hc0_1
 have HR1 := Aside0.mk hr1
 have HC1 := Aside0.mk hc1
 clear hr1 hc1
 have HR2 := Aside0.mk hr2
 have HC2 := Aside0.mk hc2
 clear hr2 hc2
 have HB := Aside0.mk (Below.refl w.heap.size w)
 have H : (if (a3.size : Int) > 1048576 then (some true) else ((laws_szClue.f k a0_0 l0_1 1048576).bind fun t304 => (if t304 < 0 then (some true) else ((laws_szMeaningS.f k l1 t304).bind fun t305 => (if t305 < 0 then (some true) else ((laws_szStringS.f k l2 t305).bind fun t306 => (if t306 < 0 then (some true) else ((laws_toClue.f k a0_0 l0_1).bind fun bt307 => ((laws_toMeaningS.f k l1).bind fun t311 => ((laws_toStringS.f k l2).bind fun t314 => ((spec_NeedsBoth.f k bt307.1 bt307.2 t311 t314 a3).bind fun t317 => ((laws_toClue.f k a0_0 l0_1).bind fun bt318 => ((laws_toMeaningS.f k l1).bind fun t323 => ((laws_toStringS.f k l2).bind fun t326 => ((impl_NeedsBoth.f k bt318.1 bt318.2 t323 t326 a3).bind fun t329 => (if (t329 != t317) = true then (some false) else ((laws_toClue.f k a0_0 l0_1).bind fun bt330 => ((laws_eqClue.f k bt318.1 bt318.2 bt330.1 bt330.2).bind fun t334 => (if t334 = true then ((laws_toMeaningS.f k l1).bind fun t335 => ((laws_eqMeaningS.f k t323 t335).bind fun t338 => (if t338 = true then ((laws_toStringS.f k l2).bind fun t339 => ((laws_eqStringS.f k t326 t339).bind fun t342 => (if t342 = true then (some true) else (some false)))) else (some false)))) else (some false)))))))))))))))))))) = some r := h
 clear h
 by_cases c5 : (a3.size : Int) > 1048576
 ·rw [if_pos c5] at H
  have c5b0 : decide (1048576 < (a3.size : Int)) = true := decide_eq_true c5
  have c5b1 : decide (1048576 < a3.size) = true := decide_eq_true (by omega)
  clear c5
  obtain rfl := Option.some.inj H
  go_enter Try.func4, Try.ntmps4
  go_wp2_with (first | ((with_reducible refine gate_dst (N := 4) rfl ?_); refine box_ev (N := 4) (cs := #[.int .i64 a0_0, .slice A0_1 l0_1.length c0_1]) (t := 24) ?_; intro gb303 hg w6 hbox hb; have n0_ := BS (w := w) hb; have n1_ := Aside0.mk (hbox); have n2_ := SZ (w := w) hg; have n3_ := SZ (w := w) hg; clear HB; have HB := n0_; have BK303 := n1_; have GW303 := n2_; have GE303 := n3_; clear n0_ n1_ n2_ n3_; clear hb hbox hg))
  go_ret
  exact ⟨EWW, BL⟩
 ·rw [if_neg c5] at H
  have c5b0 : decide (1048576 < (a3.size : Int)) = false := decide_eq_false c5
  have c5b1 : decide (1048576 < a3.size) = false := decide_eq_false (by omega)
  clear c5
  replace H := Option.bind_eq_some_iff.mp H
  obtain ⟨t304, A70, H⟩ := H
  replace H : (if t304 < 0 then (some true) else ((laws_szMeaningS.f k l1 t304).bind fun t305 => (if t305 < 0 then (some true) else ((laws_szStringS.f k l2 t305).bind fun t306 => (if t306 < 0 then (some true) else ((laws_toClue.f k a0_0 l0_1).bind fun bt307 => ((laws_toMeaningS.f k l1).bind fun t311 => ((laws_toStringS.f k l2).bind fun t314 => ((spec_NeedsBoth.f k bt307.1 bt307.2 t311 t314 a3).bind fun t317 => ((laws_toClue.f k a0_0 l0_1).bind fun bt318 => ((laws_toMeaningS.f k l1).bind fun t323 => ((laws_toStringS.f k l2).bind fun t326 => ((impl_NeedsBoth.f k bt318.1 bt318.2 t323 t326 a3).bind fun t329 => (if (t329 != t317) = true then (some false) else ((laws_toClue.f k a0_0 l0_1).bind fun bt330 => ((laws_eqClue.f k bt318.1 bt318.2 bt330.1 bt330.2).bind fun t334 => (if t334 = true then ((laws_toMeaningS.f k l1).bind fun t335 => ((laws_eqMeaningS.f k t323 t335).bind fun t338 => (if t338 = true then ((laws_toStringS.f k l2).bind fun t339 => ((laws_eqStringS.f k t326 t339).bind fun t342 => (if t342 = true then (some true) else (some false)))) else (some false)))) else (some false)))))))))))))))))) = some r := H
  have A7 := Aside0.mk A70
  clear A70
  by_cases c8 : t304 < 0
  ·rw [if_pos c8] at H
   have c8b0 : decide (t304 < 0) = true := decide_eq_true c8
   clear c8
   obtain rfl := Option.some.inj H
   go_enter Try.func4, Try.ntmps4
   go_wp2_with (first | ((with_reducible refine gate_dst (N := 4) rfl ?_); refine box_ev (N := 4) (cs := #[.int .i64 a0_0, .slice A0_1 l0_1.length c0_1]) (t := 24) ?_; intro gb303 hg w9 hbox hb; have n0_ := BS (w := w) hb; have n1_ := Aside0.mk (hbox); have n2_ := SZ (w := w) hg; have n3_ := SZ (w := w) hg; clear HB; have HB := n0_; have BK303 := n1_; have GW303 := n2_; have GE303 := n3_; clear n0_ n1_ n2_ n3_; clear hb hbox hg; obtain ⟨hcz10_0, hcz10_1, hfz10_0, hfz10_1⟩ := cz2 BK303.out) | ((with_reducible refine gate_callee (f := 8) rfl ?_); refine goesS (some 20) Try.func8 #[.agg #[.int .i64 a0_0, .slice A0_1 l0_1.length c0_1], .int .i64 1048576] ?_; (with_reducible refine (laws_szClue.calls k a0_0 _ _ l0_1 1048576 t304 _ ?side1 ?side2 A7.out).mono ?_); (case side1 => exact CB HR0_1); (case side2 => exact HC0_1.out); rintro e w11 ⟨rfl, hb⟩; refine ⟨_, rfl, ?_⟩; replace BK303 := KB BK303 hb; replace HB := BS (w := w) hb; (try clear hb)))
   go_ret
   exact ⟨EWW, BL⟩
  ·rw [if_neg c8] at H
   have c8b0 : decide (t304 < 0) = false := decide_eq_false c8
   clear c8
   replace H := Option.bind_eq_some_iff.mp H
   obtain ⟨t305, A120, H⟩ := H
   replace H : (if t305 < 0 then (some true) else ((laws_szStringS.f k l2 t305).bind fun t306 => (if t306 < 0 then (some true) else ((laws_toClue.f k a0_0 l0_1).bind fun bt307 => ((laws_toMeaningS.f k l1).bind fun t311 => ((laws_toStringS.f k l2).bind fun t314 => ((spec_NeedsBoth.f k bt307.1 bt307.2 t311 t314 a3).bind fun t317 => ((laws_toClue.f k a0_0 l0_1).bind fun bt318 => ((laws_toMeaningS.f k l1).bind fun t323 => ((laws_toStringS.f k l2).bind fun t326 => ((impl_NeedsBoth.f k bt318.1 bt318.2 t323 t326 a3).bind fun t329 => (if (t329 != t317) = true then (some false) else ((laws_toClue.f k a0_0 l0_1).bind fun bt330 => ((laws_eqClue.f k bt318.1 bt318.2 bt330.1 bt330.2).bind fun t334 => (if t334 = true then ((laws_toMeaningS.f k l1).bind fun t335 => ((laws_eqMeaningS.f k t323 t335).bind fun t338 => (if t338 = true then ((laws_toStringS.f k l2).bind fun t339 => ((laws_eqStringS.f k t326 t339).bind fun t342 => (if t342 = true then (some true) else (some false)))) else (some false)))) else (some false)))))))))))))))) = some r := H
   have A12 := Aside0.mk A120
   clear A120
   by_cases c13 : t305 < 0
   ·rw [if_pos c13] at H
    have c13b0 : decide (t305 < 0) = true := decide_eq_true c13
    clear c13
    obtain rfl := Option.some.inj H
    go_enter Try.func4, Try.ntmps4
    go_wp2_with (first | ((with_reducible refine gate_dst (N := 4) rfl ?_); refine box_ev (N := 4) (cs := #[.int .i64 a0_0, .slice A0_1 l0_1.length c0_1]) (t := 24) ?_; intro gb303 hg w14 hbox hb; have n0_ := BS (w := w) hb; have n1_ := Aside0.mk (hbox); have n2_ := SZ (w := w) hg; have n3_ := SZ (w := w) hg; clear HB; have HB := n0_; have BK303 := n1_; have GW303 := n2_; have GE303 := n3_; clear n0_ n1_ n2_ n3_; clear hb hbox hg; obtain ⟨hcz15_0, hcz15_1, hfz15_0, hfz15_1⟩ := cz2 BK303.out) | ((with_reducible refine gate_callee (f := 8) rfl ?_); refine goesS (some 20) Try.func8 #[.agg #[.int .i64 a0_0, .slice A0_1 l0_1.length c0_1], .int .i64 1048576] ?_; (with_reducible refine (laws_szClue.calls k a0_0 _ _ l0_1 1048576 t304 _ ?side1 ?side2 A7.out).mono ?_); (case side1 => exact CB HR0_1); (case side2 => exact HC0_1.out); rintro e w16 ⟨rfl, hb⟩; refine ⟨_, rfl, ?_⟩; replace BK303 := KB BK303 hb; replace HB := BS (w := w) hb; (try clear hb)) | ((with_reducible refine gate_callee (f := 9) rfl ?_); refine goesS (some 25) Try.func9 #[.slice A1 l1.length c1, .int .i64 t304] ?_; (with_reducible refine (laws_szMeaningS.calls k _ _ l1 t304 t305 _ ?side1 ?side2 A12.out).mono ?_); (case side1 => exact CB HR1); (case side2 => exact HC1.out); rintro e w17 ⟨rfl, hb⟩; refine ⟨_, rfl, ?_⟩; replace BK303 := KB BK303 hb; replace HB := BS (w := w) hb; (try clear hb)))
    go_ret
    exact ⟨EWW, BL⟩
   ·rw [if_neg c13] at H
    have c13b0 : decide (t305 < 0) = false := decide_eq_false c13
    clear c13
    replace H := Option.bind_eq_some_iff.mp H
    obtain ⟨t306, A180, H⟩ := H
    replace H : (if t306 < 0 then (some true) else ((laws_toClue.f k a0_0 l0_1).bind fun bt307 => ((laws_toMeaningS.f k l1).bind fun t311 => ((laws_toStringS.f k l2).bind fun t314 => ((spec_NeedsBoth.f k bt307.1 bt307.2 t311 t314 a3).bind fun t317 => ((laws_toClue.f k a0_0 l0_1).bind fun bt318 => ((laws_toMeaningS.f k l1).bind fun t323 => ((laws_toStringS.f k l2).bind fun t326 => ((impl_NeedsBoth.f k bt318.1 bt318.2 t323 t326 a3).bind fun t329 => (if (t329 != t317) = true then (some false) else ((laws_toClue.f k a0_0 l0_1).bind fun bt330 => ((laws_eqClue.f k bt318.1 bt318.2 bt330.1 bt330.2).bind fun t334 => (if t334 = true then ((laws_toMeaningS.f k l1).bind fun t335 => ((laws_eqMeaningS.f k t323 t335).bind fun t338 => (if t338 = true then ((laws_toStringS.f k l2).bind fun t339 => ((laws_eqStringS.f k t326 t339).bind fun t342 => (if t342 = true then (some true) else (some false)))) else (some false)))) else (some false)))))))))))))) = some r := H
    have A18 := Aside0.mk A180
    clear A180
    by_cases c19 : t306 < 0
    ·rw [if_pos c19] at H
     have c19b0 : decide (t306 < 0) = true := decide_eq_true c19
     clear c19
     obtain rfl := Option.some.inj H
     go_enter Try.func4, Try.ntmps4
     go_wp2_with (first | ((with_reducible refine gate_dst (N := 4) rfl ?_); refine box_ev (N := 4) (cs := #[.int .i64 a0_0, .slice A0_1 l0_1.length c0_1]) (t := 24) ?_; intro gb303 hg w20 hbox hb; have n0_ := BS (w := w) hb; have n1_ := Aside0.mk (hbox); have n2_ := SZ (w := w) hg; have n3_ := SZ (w := w) hg; clear HB; have HB := n0_; have BK303 := n1_; have GW303 := n2_; have GE303 := n3_; clear n0_ n1_ n2_ n3_; clear hb hbox hg; obtain ⟨hcz21_0, hcz21_1, hfz21_0, hfz21_1⟩ := cz2 BK303.out) | ((with_reducible refine gate_callee (f := 8) rfl ?_); refine goesS (some 20) Try.func8 #[.agg #[.int .i64 a0_0, .slice A0_1 l0_1.length c0_1], .int .i64 1048576] ?_; (with_reducible refine (laws_szClue.calls k a0_0 _ _ l0_1 1048576 t304 _ ?side1 ?side2 A7.out).mono ?_); (case side1 => exact CB HR0_1); (case side2 => exact HC0_1.out); rintro e w22 ⟨rfl, hb⟩; refine ⟨_, rfl, ?_⟩; replace BK303 := KB BK303 hb; replace HB := BS (w := w) hb; (try clear hb)) | ((with_reducible refine gate_callee (f := 9) rfl ?_); refine goesS (some 25) Try.func9 #[.slice A1 l1.length c1, .int .i64 t304] ?_; (with_reducible refine (laws_szMeaningS.calls k _ _ l1 t304 t305 _ ?side1 ?side2 A12.out).mono ?_); (case side1 => exact CB HR1); (case side2 => exact HC1.out); rintro e w23 ⟨rfl, hb⟩; refine ⟨_, rfl, ?_⟩; replace BK303 := KB BK303 hb; replace HB := BS (w := w) hb; (try clear hb)) | ((with_reducible refine gate_callee (f := 10) rfl ?_); refine goesS (some 30) Try.func10 #[.slice A2 l2.length c2, .int .i64 t305] ?_; (with_reducible refine (laws_szStringS.calls k _ _ l2 t305 t306 _ ?side1 ?side2 A18.out).mono ?_); (case side1 => exact CB HR2); (case side2 => exact HC2.out); rintro e w' ⟨rfl, ⟨nd, rfl⟩⟩; refine ⟨_, rfl, ?_⟩))
     go_ret
     exact ⟨EWW, BL⟩
    ·rw [if_neg c19] at H
     have c19b0 : decide (t306 < 0) = false := decide_eq_false c19
     clear c19
     replace H := Option.bind_eq_some_iff.mp H
     obtain ⟨⟨t307, t308⟩, A240, H⟩ := H
     replace H : ((laws_toMeaningS.f k l1).bind fun t311 => ((laws_toStringS.f k l2).bind fun t314 => ((spec_NeedsBoth.f k t307 t308 t311 t314 a3).bind fun t317 => ((laws_toClue.f k a0_0 l0_1).bind fun bt318 => ((laws_toMeaningS.f k l1).bind fun t323 => ((laws_toStringS.f k l2).bind fun t326 => ((impl_NeedsBoth.f k bt318.1 bt318.2 t323 t326 a3).bind fun t329 => (if (t329 != t317) = true then (some false) else ((laws_toClue.f k a0_0 l0_1).bind fun bt330 => ((laws_eqClue.f k bt318.1 bt318.2 bt330.1 bt330.2).bind fun t334 => (if t334 = true then ((laws_toMeaningS.f k l1).bind fun t335 => ((laws_eqMeaningS.f k t323 t335).bind fun t338 => (if t338 = true then ((laws_toStringS.f k l2).bind fun t339 => ((laws_eqStringS.f k t326 t339).bind fun t342 => (if t342 = true then (some true) else (some false)))) else (some false)))) else (some false)))))))))))) = some r := H
     have A24 := Aside0.mk A240
     clear A240
     replace H := Option.bind_eq_some_iff.mp H
     obtain ⟨t311, A250, H⟩ := H
     replace H : ((laws_toStringS.f k l2).bind fun t314 => ((spec_NeedsBoth.f k t307 t308 t311 t314 a3).bind fun t317 => ((laws_toClue.f k a0_0 l0_1).bind fun bt318 => ((laws_toMeaningS.f k l1).bind fun t323 => ((laws_toStringS.f k l2).bind fun t326 => ((impl_NeedsBoth.f k bt318.1 bt318.2 t323 t326 a3).bind fun t329 => (if (t329 != t317) = true then (some false) else ((laws_toClue.f k a0_0 l0_1).bind fun bt330 => ((laws_eqClue.f k bt318.1 bt318.2 bt330.1 bt330.2).bind fun t334 => (if t334 = true then ((laws_toMeaningS.f k l1).bind fun t335 => ((laws_eqMeaningS.f k t323 t335).bind fun t338 => (if t338 = true then ((laws_toStringS.f k l2).bind fun t339 => ((laws_eqStringS.f k t326 t339).bind fun t342 => (if t342 = true then (some true) else (some false)))) else (some false)))) else (some false))))))))))) = some r := H
     have A25 := Aside0.mk A250
     clear A250
     replace H := Option.bind_eq_some_iff.mp H
     obtain ⟨t314, A260, H⟩ := H
     replace H : ((spec_NeedsBoth.f k t307 t308 t311 t314 a3).bind fun t317 => ((laws_toClue.f k a0_0 l0_1).bind fun bt318 => ((laws_toMeaningS.f k l1).bind fun t323 => ((laws_toStringS.f k l2).bind fun t326 => ((impl_NeedsBoth.f k bt318.1 bt318.2 t323 t326 a3).bind fun t329 => (if (t329 != t317) = true then (some false) else ((laws_toClue.f k a0_0 l0_1).bind fun bt330 => ((laws_eqClue.f k bt318.1 bt318.2 bt330.1 bt330.2).bind fun t334 => (if t334 = true then ((laws_toMeaningS.f k l1).bind fun t335 => ((laws_eqMeaningS.f k t323 t335).bind fun t338 => (if t338 = true then ((laws_toStringS.f k l2).bind fun t339 => ((laws_eqStringS.f k t326 t339).bind fun t342 => (if t342 = true then (some true) else (some false)))) else (some false)))) else (some false)))))))))) = some r := H
     have A26 := Aside0.mk A260
     clear A260
     replace H := Option.bind_eq_some_iff.mp H
     obtain ⟨t317, A270, H⟩ := H
     replace H : ((laws_toClue.f k a0_0 l0_1).bind fun bt318 => ((laws_toMeaningS.f k l1).bind fun t323 => ((laws_toStringS.f k l2).bind fun t326 => ((impl_NeedsBoth.f k bt318.1 bt318.2 t323 t326 a3).bind fun t329 => (if (t329 != t317) = true then (some false) else ((laws_toClue.f k a0_0 l0_1).bind fun bt330 => ((laws_eqClue.f k bt318.1 bt318.2 bt330.1 bt330.2).bind fun t334 => (if t334 = true then ((laws_toMeaningS.f k l1).bind fun t335 => ((laws_eqMeaningS.f k t323 t335).bind fun t338 => (if t338 = true then ((laws_toStringS.f k l2).bind fun t339 => ((laws_eqStringS.f k t326 t339).bind fun t342 => (if t342 = true then (some true) else (some false)))) else (some false)))) else (some false))))))))) = some r := H
     have A27 := Aside0.mk A270
     clear A270
     replace H := Option.bind_eq_some_iff.mp H
     obtain ⟨⟨t318, t319⟩, A280, H⟩ := H
     replace H : ((laws_toMeaningS.f k l1).bind fun t323 => ((laws_toStringS.f k l2).bind fun t326 => ((impl_NeedsBoth.f k t318 t319 t323 t326 a3).bind fun t329 => (if (t329 != t317) = true then (some false) else ((laws_toClue.f k a0_0 l0_1).bind fun bt330 => ((laws_eqClue.f k t318 t319 bt330.1 bt330.2).bind fun t334 => (if t334 = true then ((laws_toMeaningS.f k l1).bind fun t335 => ((laws_eqMeaningS.f k t323 t335).bind fun t338 => (if t338 = true then ((laws_toStringS.f k l2).bind fun t339 => ((laws_eqStringS.f k t326 t339).bind fun t342 => (if t342 = true then (some true) else (some false)))) else (some false)))) else (some false)))))))) = some r := H
     have A28 := Aside0.mk A280
     clear A280
     replace H := Option.bind_eq_some_iff.mp H
     obtain ⟨t323, A290, H⟩ := H
     replace H : ((laws_toStringS.f k l2).bind fun t326 => ((impl_NeedsBoth.f k t318 t319 t323 t326 a3).bind fun t329 => (if (t329 != t317) = true then (some false) else ((laws_toClue.f k a0_0 l0_1).bind fun bt330 => ((laws_eqClue.f k t318 t319 bt330.1 bt330.2).bind fun t334 => (if t334 = true then ((laws_toMeaningS.f k l1).bind fun t335 => ((laws_eqMeaningS.f k t323 t335).bind fun t338 => (if t338 = true then ((laws_toStringS.f k l2).bind fun t339 => ((laws_eqStringS.f k t326 t339).bind fun t342 => (if t342 = true then (some true) else (some false)))) else (some false)))) else (some false))))))) = some r := H
     have A29 := Aside0.mk A290
     clear A290
     replace H := Option.bind_eq_some_iff.mp H
     obtain ⟨t326, A300, H⟩ := H
     replace H : ((impl_NeedsBoth.f k t318 t319 t323 t326 a3).bind fun t329 => (if (t329 != t317) = true then (some false) else ((laws_toClue.f k a0_0 l0_1).bind fun bt330 => ((laws_eqClue.f k t318 t319 bt330.1 bt330.2).bind fun t334 => (if t334 = true then ((laws_toMeaningS.f k l1).bind fun t335 => ((laws_eqMeaningS.f k t323 t335).bind fun t338 => (if t338 = true then ((laws_toStringS.f k l2).bind fun t339 => ((laws_eqStringS.f k t326 t339).bind fun t342 => (if t342 = true then (some true) else (some false)))) else (some false)))) else (some false)))))) = some r := H
     have A30 := Aside0.mk A300
     clear A300
     replace H := Option.bind_eq_some_iff.mp H
     obtain ⟨t329, A310, H⟩ := H
     replace H : (if (t329 != t317) = true then (some false) else ((laws_toClue.f k a0_0 l0_1).bind fun bt330 => ((laws_eqClue.f k t318 t319 bt330.1 bt330.2).bind fun t334 => (if t334 = true then ((laws_toMeaningS.f k l1).bind fun t335 => ((laws_eqMeaningS.f k t323 t335).bind fun t338 => (if t338 = true then ((laws_toStringS.f k l2).bind fun t339 => ((laws_eqStringS.f k t326 t339).bind fun t342 => (if t342 = true then (some true) else (some false)))) else (some false)))) else (some false))))) = some r := H
     have A31 := Aside0.mk A310
     clear A310
     by_cases c32 : (t329 != t317) = true
     ·rw [if_pos c32] at H
      have c32b0 : (t329 != t317) = true := c32
      (try (have c32b1 : decide (t329 = t317) = false := by simpa using c32))
      (try (have c32b2 : (t329 == t317) = false := by simpa using c32))
      (try (have c32b3 : ¬ (t329 = t317) := by simpa using c32))
      clear c32
      obtain rfl := Option.some.inj H
      go_enter Try.func4, Try.ntmps4
      go_wp2_with (first | ((with_reducible refine gate_dst (N := 4) rfl ?_); refine box_ev (N := 4) (cs := #[.int .i64 a0_0, .slice A0_1 l0_1.length c0_1]) (t := 24) ?_; intro gb303 hg w33 hbox hb; have n0_ := BS (w := w) hb; have n1_ := Aside0.mk (hbox); have n2_ := SZ (w := w) hg; have n3_ := SZ (w := w) hg; clear HB; have HB := n0_; have BK303 := n1_; have GW303 := n2_; have GE303 := n3_; clear n0_ n1_ n2_ n3_; clear hb hbox hg; obtain ⟨hcz34_0, hcz34_1, hfz34_0, hfz34_1⟩ := cz2 BK303.out) | ((with_reducible refine gate_callee (f := 8) rfl ?_); refine goesS (some 20) Try.func8 #[.agg #[.int .i64 a0_0, .slice A0_1 l0_1.length c0_1], .int .i64 1048576] ?_; (with_reducible refine (laws_szClue.calls k a0_0 _ _ l0_1 1048576 t304 _ ?side1 ?side2 A7.out).mono ?_); (case side1 => exact CB HR0_1); (case side2 => exact HC0_1.out); rintro e w35 ⟨rfl, hb⟩; refine ⟨_, rfl, ?_⟩; replace BK303 := KB BK303 hb; replace HB := BS (w := w) hb; (try clear hb)) | ((with_reducible refine gate_callee (f := 9) rfl ?_); refine goesS (some 25) Try.func9 #[.slice A1 l1.length c1, .int .i64 t304] ?_; (with_reducible refine (laws_szMeaningS.calls k _ _ l1 t304 t305 _ ?side1 ?side2 A12.out).mono ?_); (case side1 => exact CB HR1); (case side2 => exact HC1.out); rintro e w36 ⟨rfl, hb⟩; refine ⟨_, rfl, ?_⟩; replace BK303 := KB BK303 hb; replace HB := BS (w := w) hb; (try clear hb)) | ((with_reducible refine gate_callee (f := 10) rfl ?_); refine goesS (some 30) Try.func10 #[.slice A2 l2.length c2, .int .i64 t305] ?_; (with_reducible refine (laws_szStringS.calls k _ _ l2 t305 t306 _ ?side1 ?side2 A18.out).mono ?_); (case side1 => exact CB HR2); (case side2 => exact HC2.out); rintro e w' ⟨rfl, ⟨nd, rfl⟩⟩; refine ⟨_, rfl, ?_⟩; (try (rw [drewN_self w36]; generalize hq_ : World.drewN w36 _ = w36; have n0_ : Aside0 (w36.heap[gb303]? = some (.cells #[.int .i64 a0_0, .slice A0_1 l0_1.length c0_1] 24 (0, 0))) := ⟨by rw [← hq_]; exact BK⟩; have n1_ : Aside0 (Below w.heap.size w w36) := ⟨by rw [← hq_]; exact BL⟩; clear BK303 HB hq_; have BK303 := n0_; have HB := n1_; clear n0_ n1_)); have hfz34_0 := blk_frozen BK303.out 0; have hfz34_1 := blk_frozen BK303.out 1; obtain ⟨hcz37_0, hcz37_1, hfz37_0, hfz37_1⟩ := cz2 BK303.out) | ((with_reducible refine gate_callee (f := 12) rfl ?_); refine goesS (some 34) Try.func12 #[.agg #[.int .i64 a0_0, .slice A0_1 l0_1.length c0_1]] ?_; (with_reducible refine (laws_toClue.calls k a0_0 _ _ l0_1 t307 t308 _ ?side1 ?side2 A24.out).mono ?_); (case side1 => exact CB HR0_1); (case side2 => exact HC0_1.out); rintro e w38 ⟨v309, rfl, ho0, hb⟩; refine ⟨_, rfl, ?_⟩; have n0_ := Aside0.mk (Kd.R_lower ho0 (below_size BL)); replace BK303 := KB BK303 hb; replace HB := BS (w := w) hb; have HO310 := n0_; clear n0_; (try clear hb); (try clear ho0)) | ((with_reducible refine gate_callee (f := 13) rfl ?_); refine goesS (some 36) Try.func13 #[.slice A1 l1.length c1] ?_; (with_reducible refine (laws_toMeaningS.calls k _ _ l1 t311 _ ?side1 ?side2 A25.out).mono ?_); (case side1 => exact CB HR1); (case side2 => exact HC1.out); rintro e w39 ⟨v312, rfl, ho0, hb⟩; refine ⟨_, rfl, ?_⟩; have n1_ := Aside0.mk (Kd.R_lower ho0 (below_size BL)); replace HO310 := RB HO310 hb; replace BK303 := KB BK303 hb; replace HB := BS (w := w) hb; have HO313 := n1_; clear n1_; (try clear hb); (try clear ho0)) | ((with_reducible refine gate_callee (f := 14) rfl ?_); refine goesS (some 38) Try.func14 #[.slice A2 l2.length c2] ?_; (with_reducible refine (laws_toStringS.calls k _ _ l2 t314 _ ?side1 ?side2 A26.out).mono ?_); (case side1 => exact CB HR2); (case side2 => exact HC2.out); rintro e w40 ⟨v315, rfl, ho0, hb⟩; refine ⟨_, rfl, ?_⟩; have n2_ := Aside0.mk (Kd.R_lower ho0 (below_size BL)); replace HO310 := RB HO310 hb; replace HO313 := RB HO313 hb; replace BK303 := KB BK303 hb; replace HB := BS (w := w) hb; have HO316 := n2_; clear n2_; (try clear hb); (try clear ho0); obtain ⟨Ao41, co41, eo41⟩ := Kd.R_slice HO310.out; subst eo41; obtain ⟨Ao42, co42, eo42⟩ := Kd.R_slice HO313.out; subst eo42; obtain ⟨Ao43, co43, eo43⟩ := Kd.R_slice HO316.out; subst eo43) | ((with_reducible refine gate_callee (f := 19) rfl ?_); refine goesS (some 40) Try.func19 #[.agg #[.int .i64 t307, .slice Ao41 t308.length co41], .slice Ao42 t311.length co42, .slice Ao43 t314.length co43, .string a3] ?_; (with_reducible refine (spec_NeedsBoth.calls k t307 _ _ t308 _ _ t311 _ _ t314 a3 t317 _ ?side1 ?side2 ?side3 ?side4 ?side5 ?side6 A27.out).mono ?_); (case side1 => exact CR2 HO310); (case side2 => exact (Kd.R_reads' HO310.out).2.1); (case side3 => exact CR2 HO313); (case side4 => exact (Kd.R_reads' HO313.out).2.1); (case side5 => exact CR2 HO316); (case side6 => exact (Kd.R_reads' HO316.out).2.1); rintro e w44 ⟨rfl, hb⟩; refine ⟨_, rfl, ?_⟩; replace HO310 := RB HO310 hb; replace HO313 := RB HO313 hb; replace HO316 := RB HO316 hb; replace BK303 := KB BK303 hb; replace HB := BS (w := w) hb; (try clear hb); obtain ⟨hcz45_0, hcz45_1, hfz45_0, hfz45_1⟩ := cz2 BK303.out) | ((with_reducible refine gate_callee (f := 12) rfl ?_); refine goesS (some 42) Try.func12 #[.agg #[.int .i64 a0_0, .slice A0_1 l0_1.length c0_1]] ?_; (with_reducible refine (laws_toClue.calls k a0_0 _ _ l0_1 t318 t319 _ ?side1 ?side2 A28.out).mono ?_); (case side1 => exact CB HR0_1); (case side2 => exact HC0_1.out); rintro e w46 ⟨v320, rfl, ho0, hb⟩; refine ⟨_, rfl, ?_⟩; have n0_ := Aside0.mk (Kd.R_elder' (RR HO310) (Kd.R_base ho0) hb); have n3_ := Aside0.mk (Kd.R_lower (Kd.R_new' ho0 (Kd.R_lt (RR HO310))) (below_size BL)); replace HO313 := RB HO313 hb; replace HO316 := RB HO316 hb; replace BK303 := KB BK303 hb; replace HB := BS (w := w) hb; clear HO310; have HO310 := n0_; have HO321 := n3_; clear n0_ n3_; (try clear hb); (try clear ho0)) | ((with_reducible refine gate_dst (N := 11) rfl ?_); refine box_ev (N := 11) (cs := #[.int .i64 0, .slice none 0 0]) (t := 33) ?_; intro gb322 hg w47 hbox hb; have n0_ := RB HO310 hb; have n1_ := RB HO313 hb; have n2_ := RB HO316 hb; have n3_ := RB HO321 hb; have n4_ := KB BK303 hb; have n5_ := BS (w := w) hb; have n6_ := Aside0.mk (hbox); have n7_ := SZ (w := w) hg; have n8_ := SZ (w := w) hg; have n9_ := NL BK303 hg; have n10_ := NG BK303 hg; clear HO310 HO313 HO316 HO321 BK303 HB; have HO310 := n0_; have HO313 := n1_; have HO316 := n2_; have HO321 := n3_; have BK303 := n4_; have HB := n5_; have BK322 := n6_; have GW322 := n7_; have GE322 := n8_; have NB303_322 := n9_; have NB322_303 := n10_; clear n0_ n1_ n2_ n3_ n4_ n5_ n6_ n7_ n8_ n9_ n10_; clear hb hbox hg; have hnb48 := NB322_303.out; have hnc48 := NB303_322.out; obtain ⟨hcz49_0, hcz49_1, hfz49_0, hfz49_1⟩ := cz2 BK322.out; obtain ⟨Ao50, co50, eo50⟩ := Kd.R_slice HO321.out; subst eo50) | ((with_reducible refine gate_callee (f := 13) rfl ?_); refine goesS (some 44) Try.func13 #[.slice A1 l1.length c1] ?_; (with_reducible refine (laws_toMeaningS.calls k _ _ l1 t323 _ ?side1 ?side2 A29.out).mono ?_); (case side1 => exact Kd.C_below HR1.out BL); (case side2 => exact HC1.out); rintro e w51 ⟨v324, rfl, ho0, hb⟩; refine ⟨_, rfl, ?_⟩; have n0_ := Aside0.mk (Kd.R_below (by (with_reducible repeat (first | apply Kd.R_alloc | apply Kd.R_drewN | apply Kd.R_drew)); exact (Kd.R_mono (Kd.R_far (p := ⟨gb322, 1, none⟩) (Kd.R_far (p := ⟨gb322, 0, none⟩) (Kd.R_types HO310.out BK322.out (by decide)) (fun _ hk => hk.2) (.int .i64 t318)) (fun _ hk => hk.2) (.slice Ao50 t319.length co50)) (fun _ h_ => h_.1))) hb); have n1_ := Aside0.mk (Kd.R_elder' (by (with_reducible repeat (first | apply Kd.R_alloc | apply Kd.R_drewN | apply Kd.R_drew)); exact (Kd.R_mono (Kd.R_far (p := ⟨gb322, 1, none⟩) (Kd.R_far (p := ⟨gb322, 0, none⟩) (Kd.R_types HO313.out BK322.out (by decide)) (fun _ hk => hk.2) (.int .i64 t318)) (fun _ hk => hk.2) (.slice Ao50 t319.length co50)) (fun _ h_ => h_.1))) (Kd.R_base ho0) hb); have n2_ := Aside0.mk (Kd.R_below (by (with_reducible repeat (first | apply Kd.R_alloc | apply Kd.R_drewN | apply Kd.R_drew)); exact (Kd.R_mono (Kd.R_far (p := ⟨gb322, 1, none⟩) (Kd.R_far (p := ⟨gb322, 0, none⟩) (Kd.R_types HO316.out BK322.out (by decide)) (fun _ hk => hk.2) (.int .i64 t318)) (fun _ hk => hk.2) (.slice Ao50 t319.length co50)) (fun _ h_ => h_.1))) hb); have n3_ := Aside0.mk (Kd.R_below (by (with_reducible repeat (first | apply Kd.R_alloc | apply Kd.R_drewN | apply Kd.R_drew)); exact (Kd.R_mono (Kd.R_far (p := ⟨gb322, 1, none⟩) (Kd.R_far (p := ⟨gb322, 0, none⟩) (Kd.R_types HO321.out BK322.out (by decide)) (fun _ hk => hk.2) (.int .i64 t318)) (fun _ hk => hk.2) (.slice Ao50 t319.length co50)) (fun _ h_ => h_.1))) hb); have n4_ := Aside0.mk (Kd.R_lower (Kd.R_new' ho0 (Kd.R_lt (by (with_reducible repeat (first | apply Kd.R_alloc | apply Kd.R_drewN | apply Kd.R_drew)); exact (Kd.R_mono (Kd.R_far (p := ⟨gb322, 1, none⟩) (Kd.R_far (p := ⟨gb322, 0, none⟩) (Kd.R_types HO313.out BK322.out (by decide)) (fun _ hk => hk.2) (.int .i64 t318)) (fun _ hk => hk.2) (.slice Ao50 t319.length co50)) (fun _ h_ => h_.1))))) (below_size BL)); have n5_ := Aside0.mk (blk_below (g := gb303) (o := .cells #[.int .i64 a0_0, .slice A0_1 l0_1.length c0_1] 24 (0, 0)) (by (with_reducible repeat (first | refine blk_drewN ?_ _ | refine blk_drew ?_ | refine blk_alloc ?_ _)); refine blk_far ?_ NB303_322.out _; (with_reducible repeat (first | refine blk_drewN ?_ _ | refine blk_drew ?_ | refine blk_alloc ?_ _)); refine blk_far ?_ NB303_322.out _; (with_reducible repeat (first | refine blk_drewN ?_ _ | refine blk_drew ?_ | refine blk_alloc ?_ _)); exact BK303.out) hb); have n6_ := Aside0.mk (blk_below (g := gb322) (o := .cells #[.int .i64 t318, .slice Ao50 t319.length co50] 33 (0, 0)) (by (with_reducible repeat (first | refine blk_drewN ?_ _ | refine blk_drew ?_ | refine blk_alloc ?_ _)); refine blk_put (cs := #[.int .i64 t318, .slice none 0 0]) ?_ 1 _ rfl; (with_reducible repeat (first | refine blk_drewN ?_ _ | refine blk_drew ?_ | refine blk_alloc ?_ _)); refine blk_put (cs := #[.int .i64 0, .slice none 0 0]) ?_ 0 _ rfl; (with_reducible repeat (first | refine blk_drewN ?_ _ | refine blk_drew ?_ | refine blk_alloc ?_ _)); exact BK322.out) hb); replace HB := BS (w := w) hb; clear HO310 HO313 HO316 HO321 BK303 BK322; have HO310 := n0_; have HO313 := n1_; have HO316 := n2_; have HO321 := n3_; have HO325 := n4_; have BK303 := n5_; have BK322 := n6_; clear n0_ n1_ n2_ n3_ n4_ n5_ n6_; (try clear hb); (try clear hk); (try clear ho0)) | ((with_reducible refine gate_callee (f := 14) rfl ?_); refine goesS (some 46) Try.func14 #[.slice A2 l2.length c2] ?_; (with_reducible refine (laws_toStringS.calls k _ _ l2 t326 _ ?side1 ?side2 A30.out).mono ?_); (case side1 => exact CB HR2); (case side2 => exact HC2.out); rintro e w52 ⟨v327, rfl, ho0, hb⟩; refine ⟨_, rfl, ?_⟩; have n2_ := Aside0.mk (Kd.R_elder' (RR HO316) (Kd.R_base ho0) hb); have n5_ := Aside0.mk (Kd.R_lower (Kd.R_new' ho0 (Kd.R_lt (RR HO316))) (below_size BL)); replace HO310 := RB HO310 hb; replace HO313 := RB HO313 hb; replace HO321 := RB HO321 hb; replace HO325 := RB HO325 hb; replace BK303 := KB BK303 hb; replace BK322 := KB BK322 hb; replace HB := BS (w := w) hb; clear HO316; have HO316 := n2_; have HO328 := n5_; clear n2_ n5_; (try clear hb); (try clear ho0); obtain ⟨hcz53_0, hcz53_1, hfz53_0, hfz53_1⟩ := cz2 BK322.out; obtain ⟨Ao54, co54, eo54⟩ := Kd.R_slice HO325.out; subst eo54; obtain ⟨Ao55, co55, eo55⟩ := Kd.R_slice HO328.out; subst eo55) | ((with_reducible refine gate_callee (f := 20) rfl ?_); refine goesS (some 51) Try.func20 #[.agg #[.int .i64 t318, .slice Ao50 t319.length co50], .slice Ao54 t323.length co54, .slice Ao55 t326.length co55, .string a3] ?_; (with_reducible refine (impl_NeedsBoth.calls k t318 _ _ t319 _ _ t323 _ _ t326 a3 t329 _ ?side1 ?side2 ?side3 ?side4 ?side5 ?side6 A31.out).mono ?_); (case side1 => exact CR2 HO321); (case side2 => exact (Kd.R_reads' HO321.out).2.1); (case side3 => exact CR2 HO325); (case side4 => exact (Kd.R_reads' HO325.out).2.1); (case side5 => exact CR2 HO328); (case side6 => exact (Kd.R_reads' HO328.out).2.1); rintro e w56 ⟨rfl, hb⟩; refine ⟨_, rfl, ?_⟩; replace HO310 := RB HO310 hb; replace HO313 := RB HO313 hb; replace HO316 := RB HO316 hb; replace HO321 := RB HO321 hb; replace HO325 := RB HO325 hb; replace HO328 := RB HO328 hb; replace BK303 := KB BK303 hb; replace BK322 := KB BK322 hb; replace HB := BS (w := w) hb; (try clear hb)))
      go_ret
      exact ⟨EWW, BL⟩
     ·rw [if_neg c32] at H
      have c32b0 : (t329 != t317) = false := by simpa using c32
      (try (have c32b1 : decide (t329 = t317) = true := by simpa using c32))
      (try (have c32b2 : (t329 == t317) = true := by simpa using c32))
      clear c32
      replace H := Option.bind_eq_some_iff.mp H
      obtain ⟨⟨t330, t331⟩, A570, H⟩ := H
      replace H : ((laws_eqClue.f k t318 t319 t330 t331).bind fun t334 => (if t334 = true then ((laws_toMeaningS.f k l1).bind fun t335 => ((laws_eqMeaningS.f k t323 t335).bind fun t338 => (if t338 = true then ((laws_toStringS.f k l2).bind fun t339 => ((laws_eqStringS.f k t326 t339).bind fun t342 => (if t342 = true then (some true) else (some false)))) else (some false)))) else (some false))) = some r := H
      have A57 := Aside0.mk A570
      clear A570
      replace H := Option.bind_eq_some_iff.mp H
      obtain ⟨t334, A580, H⟩ := H
      replace H : (if t334 = true then ((laws_toMeaningS.f k l1).bind fun t335 => ((laws_eqMeaningS.f k t323 t335).bind fun t338 => (if t338 = true then ((laws_toStringS.f k l2).bind fun t339 => ((laws_eqStringS.f k t326 t339).bind fun t342 => (if t342 = true then (some true) else (some false)))) else (some false)))) else (some false)) = some r := H
      have A58 := Aside0.mk A580
      clear A580
      by_cases c59 : t334 = true
      ·subst c59
       have H1 : ((laws_toMeaningS.f k l1).bind fun t335 => ((laws_eqMeaningS.f k t323 t335).bind fun t338 => (if t338 = true then ((laws_toStringS.f k l2).bind fun t339 => ((laws_eqStringS.f k t326 t339).bind fun t342 => (if t342 = true then (some true) else (some false)))) else (some false)))) = some r := by rw [if_pos rfl] at H; exact H
       clear H
       have H := H1
       clear H1
       replace H := Option.bind_eq_some_iff.mp H
       obtain ⟨t335, A600, H⟩ := H
       replace H : ((laws_eqMeaningS.f k t323 t335).bind fun t338 => (if t338 = true then ((laws_toStringS.f k l2).bind fun t339 => ((laws_eqStringS.f k t326 t339).bind fun t342 => (if t342 = true then (some true) else (some false)))) else (some false))) = some r := H
       have A60 := Aside0.mk A600
       clear A600
       replace H := Option.bind_eq_some_iff.mp H
       obtain ⟨t338, A610, H⟩ := H
       replace H : (if t338 = true then ((laws_toStringS.f k l2).bind fun t339 => ((laws_eqStringS.f k t326 t339).bind fun t342 => (if t342 = true then (some true) else (some false)))) else (some false)) = some r := H
       have A61 := Aside0.mk A610
       clear A610
       by_cases c62 : t338 = true
       ·subst c62
        have H1 : ((laws_toStringS.f k l2).bind fun t339 => ((laws_eqStringS.f k t326 t339).bind fun t342 => (if t342 = true then (some true) else (some false)))) = some r := by rw [if_pos rfl] at H; exact H
        clear H
        have H := H1
        clear H1
        replace H := Option.bind_eq_some_iff.mp H
        obtain ⟨t339, A630, H⟩ := H
        replace H : ((laws_eqStringS.f k t326 t339).bind fun t342 => (if t342 = true then (some true) else (some false))) = some r := H
        have A63 := Aside0.mk A630
        clear A630
        replace H := Option.bind_eq_some_iff.mp H
        obtain ⟨t342, A640, H⟩ := H
        replace H : (if t342 = true then (some true) else (some false)) = some r := H
        have A64 := Aside0.mk A640
        clear A640
        by_cases c65 : t342 = true
        ·subst c65
         have H1 : (some true) = some r := by rw [if_pos rfl] at H; exact H
         clear H
         have H := H1
         clear H1
         obtain rfl := Option.some.inj H
         go_enter Try.func4, Try.ntmps4
         try go_wp2_with (first | ((with_reducible refine gate_dst (N := 4) rfl ?_); refine box_ev (N := 4) (cs := #[.int .i64 a0_0, .slice A0_1 l0_1.length c0_1]) (t := 24) ?_; intro gb303 hg w66 hbox hb; have n0_ := BS (w := w) hb; have n1_ := Aside0.mk (hbox); have n2_ := SZ (w := w) hg; have n3_ := SZ (w := w) hg; clear HB; have HB := n0_; have BK303 := n1_; have GW303 := n2_; have GE303 := n3_; clear n0_ n1_ n2_ n3_; clear hb hbox hg; obtain ⟨hcz67_0, hcz67_1, hfz67_0, hfz67_1⟩ := cz2 BK303.out) | ((with_reducible refine gate_callee (f := 8) rfl ?_); refine goesS (some 20) Try.func8 #[.agg #[.int .i64 a0_0, .slice A0_1 l0_1.length c0_1], .int .i64 1048576] ?_; (with_reducible refine (laws_szClue.calls k a0_0 _ _ l0_1 1048576 t304 _ ?side1 ?side2 A7.out).mono ?_); (case side1 => exact CB HR0_1); (case side2 => exact HC0_1.out); rintro e w68 ⟨rfl, hb⟩; refine ⟨_, rfl, ?_⟩; replace BK303 := KB BK303 hb; replace HB := BS (w := w) hb; (try clear hb)) | ((with_reducible refine gate_callee (f := 9) rfl ?_); refine goesS (some 25) Try.func9 #[.slice A1 l1.length c1, .int .i64 t304] ?_; (with_reducible refine (laws_szMeaningS.calls k _ _ l1 t304 t305 _ ?side1 ?side2 A12.out).mono ?_); (case side1 => exact CB HR1); (case side2 => exact HC1.out); rintro e w69 ⟨rfl, hb⟩; refine ⟨_, rfl, ?_⟩; replace BK303 := KB BK303 hb; replace HB := BS (w := w) hb; (try clear hb)) | ((with_reducible refine gate_callee (f := 10) rfl ?_); refine goesS (some 30) Try.func10 #[.slice A2 l2.length c2, .int .i64 t305] ?_; (with_reducible refine (laws_szStringS.calls k _ _ l2 t305 t306 _ ?side1 ?side2 A18.out).mono ?_); (case side1 => exact CB HR2); (case side2 => exact HC2.out); rintro e w' ⟨rfl, ⟨nd, rfl⟩⟩; refine ⟨_, rfl, ?_⟩; (try (rw [drewN_self w69]; generalize hq_ : World.drewN w69 _ = w69; have n0_ : Aside0 (w69.heap[gb303]? = some (.cells #[.int .i64 a0_0, .slice A0_1 l0_1.length c0_1] 24 (0, 0))) := ⟨by rw [← hq_]; exact BK⟩; have n1_ : Aside0 (Below w.heap.size w w69) := ⟨by rw [← hq_]; exact BL⟩; clear BK303 HB hq_; have BK303 := n0_; have HB := n1_; clear n0_ n1_)); have hfz67_0 := blk_frozen BK303.out 0; have hfz67_1 := blk_frozen BK303.out 1; obtain ⟨hcz70_0, hcz70_1, hfz70_0, hfz70_1⟩ := cz2 BK303.out) | ((with_reducible refine gate_callee (f := 12) rfl ?_); refine goesS (some 34) Try.func12 #[.agg #[.int .i64 a0_0, .slice A0_1 l0_1.length c0_1]] ?_; (with_reducible refine (laws_toClue.calls k a0_0 _ _ l0_1 t307 t308 _ ?side1 ?side2 A24.out).mono ?_); (case side1 => exact CB HR0_1); (case side2 => exact HC0_1.out); rintro e w71 ⟨v309, rfl, ho0, hb⟩; refine ⟨_, rfl, ?_⟩; have n0_ := Aside0.mk (Kd.R_lower ho0 (below_size BL)); replace BK303 := KB BK303 hb; replace HB := BS (w := w) hb; have HO310 := n0_; clear n0_; (try clear hb); (try clear ho0)) | ((with_reducible refine gate_callee (f := 13) rfl ?_); refine goesS (some 36) Try.func13 #[.slice A1 l1.length c1] ?_; (with_reducible refine (laws_toMeaningS.calls k _ _ l1 t311 _ ?side1 ?side2 A25.out).mono ?_); (case side1 => exact CB HR1); (case side2 => exact HC1.out); rintro e w72 ⟨v312, rfl, ho0, hb⟩; refine ⟨_, rfl, ?_⟩; have n1_ := Aside0.mk (Kd.R_lower ho0 (below_size BL)); replace HO310 := RB HO310 hb; replace BK303 := KB BK303 hb; replace HB := BS (w := w) hb; have HO313 := n1_; clear n1_; (try clear hb); (try clear ho0)) | ((with_reducible refine gate_callee (f := 14) rfl ?_); refine goesS (some 38) Try.func14 #[.slice A2 l2.length c2] ?_; (with_reducible refine (laws_toStringS.calls k _ _ l2 t314 _ ?side1 ?side2 A26.out).mono ?_); (case side1 => exact CB HR2); (case side2 => exact HC2.out); rintro e w73 ⟨v315, rfl, ho0, hb⟩; refine ⟨_, rfl, ?_⟩; have n2_ := Aside0.mk (Kd.R_lower ho0 (below_size BL)); replace HO310 := RB HO310 hb; replace HO313 := RB HO313 hb; replace BK303 := KB BK303 hb; replace HB := BS (w := w) hb; have HO316 := n2_; clear n2_; (try clear hb); (try clear ho0); obtain ⟨Ao74, co74, eo74⟩ := Kd.R_slice HO310.out; subst eo74; obtain ⟨Ao75, co75, eo75⟩ := Kd.R_slice HO313.out; subst eo75; obtain ⟨Ao76, co76, eo76⟩ := Kd.R_slice HO316.out; subst eo76) | ((with_reducible refine gate_callee (f := 19) rfl ?_); refine goesS (some 40) Try.func19 #[.agg #[.int .i64 t307, .slice Ao74 t308.length co74], .slice Ao75 t311.length co75, .slice Ao76 t314.length co76, .string a3] ?_; (with_reducible refine (spec_NeedsBoth.calls k t307 _ _ t308 _ _ t311 _ _ t314 a3 t317 _ ?side1 ?side2 ?side3 ?side4 ?side5 ?side6 A27.out).mono ?_); (case side1 => exact CR2 HO310); (case side2 => exact (Kd.R_reads' HO310.out).2.1); (case side3 => exact CR2 HO313); (case side4 => exact (Kd.R_reads' HO313.out).2.1); (case side5 => exact CR2 HO316); (case side6 => exact (Kd.R_reads' HO316.out).2.1); rintro e w77 ⟨rfl, hb⟩; refine ⟨_, rfl, ?_⟩; replace HO310 := RB HO310 hb; replace HO313 := RB HO313 hb; replace HO316 := RB HO316 hb; replace BK303 := KB BK303 hb; replace HB := BS (w := w) hb; (try clear hb); obtain ⟨hcz78_0, hcz78_1, hfz78_0, hfz78_1⟩ := cz2 BK303.out) | ((with_reducible refine gate_callee (f := 12) rfl ?_); refine goesS (some 42) Try.func12 #[.agg #[.int .i64 a0_0, .slice A0_1 l0_1.length c0_1]] ?_; (with_reducible refine (laws_toClue.calls k a0_0 _ _ l0_1 t318 t319 _ ?side1 ?side2 A28.out).mono ?_); (case side1 => exact CB HR0_1); (case side2 => exact HC0_1.out); rintro e w79 ⟨v320, rfl, ho0, hb⟩; refine ⟨_, rfl, ?_⟩; have n0_ := Aside0.mk (Kd.R_elder' (RR HO310) (Kd.R_base ho0) hb); have n3_ := Aside0.mk (Kd.R_lower (Kd.R_new' ho0 (Kd.R_lt (RR HO310))) (below_size BL)); replace HO313 := RB HO313 hb; replace HO316 := RB HO316 hb; replace BK303 := KB BK303 hb; replace HB := BS (w := w) hb; clear HO310; have HO310 := n0_; have HO321 := n3_; clear n0_ n3_; (try clear hb); (try clear ho0)) | ((with_reducible refine gate_dst (N := 11) rfl ?_); refine box_ev (N := 11) (cs := #[.int .i64 0, .slice none 0 0]) (t := 33) ?_; intro gb322 hg w80 hbox hb; have n0_ := RB HO310 hb; have n1_ := RB HO313 hb; have n2_ := RB HO316 hb; have n3_ := RB HO321 hb; have n4_ := KB BK303 hb; have n5_ := BS (w := w) hb; have n6_ := Aside0.mk (hbox); have n7_ := SZ (w := w) hg; have n8_ := SZ (w := w) hg; have n9_ := NL BK303 hg; have n10_ := NG BK303 hg; clear HO310 HO313 HO316 HO321 BK303 HB; have HO310 := n0_; have HO313 := n1_; have HO316 := n2_; have HO321 := n3_; have BK303 := n4_; have HB := n5_; have BK322 := n6_; have GW322 := n7_; have GE322 := n8_; have NB303_322 := n9_; have NB322_303 := n10_; clear n0_ n1_ n2_ n3_ n4_ n5_ n6_ n7_ n8_ n9_ n10_; clear hb hbox hg; have hnb81 := NB322_303.out; have hnc81 := NB303_322.out; obtain ⟨hcz82_0, hcz82_1, hfz82_0, hfz82_1⟩ := cz2 BK322.out; obtain ⟨Ao83, co83, eo83⟩ := Kd.R_slice HO321.out; subst eo83) | ((with_reducible refine gate_callee (f := 13) rfl ?_); refine goesS (some 44) Try.func13 #[.slice A1 l1.length c1] ?_; (with_reducible refine (laws_toMeaningS.calls k _ _ l1 t323 _ ?side1 ?side2 A29.out).mono ?_); (case side1 => exact Kd.C_below HR1.out BL); (case side2 => exact HC1.out); rintro e w84 ⟨v324, rfl, ho0, hb⟩; refine ⟨_, rfl, ?_⟩; have n0_ := Aside0.mk (Kd.R_below (by (with_reducible repeat (first | apply Kd.R_alloc | apply Kd.R_drewN | apply Kd.R_drew)); exact (Kd.R_mono (Kd.R_far (p := ⟨gb322, 1, none⟩) (Kd.R_far (p := ⟨gb322, 0, none⟩) (Kd.R_types HO310.out BK322.out (by decide)) (fun _ hk => hk.2) (.int .i64 t318)) (fun _ hk => hk.2) (.slice Ao83 t319.length co83)) (fun _ h_ => h_.1))) hb); have n1_ := Aside0.mk (Kd.R_elder' (by (with_reducible repeat (first | apply Kd.R_alloc | apply Kd.R_drewN | apply Kd.R_drew)); exact (Kd.R_mono (Kd.R_far (p := ⟨gb322, 1, none⟩) (Kd.R_far (p := ⟨gb322, 0, none⟩) (Kd.R_types HO313.out BK322.out (by decide)) (fun _ hk => hk.2) (.int .i64 t318)) (fun _ hk => hk.2) (.slice Ao83 t319.length co83)) (fun _ h_ => h_.1))) (Kd.R_base ho0) hb); have n2_ := Aside0.mk (Kd.R_below (by (with_reducible repeat (first | apply Kd.R_alloc | apply Kd.R_drewN | apply Kd.R_drew)); exact (Kd.R_mono (Kd.R_far (p := ⟨gb322, 1, none⟩) (Kd.R_far (p := ⟨gb322, 0, none⟩) (Kd.R_types HO316.out BK322.out (by decide)) (fun _ hk => hk.2) (.int .i64 t318)) (fun _ hk => hk.2) (.slice Ao83 t319.length co83)) (fun _ h_ => h_.1))) hb); have n3_ := Aside0.mk (Kd.R_below (by (with_reducible repeat (first | apply Kd.R_alloc | apply Kd.R_drewN | apply Kd.R_drew)); exact (Kd.R_mono (Kd.R_far (p := ⟨gb322, 1, none⟩) (Kd.R_far (p := ⟨gb322, 0, none⟩) (Kd.R_types HO321.out BK322.out (by decide)) (fun _ hk => hk.2) (.int .i64 t318)) (fun _ hk => hk.2) (.slice Ao83 t319.length co83)) (fun _ h_ => h_.1))) hb); have n4_ := Aside0.mk (Kd.R_lower (Kd.R_new' ho0 (Kd.R_lt (by (with_reducible repeat (first | apply Kd.R_alloc | apply Kd.R_drewN | apply Kd.R_drew)); exact (Kd.R_mono (Kd.R_far (p := ⟨gb322, 1, none⟩) (Kd.R_far (p := ⟨gb322, 0, none⟩) (Kd.R_types HO313.out BK322.out (by decide)) (fun _ hk => hk.2) (.int .i64 t318)) (fun _ hk => hk.2) (.slice Ao83 t319.length co83)) (fun _ h_ => h_.1))))) (below_size BL)); have n5_ := Aside0.mk (blk_below (g := gb303) (o := .cells #[.int .i64 a0_0, .slice A0_1 l0_1.length c0_1] 24 (0, 0)) (by (with_reducible repeat (first | refine blk_drewN ?_ _ | refine blk_drew ?_ | refine blk_alloc ?_ _)); refine blk_far ?_ NB303_322.out _; (with_reducible repeat (first | refine blk_drewN ?_ _ | refine blk_drew ?_ | refine blk_alloc ?_ _)); refine blk_far ?_ NB303_322.out _; (with_reducible repeat (first | refine blk_drewN ?_ _ | refine blk_drew ?_ | refine blk_alloc ?_ _)); exact BK303.out) hb); have n6_ := Aside0.mk (blk_below (g := gb322) (o := .cells #[.int .i64 t318, .slice Ao83 t319.length co83] 33 (0, 0)) (by (with_reducible repeat (first | refine blk_drewN ?_ _ | refine blk_drew ?_ | refine blk_alloc ?_ _)); refine blk_put (cs := #[.int .i64 t318, .slice none 0 0]) ?_ 1 _ rfl; (with_reducible repeat (first | refine blk_drewN ?_ _ | refine blk_drew ?_ | refine blk_alloc ?_ _)); refine blk_put (cs := #[.int .i64 0, .slice none 0 0]) ?_ 0 _ rfl; (with_reducible repeat (first | refine blk_drewN ?_ _ | refine blk_drew ?_ | refine blk_alloc ?_ _)); exact BK322.out) hb); replace HB := BS (w := w) hb; clear HO310 HO313 HO316 HO321 BK303 BK322; have HO310 := n0_; have HO313 := n1_; have HO316 := n2_; have HO321 := n3_; have HO325 := n4_; have BK303 := n5_; have BK322 := n6_; clear n0_ n1_ n2_ n3_ n4_ n5_ n6_; (try clear hb); (try clear hk); (try clear ho0)) | ((with_reducible refine gate_callee (f := 14) rfl ?_); refine goesS (some 46) Try.func14 #[.slice A2 l2.length c2] ?_; (with_reducible refine (laws_toStringS.calls k _ _ l2 t326 _ ?side1 ?side2 A30.out).mono ?_); (case side1 => exact CB HR2); (case side2 => exact HC2.out); rintro e w85 ⟨v327, rfl, ho0, hb⟩; refine ⟨_, rfl, ?_⟩; have n2_ := Aside0.mk (Kd.R_elder' (RR HO316) (Kd.R_base ho0) hb); have n5_ := Aside0.mk (Kd.R_lower (Kd.R_new' ho0 (Kd.R_lt (RR HO316))) (below_size BL)); replace HO310 := RB HO310 hb; replace HO313 := RB HO313 hb; replace HO321 := RB HO321 hb; replace HO325 := RB HO325 hb; replace BK303 := KB BK303 hb; replace BK322 := KB BK322 hb; replace HB := BS (w := w) hb; clear HO316; have HO316 := n2_; have HO328 := n5_; clear n2_ n5_; (try clear hb); (try clear ho0); obtain ⟨hcz86_0, hcz86_1, hfz86_0, hfz86_1⟩ := cz2 BK322.out; obtain ⟨Ao87, co87, eo87⟩ := Kd.R_slice HO325.out; subst eo87; obtain ⟨Ao88, co88, eo88⟩ := Kd.R_slice HO328.out; subst eo88) | ((with_reducible refine gate_callee (f := 20) rfl ?_); refine goesS (some 51) Try.func20 #[.agg #[.int .i64 t318, .slice Ao83 t319.length co83], .slice Ao87 t323.length co87, .slice Ao88 t326.length co88, .string a3] ?_; (with_reducible refine (impl_NeedsBoth.calls k t318 _ _ t319 _ _ t323 _ _ t326 a3 t329 _ ?side1 ?side2 ?side3 ?side4 ?side5 ?side6 A31.out).mono ?_); (case side1 => exact CR2 HO321); (case side2 => exact (Kd.R_reads' HO321.out).2.1); (case side3 => exact CR2 HO325); (case side4 => exact (Kd.R_reads' HO325.out).2.1); (case side5 => exact CR2 HO328); (case side6 => exact (Kd.R_reads' HO328.out).2.1); rintro e w89 ⟨rfl, hb⟩; refine ⟨_, rfl, ?_⟩; replace HO310 := RB HO310 hb; replace HO313 := RB HO313 hb; replace HO316 := RB HO316 hb; replace HO321 := RB HO321 hb; replace HO325 := RB HO325 hb; replace HO328 := RB HO328 hb; replace BK303 := KB BK303 hb; replace BK322 := KB BK322 hb; replace HB := BS (w := w) hb; (try clear hb)))
         have n0_ := Aside0.mk (Kd.R_drew HO310.out)
         have n1_ := Aside0.mk (Kd.R_drew HO313.out)
         have n2_ := Aside0.mk (Kd.R_drew HO316.out)
         have n3_ := Aside0.mk (Kd.R_drew HO321.out)
         have n4_ := Aside0.mk (Kd.R_drew HO325.out)
         have n5_ := Aside0.mk (Kd.R_drew HO328.out)
         have n6_ := Aside0.mk (blk_drew BK303.out)
         have n7_ := Aside0.mk (blk_drew BK322.out)
         have n8_ := Aside0.mk (below_drew1 HB.out)
         clear HO310
         clear HO313
         clear HO316
         clear HO321
         clear HO325
         clear HO328
         clear BK303
         clear BK322
         clear HB
         have HO310 := n0_
         have HO313 := n1_
         have HO316 := n2_
         have HO321 := n3_
         have HO325 := n4_
         have HO328 := n5_
         have BK303 := n6_
         have BK322 := n7_
         have HB := n8_
         clear n0_ n1_ n2_ n3_ n4_ n5_ n6_ n7_ n8_
         refine start_ (n := 5) (S := fun w' => w'.cell? ⟨gb322, 0, none⟩ = some (.int .i64 t318) ∧ w'.cell? ⟨gb322, 1, none⟩ = some (.slice Ao83 t319.length co83) ∧ w'.cell? ⟨gb303, 0, none⟩ = some (.int .i64 a0_0) ∧ w'.cell? ⟨gb303, 1, none⟩ = some (.slice A0_1 l0_1.length c0_1)) (ds := []) #[false, false, false, false, false] (by kernel_rfl) rfl rfl ⟨(blk_cell BK322.out 0).trans rfl, (blk_cell BK322.out 1).trans rfl, (blk_cell BK303.out 0).trans rfl, (blk_cell BK303.out 1).trans rfl⟩ (fun hHeld => ?_)
         generalize w89.drew = w90 at HO310 HO313 HO316 HO321 HO325 HO328 BK303 BK322 HB hHeld ⊢
         refine take_ (i := 0) (N := some 55) (v := ?_) (a' := ?_) #[true, false, false, false, false] rfl rfl (by kernel_rfl) (fun _ _ _ h => h) (Or.inl ⟨by rfl, ?_⟩) hHeld ?_ ?_
         rotate_left
         ·rintro w' ⟨s0, s1, s2, s3⟩
          go_simp
          with_reducible rfl
         rotate_left
         ·simp only [Act.put, PT, i64_w, i32_w]
          rfl
         refine take_ (i := 1) (N := some 56) (v := ?_) (a' := ?_) #[true, true, false, false, false] rfl rfl (by kernel_rfl) (fun _ _ _ h => h) (Or.inl ⟨by rfl, ?_⟩) hHeld ?_ ?_
         rotate_left
         ·rintro w' ⟨s0, s1, s2, s3⟩
          go_simp
          with_reducible rfl
         rotate_left
         ·simp only [Act.put, PT, i64_w, i32_w]
          rfl
         refine one_ (i := 2) (N := some 57) #[true, true, true, false, false] rfl rfl (by kernel_rfl) (by decide) (fun K hK => ?_)
         refine goes_ Try.func12 (by kernel_rfl) rfl #[.agg #[.int .i64 a0_0, .slice A0_1 l0_1.length c0_1]] (by rfl) rfl rfl (by (try simp only [List.map_toArray, List.map_cons, List.map_nil]); first | done | rfl | (simp only [List.length_drop, List.length_take]; rfl)) ?_
         with_reducible refine (laws_toClue.calls k a0_0 _ _ l0_1 t330 t331 _ ?side1 ?side2 A57.out).mono ?_
         (case side1 => exact CB HR0_1)
         (case side2 => exact HC0_1.out)
         rintro e w91 ⟨v332, rfl, ho0, hb⟩
         refine ⟨_, rfl, ?_⟩
         have n0_ := Aside0.mk (Kd.R_elder' (RR HO310) (Kd.R_base ho0) hb)
         have n1_ := RB HO313 hb
         have n2_ := RB HO316 hb
         have n3_ := Aside0.mk (Kd.R_elder' (RR HO321) (Kd.R_base ho0) hb)
         have n4_ := RB HO325 hb
         have n5_ := RB HO328 hb
         have n6_ := Aside0.mk (Kd.R_lower (Kd.R_new' (Kd.R_new' ho0 (Kd.R_lt (RR HO310))) (Kd.R_lt (RR HO321))) (below_size BL))
         have n7_ := KB BK303 hb
         have n8_ := KB BK322 hb
         have n9_ := BS (w := w) hb
         clear HO310
         clear HO313
         clear HO316
         clear HO321
         clear HO325
         clear HO328
         clear BK303
         clear BK322
         clear HB
         have HO310 := n0_
         have HO313 := n1_
         have HO316 := n2_
         have HO321 := n3_
         have HO325 := n4_
         have HO328 := n5_
         have HO333 := n6_
         have BK303 := n7_
         have BK322 := n8_
         have HB := n9_
         clear n0_ n1_ n2_ n3_ n4_ n5_ n6_ n7_ n8_ n9_
         (try clear hb)
         (try clear hb2)
         (try clear hk)
         (try clear hi)
         (try clear ho0)
         obtain ⟨Ao92, co92, eo92⟩ := Kd.R_slice HO333.out
         (first | subst eo92 | (injection eo92 with f1_ f2_ f3_; have f4_ := f1_.symm; have f5_ := f3_.symm; clear f1_ f2_ f3_; subst f4_; subst f5_))
         refine hK.out _ _ ⟨(blk_cell BK322.out 0).trans rfl, (blk_cell BK322.out 1).trans rfl, (blk_cell BK303.out 0).trans rfl, (blk_cell BK303.out 1).trans rfl⟩ (fun hHeld => ?_)
         clear hK K
         refine norm_ (a' := ?_) ?_ ?_
         rotate_left
         ·show Act.put _ (some 57) _ = _
          simp only [Act.put, PT, i64_w, i32_w]
          rfl
         refine one_ (i := 3) (N := some 58) #[true, true, true, true, false] rfl rfl (by kernel_rfl) (by decide) (fun K hK => ?_)
         refine goes_ Try.func16 (by kernel_rfl) rfl #[.agg #[.int .i64 t318, .slice Ao83 t319.length co83], .agg #[.int .i64 t330, .slice Ao92 t331.length co92]] (by rfl) rfl rfl (by (try simp only [List.map_toArray, List.map_cons, List.map_nil]); first | done | rfl | (simp only [List.length_drop, List.length_take]; rfl)) ?_
         with_reducible refine (laws_eqClue.calls k t318 _ _ t319 t330 _ _ t331 true _ ?side1 ?side2 ?side3 ?side4 A58.out).mono ?_
         (case side1 => exact CR2 HO321)
         (case side2 => exact (Kd.R_reads' HO321.out).2.1)
         (case side3 => exact CR2 HO333)
         (case side4 => exact (Kd.R_reads' HO333.out).2.1)
         rintro e w93 ⟨rfl, hb⟩
         refine ⟨_, rfl, ?_⟩
         have n0_ := RB HO310 hb
         have n1_ := RB HO313 hb
         have n2_ := RB HO316 hb
         have n3_ := RB HO321 hb
         have n4_ := RB HO325 hb
         have n5_ := RB HO328 hb
         have n6_ := RB HO333 hb
         have n7_ := KB BK303 hb
         have n8_ := KB BK322 hb
         have n9_ := BS (w := w) hb
         clear HO310
         clear HO313
         clear HO316
         clear HO321
         clear HO325
         clear HO328
         clear HO333
         clear BK303
         clear BK322
         clear HB
         have HO310 := n0_
         have HO313 := n1_
         have HO316 := n2_
         have HO321 := n3_
         have HO325 := n4_
         have HO328 := n5_
         have HO333 := n6_
         have BK303 := n7_
         have BK322 := n8_
         have HB := n9_
         clear n0_ n1_ n2_ n3_ n4_ n5_ n6_ n7_ n8_ n9_
         (try clear hb)
         (try clear hb2)
         (try clear hk)
         (try clear hi)
         refine hK.out _ _ ⟨(blk_cell BK322.out 0).trans rfl, (blk_cell BK322.out 1).trans rfl, (blk_cell BK303.out 0).trans rfl, (blk_cell BK303.out 1).trans rfl⟩ (fun hHeld => ?_)
         clear hK K
         refine norm_ (a' := ?_) ?_ ?_
         rotate_left
         ·show Act.put _ (some 58) _ = _
          simp only [Act.put, PT, i64_w, i32_w]
          rfl
         refine puS (i := 4) (N := some 59) #[true, true, true, true, true] (by kernel_rfl) ?_
         refine done_ (by kernel_rfl) ?_
         try go_wp2_with (first | ((with_reducible refine gate_callee (f := 13) rfl ?_); refine goesS (some 62) Try.func13 #[.slice A1 l1.length c1] ?_; (with_reducible refine (laws_toMeaningS.calls k _ _ l1 t335 _ ?side1 ?side2 A60.out).mono ?_); (case side1 => exact CB HR1); (case side2 => exact HC1.out); rintro e w94 ⟨v336, rfl, ho0, hb⟩; refine ⟨_, rfl, ?_⟩; have n1_ := Aside0.mk (Kd.R_elder' (RR HO313) (Kd.R_base ho0) hb); have n4_ := Aside0.mk (Kd.R_elder' (RR HO325) (Kd.R_base ho0) hb); have n7_ := Aside0.mk (Kd.R_lower (Kd.R_new' (Kd.R_new' ho0 (Kd.R_lt (RR HO313))) (Kd.R_lt (RR HO325))) (below_size BL)); replace HO310 := RB HO310 hb; replace HO316 := RB HO316 hb; replace HO321 := RB HO321 hb; replace HO328 := RB HO328 hb; replace HO333 := RB HO333 hb; replace BK303 := KB BK303 hb; replace BK322 := KB BK322 hb; replace HB := BS (w := w) hb; clear HO313 HO325; have HO313 := n1_; have HO325 := n4_; have HO337 := n7_; clear n1_ n4_ n7_; (try clear hb); (try clear ho0); obtain ⟨Ao95, co95, eo95⟩ := Kd.R_slice HO337.out; subst eo95) | ((with_reducible refine gate_callee (f := 17) rfl ?_); refine goesS (some 63) Try.func17 #[.slice Ao87 t323.length co87, .slice Ao95 t335.length co95] ?_; (with_reducible refine (laws_eqMeaningS.calls k _ _ t323 _ _ t335 true _ ?side1 ?side2 ?side3 ?side4 A61.out).mono ?_); (case side1 => exact CR2 HO325); (case side2 => exact (Kd.R_reads' HO325.out).2.1); (case side3 => exact CR2 HO337); (case side4 => exact (Kd.R_reads' HO337.out).2.1); rintro e w96 ⟨rfl, hb⟩; refine ⟨_, rfl, ?_⟩; replace HO310 := RB HO310 hb; replace HO313 := RB HO313 hb; replace HO316 := RB HO316 hb; replace HO321 := RB HO321 hb; replace HO325 := RB HO325 hb; replace HO328 := RB HO328 hb; replace HO333 := RB HO333 hb; replace HO337 := RB HO337 hb; replace BK303 := KB BK303 hb; replace BK322 := KB BK322 hb; replace HB := BS (w := w) hb; (try clear hb)) | ((with_reducible refine gate_callee (f := 14) rfl ?_); refine goesS (some 67) Try.func14 #[.slice A2 l2.length c2] ?_; (with_reducible refine (laws_toStringS.calls k _ _ l2 t339 _ ?side1 ?side2 A63.out).mono ?_); (case side1 => exact CB HR2); (case side2 => exact HC2.out); rintro e w97 ⟨v340, rfl, ho0, hb⟩; refine ⟨_, rfl, ?_⟩; have n2_ := Aside0.mk (Kd.R_elder' (RR HO316) (Kd.R_base ho0) hb); have n5_ := Aside0.mk (Kd.R_elder' (RR HO328) (Kd.R_base ho0) hb); have n8_ := Aside0.mk (Kd.R_lower (Kd.R_new' (Kd.R_new' ho0 (Kd.R_lt (RR HO316))) (Kd.R_lt (RR HO328))) (below_size BL)); replace HO310 := RB HO310 hb; replace HO313 := RB HO313 hb; replace HO321 := RB HO321 hb; replace HO325 := RB HO325 hb; replace HO333 := RB HO333 hb; replace HO337 := RB HO337 hb; replace BK303 := KB BK303 hb; replace BK322 := KB BK322 hb; replace HB := BS (w := w) hb; clear HO316 HO328; have HO316 := n2_; have HO328 := n5_; have HO341 := n8_; clear n2_ n5_ n8_; (try clear hb); (try clear ho0); obtain ⟨Ao98, co98, eo98⟩ := Kd.R_slice HO341.out; subst eo98) | ((with_reducible refine gate_callee (f := 18) rfl ?_); refine goesS (some 68) Try.func18 #[.slice Ao88 t326.length co88, .slice Ao98 t339.length co98] ?_; (with_reducible refine (laws_eqStringS.calls k _ _ t326 _ _ t339 true _ ?side1 ?side2 ?side3 ?side4 A64.out).mono ?_); (case side1 => exact CR2 HO328); (case side2 => exact (Kd.R_reads' HO328.out).2.1); (case side3 => exact CR2 HO341); (case side4 => exact (Kd.R_reads' HO341.out).2.1); rintro e w' ⟨rfl, ⟨nd, rfl⟩⟩; refine ⟨_, rfl, ?_⟩))
         go_ret
         exact ⟨EWW, BL⟩
        ·replace c65 := Bool.eq_false_iff.mpr c65
         subst c65
         have H1 : (some false) = some r := by rw [if_neg (show ¬ (false = true) by decide)] at H; exact H
         clear H
         have H := H1
         clear H1
         obtain rfl := Option.some.inj H
         go_enter Try.func4, Try.ntmps4
         try go_wp2_with (first | ((with_reducible refine gate_dst (N := 4) rfl ?_); refine box_ev (N := 4) (cs := #[.int .i64 a0_0, .slice A0_1 l0_1.length c0_1]) (t := 24) ?_; intro gb303 hg w99 hbox hb; have n0_ := BS (w := w) hb; have n1_ := Aside0.mk (hbox); have n2_ := SZ (w := w) hg; have n3_ := SZ (w := w) hg; clear HB; have HB := n0_; have BK303 := n1_; have GW303 := n2_; have GE303 := n3_; clear n0_ n1_ n2_ n3_; clear hb hbox hg; obtain ⟨hcz100_0, hcz100_1, hfz100_0, hfz100_1⟩ := cz2 BK303.out) | ((with_reducible refine gate_callee (f := 8) rfl ?_); refine goesS (some 20) Try.func8 #[.agg #[.int .i64 a0_0, .slice A0_1 l0_1.length c0_1], .int .i64 1048576] ?_; (with_reducible refine (laws_szClue.calls k a0_0 _ _ l0_1 1048576 t304 _ ?side1 ?side2 A7.out).mono ?_); (case side1 => exact CB HR0_1); (case side2 => exact HC0_1.out); rintro e w101 ⟨rfl, hb⟩; refine ⟨_, rfl, ?_⟩; replace BK303 := KB BK303 hb; replace HB := BS (w := w) hb; (try clear hb)) | ((with_reducible refine gate_callee (f := 9) rfl ?_); refine goesS (some 25) Try.func9 #[.slice A1 l1.length c1, .int .i64 t304] ?_; (with_reducible refine (laws_szMeaningS.calls k _ _ l1 t304 t305 _ ?side1 ?side2 A12.out).mono ?_); (case side1 => exact CB HR1); (case side2 => exact HC1.out); rintro e w102 ⟨rfl, hb⟩; refine ⟨_, rfl, ?_⟩; replace BK303 := KB BK303 hb; replace HB := BS (w := w) hb; (try clear hb)) | ((with_reducible refine gate_callee (f := 10) rfl ?_); refine goesS (some 30) Try.func10 #[.slice A2 l2.length c2, .int .i64 t305] ?_; (with_reducible refine (laws_szStringS.calls k _ _ l2 t305 t306 _ ?side1 ?side2 A18.out).mono ?_); (case side1 => exact CB HR2); (case side2 => exact HC2.out); rintro e w' ⟨rfl, ⟨nd, rfl⟩⟩; refine ⟨_, rfl, ?_⟩; (try (rw [drewN_self w102]; generalize hq_ : World.drewN w102 _ = w102; have n0_ : Aside0 (w102.heap[gb303]? = some (.cells #[.int .i64 a0_0, .slice A0_1 l0_1.length c0_1] 24 (0, 0))) := ⟨by rw [← hq_]; exact BK⟩; have n1_ : Aside0 (Below w.heap.size w w102) := ⟨by rw [← hq_]; exact BL⟩; clear BK303 HB hq_; have BK303 := n0_; have HB := n1_; clear n0_ n1_)); have hfz100_0 := blk_frozen BK303.out 0; have hfz100_1 := blk_frozen BK303.out 1; obtain ⟨hcz103_0, hcz103_1, hfz103_0, hfz103_1⟩ := cz2 BK303.out) | ((with_reducible refine gate_callee (f := 12) rfl ?_); refine goesS (some 34) Try.func12 #[.agg #[.int .i64 a0_0, .slice A0_1 l0_1.length c0_1]] ?_; (with_reducible refine (laws_toClue.calls k a0_0 _ _ l0_1 t307 t308 _ ?side1 ?side2 A24.out).mono ?_); (case side1 => exact CB HR0_1); (case side2 => exact HC0_1.out); rintro e w104 ⟨v309, rfl, ho0, hb⟩; refine ⟨_, rfl, ?_⟩; have n0_ := Aside0.mk (Kd.R_lower ho0 (below_size BL)); replace BK303 := KB BK303 hb; replace HB := BS (w := w) hb; have HO310 := n0_; clear n0_; (try clear hb); (try clear ho0)) | ((with_reducible refine gate_callee (f := 13) rfl ?_); refine goesS (some 36) Try.func13 #[.slice A1 l1.length c1] ?_; (with_reducible refine (laws_toMeaningS.calls k _ _ l1 t311 _ ?side1 ?side2 A25.out).mono ?_); (case side1 => exact CB HR1); (case side2 => exact HC1.out); rintro e w105 ⟨v312, rfl, ho0, hb⟩; refine ⟨_, rfl, ?_⟩; have n1_ := Aside0.mk (Kd.R_lower ho0 (below_size BL)); replace HO310 := RB HO310 hb; replace BK303 := KB BK303 hb; replace HB := BS (w := w) hb; have HO313 := n1_; clear n1_; (try clear hb); (try clear ho0)) | ((with_reducible refine gate_callee (f := 14) rfl ?_); refine goesS (some 38) Try.func14 #[.slice A2 l2.length c2] ?_; (with_reducible refine (laws_toStringS.calls k _ _ l2 t314 _ ?side1 ?side2 A26.out).mono ?_); (case side1 => exact CB HR2); (case side2 => exact HC2.out); rintro e w106 ⟨v315, rfl, ho0, hb⟩; refine ⟨_, rfl, ?_⟩; have n2_ := Aside0.mk (Kd.R_lower ho0 (below_size BL)); replace HO310 := RB HO310 hb; replace HO313 := RB HO313 hb; replace BK303 := KB BK303 hb; replace HB := BS (w := w) hb; have HO316 := n2_; clear n2_; (try clear hb); (try clear ho0); obtain ⟨Ao107, co107, eo107⟩ := Kd.R_slice HO310.out; subst eo107; obtain ⟨Ao108, co108, eo108⟩ := Kd.R_slice HO313.out; subst eo108; obtain ⟨Ao109, co109, eo109⟩ := Kd.R_slice HO316.out; subst eo109) | ((with_reducible refine gate_callee (f := 19) rfl ?_); refine goesS (some 40) Try.func19 #[.agg #[.int .i64 t307, .slice Ao107 t308.length co107], .slice Ao108 t311.length co108, .slice Ao109 t314.length co109, .string a3] ?_; (with_reducible refine (spec_NeedsBoth.calls k t307 _ _ t308 _ _ t311 _ _ t314 a3 t317 _ ?side1 ?side2 ?side3 ?side4 ?side5 ?side6 A27.out).mono ?_); (case side1 => exact CR2 HO310); (case side2 => exact (Kd.R_reads' HO310.out).2.1); (case side3 => exact CR2 HO313); (case side4 => exact (Kd.R_reads' HO313.out).2.1); (case side5 => exact CR2 HO316); (case side6 => exact (Kd.R_reads' HO316.out).2.1); rintro e w110 ⟨rfl, hb⟩; refine ⟨_, rfl, ?_⟩; replace HO310 := RB HO310 hb; replace HO313 := RB HO313 hb; replace HO316 := RB HO316 hb; replace BK303 := KB BK303 hb; replace HB := BS (w := w) hb; (try clear hb); obtain ⟨hcz111_0, hcz111_1, hfz111_0, hfz111_1⟩ := cz2 BK303.out) | ((with_reducible refine gate_callee (f := 12) rfl ?_); refine goesS (some 42) Try.func12 #[.agg #[.int .i64 a0_0, .slice A0_1 l0_1.length c0_1]] ?_; (with_reducible refine (laws_toClue.calls k a0_0 _ _ l0_1 t318 t319 _ ?side1 ?side2 A28.out).mono ?_); (case side1 => exact CB HR0_1); (case side2 => exact HC0_1.out); rintro e w112 ⟨v320, rfl, ho0, hb⟩; refine ⟨_, rfl, ?_⟩; have n0_ := Aside0.mk (Kd.R_elder' (RR HO310) (Kd.R_base ho0) hb); have n3_ := Aside0.mk (Kd.R_lower (Kd.R_new' ho0 (Kd.R_lt (RR HO310))) (below_size BL)); replace HO313 := RB HO313 hb; replace HO316 := RB HO316 hb; replace BK303 := KB BK303 hb; replace HB := BS (w := w) hb; clear HO310; have HO310 := n0_; have HO321 := n3_; clear n0_ n3_; (try clear hb); (try clear ho0)) | ((with_reducible refine gate_dst (N := 11) rfl ?_); refine box_ev (N := 11) (cs := #[.int .i64 0, .slice none 0 0]) (t := 33) ?_; intro gb322 hg w113 hbox hb; have n0_ := RB HO310 hb; have n1_ := RB HO313 hb; have n2_ := RB HO316 hb; have n3_ := RB HO321 hb; have n4_ := KB BK303 hb; have n5_ := BS (w := w) hb; have n6_ := Aside0.mk (hbox); have n7_ := SZ (w := w) hg; have n8_ := SZ (w := w) hg; have n9_ := NL BK303 hg; have n10_ := NG BK303 hg; clear HO310 HO313 HO316 HO321 BK303 HB; have HO310 := n0_; have HO313 := n1_; have HO316 := n2_; have HO321 := n3_; have BK303 := n4_; have HB := n5_; have BK322 := n6_; have GW322 := n7_; have GE322 := n8_; have NB303_322 := n9_; have NB322_303 := n10_; clear n0_ n1_ n2_ n3_ n4_ n5_ n6_ n7_ n8_ n9_ n10_; clear hb hbox hg; have hnb114 := NB322_303.out; have hnc114 := NB303_322.out; obtain ⟨hcz115_0, hcz115_1, hfz115_0, hfz115_1⟩ := cz2 BK322.out; obtain ⟨Ao116, co116, eo116⟩ := Kd.R_slice HO321.out; subst eo116) | ((with_reducible refine gate_callee (f := 13) rfl ?_); refine goesS (some 44) Try.func13 #[.slice A1 l1.length c1] ?_; (with_reducible refine (laws_toMeaningS.calls k _ _ l1 t323 _ ?side1 ?side2 A29.out).mono ?_); (case side1 => exact Kd.C_below HR1.out BL); (case side2 => exact HC1.out); rintro e w117 ⟨v324, rfl, ho0, hb⟩; refine ⟨_, rfl, ?_⟩; have n0_ := Aside0.mk (Kd.R_below (by (with_reducible repeat (first | apply Kd.R_alloc | apply Kd.R_drewN | apply Kd.R_drew)); exact (Kd.R_mono (Kd.R_far (p := ⟨gb322, 1, none⟩) (Kd.R_far (p := ⟨gb322, 0, none⟩) (Kd.R_types HO310.out BK322.out (by decide)) (fun _ hk => hk.2) (.int .i64 t318)) (fun _ hk => hk.2) (.slice Ao116 t319.length co116)) (fun _ h_ => h_.1))) hb); have n1_ := Aside0.mk (Kd.R_elder' (by (with_reducible repeat (first | apply Kd.R_alloc | apply Kd.R_drewN | apply Kd.R_drew)); exact (Kd.R_mono (Kd.R_far (p := ⟨gb322, 1, none⟩) (Kd.R_far (p := ⟨gb322, 0, none⟩) (Kd.R_types HO313.out BK322.out (by decide)) (fun _ hk => hk.2) (.int .i64 t318)) (fun _ hk => hk.2) (.slice Ao116 t319.length co116)) (fun _ h_ => h_.1))) (Kd.R_base ho0) hb); have n2_ := Aside0.mk (Kd.R_below (by (with_reducible repeat (first | apply Kd.R_alloc | apply Kd.R_drewN | apply Kd.R_drew)); exact (Kd.R_mono (Kd.R_far (p := ⟨gb322, 1, none⟩) (Kd.R_far (p := ⟨gb322, 0, none⟩) (Kd.R_types HO316.out BK322.out (by decide)) (fun _ hk => hk.2) (.int .i64 t318)) (fun _ hk => hk.2) (.slice Ao116 t319.length co116)) (fun _ h_ => h_.1))) hb); have n3_ := Aside0.mk (Kd.R_below (by (with_reducible repeat (first | apply Kd.R_alloc | apply Kd.R_drewN | apply Kd.R_drew)); exact (Kd.R_mono (Kd.R_far (p := ⟨gb322, 1, none⟩) (Kd.R_far (p := ⟨gb322, 0, none⟩) (Kd.R_types HO321.out BK322.out (by decide)) (fun _ hk => hk.2) (.int .i64 t318)) (fun _ hk => hk.2) (.slice Ao116 t319.length co116)) (fun _ h_ => h_.1))) hb); have n4_ := Aside0.mk (Kd.R_lower (Kd.R_new' ho0 (Kd.R_lt (by (with_reducible repeat (first | apply Kd.R_alloc | apply Kd.R_drewN | apply Kd.R_drew)); exact (Kd.R_mono (Kd.R_far (p := ⟨gb322, 1, none⟩) (Kd.R_far (p := ⟨gb322, 0, none⟩) (Kd.R_types HO313.out BK322.out (by decide)) (fun _ hk => hk.2) (.int .i64 t318)) (fun _ hk => hk.2) (.slice Ao116 t319.length co116)) (fun _ h_ => h_.1))))) (below_size BL)); have n5_ := Aside0.mk (blk_below (g := gb303) (o := .cells #[.int .i64 a0_0, .slice A0_1 l0_1.length c0_1] 24 (0, 0)) (by (with_reducible repeat (first | refine blk_drewN ?_ _ | refine blk_drew ?_ | refine blk_alloc ?_ _)); refine blk_far ?_ NB303_322.out _; (with_reducible repeat (first | refine blk_drewN ?_ _ | refine blk_drew ?_ | refine blk_alloc ?_ _)); refine blk_far ?_ NB303_322.out _; (with_reducible repeat (first | refine blk_drewN ?_ _ | refine blk_drew ?_ | refine blk_alloc ?_ _)); exact BK303.out) hb); have n6_ := Aside0.mk (blk_below (g := gb322) (o := .cells #[.int .i64 t318, .slice Ao116 t319.length co116] 33 (0, 0)) (by (with_reducible repeat (first | refine blk_drewN ?_ _ | refine blk_drew ?_ | refine blk_alloc ?_ _)); refine blk_put (cs := #[.int .i64 t318, .slice none 0 0]) ?_ 1 _ rfl; (with_reducible repeat (first | refine blk_drewN ?_ _ | refine blk_drew ?_ | refine blk_alloc ?_ _)); refine blk_put (cs := #[.int .i64 0, .slice none 0 0]) ?_ 0 _ rfl; (with_reducible repeat (first | refine blk_drewN ?_ _ | refine blk_drew ?_ | refine blk_alloc ?_ _)); exact BK322.out) hb); replace HB := BS (w := w) hb; clear HO310 HO313 HO316 HO321 BK303 BK322; have HO310 := n0_; have HO313 := n1_; have HO316 := n2_; have HO321 := n3_; have HO325 := n4_; have BK303 := n5_; have BK322 := n6_; clear n0_ n1_ n2_ n3_ n4_ n5_ n6_; (try clear hb); (try clear hk); (try clear ho0)) | ((with_reducible refine gate_callee (f := 14) rfl ?_); refine goesS (some 46) Try.func14 #[.slice A2 l2.length c2] ?_; (with_reducible refine (laws_toStringS.calls k _ _ l2 t326 _ ?side1 ?side2 A30.out).mono ?_); (case side1 => exact CB HR2); (case side2 => exact HC2.out); rintro e w118 ⟨v327, rfl, ho0, hb⟩; refine ⟨_, rfl, ?_⟩; have n2_ := Aside0.mk (Kd.R_elder' (RR HO316) (Kd.R_base ho0) hb); have n5_ := Aside0.mk (Kd.R_lower (Kd.R_new' ho0 (Kd.R_lt (RR HO316))) (below_size BL)); replace HO310 := RB HO310 hb; replace HO313 := RB HO313 hb; replace HO321 := RB HO321 hb; replace HO325 := RB HO325 hb; replace BK303 := KB BK303 hb; replace BK322 := KB BK322 hb; replace HB := BS (w := w) hb; clear HO316; have HO316 := n2_; have HO328 := n5_; clear n2_ n5_; (try clear hb); (try clear ho0); obtain ⟨hcz119_0, hcz119_1, hfz119_0, hfz119_1⟩ := cz2 BK322.out; obtain ⟨Ao120, co120, eo120⟩ := Kd.R_slice HO325.out; subst eo120; obtain ⟨Ao121, co121, eo121⟩ := Kd.R_slice HO328.out; subst eo121) | ((with_reducible refine gate_callee (f := 20) rfl ?_); refine goesS (some 51) Try.func20 #[.agg #[.int .i64 t318, .slice Ao116 t319.length co116], .slice Ao120 t323.length co120, .slice Ao121 t326.length co121, .string a3] ?_; (with_reducible refine (impl_NeedsBoth.calls k t318 _ _ t319 _ _ t323 _ _ t326 a3 t329 _ ?side1 ?side2 ?side3 ?side4 ?side5 ?side6 A31.out).mono ?_); (case side1 => exact CR2 HO321); (case side2 => exact (Kd.R_reads' HO321.out).2.1); (case side3 => exact CR2 HO325); (case side4 => exact (Kd.R_reads' HO325.out).2.1); (case side5 => exact CR2 HO328); (case side6 => exact (Kd.R_reads' HO328.out).2.1); rintro e w122 ⟨rfl, hb⟩; refine ⟨_, rfl, ?_⟩; replace HO310 := RB HO310 hb; replace HO313 := RB HO313 hb; replace HO316 := RB HO316 hb; replace HO321 := RB HO321 hb; replace HO325 := RB HO325 hb; replace HO328 := RB HO328 hb; replace BK303 := KB BK303 hb; replace BK322 := KB BK322 hb; replace HB := BS (w := w) hb; (try clear hb)))
         have n0_ := Aside0.mk (Kd.R_drew HO310.out)
         have n1_ := Aside0.mk (Kd.R_drew HO313.out)
         have n2_ := Aside0.mk (Kd.R_drew HO316.out)
         have n3_ := Aside0.mk (Kd.R_drew HO321.out)
         have n4_ := Aside0.mk (Kd.R_drew HO325.out)
         have n5_ := Aside0.mk (Kd.R_drew HO328.out)
         have n6_ := Aside0.mk (blk_drew BK303.out)
         have n7_ := Aside0.mk (blk_drew BK322.out)
         have n8_ := Aside0.mk (below_drew1 HB.out)
         clear HO310
         clear HO313
         clear HO316
         clear HO321
         clear HO325
         clear HO328
         clear BK303
         clear BK322
         clear HB
         have HO310 := n0_
         have HO313 := n1_
         have HO316 := n2_
         have HO321 := n3_
         have HO325 := n4_
         have HO328 := n5_
         have BK303 := n6_
         have BK322 := n7_
         have HB := n8_
         clear n0_ n1_ n2_ n3_ n4_ n5_ n6_ n7_ n8_
         refine start_ (n := 5) (S := fun w' => w'.cell? ⟨gb322, 0, none⟩ = some (.int .i64 t318) ∧ w'.cell? ⟨gb322, 1, none⟩ = some (.slice Ao116 t319.length co116) ∧ w'.cell? ⟨gb303, 0, none⟩ = some (.int .i64 a0_0) ∧ w'.cell? ⟨gb303, 1, none⟩ = some (.slice A0_1 l0_1.length c0_1)) (ds := []) #[false, false, false, false, false] (by kernel_rfl) rfl rfl ⟨(blk_cell BK322.out 0).trans rfl, (blk_cell BK322.out 1).trans rfl, (blk_cell BK303.out 0).trans rfl, (blk_cell BK303.out 1).trans rfl⟩ (fun hHeld => ?_)
         generalize w122.drew = w123 at HO310 HO313 HO316 HO321 HO325 HO328 BK303 BK322 HB hHeld ⊢
         refine take_ (i := 0) (N := some 55) (v := ?_) (a' := ?_) #[true, false, false, false, false] rfl rfl (by kernel_rfl) (fun _ _ _ h => h) (Or.inl ⟨by rfl, ?_⟩) hHeld ?_ ?_
         rotate_left
         ·rintro w' ⟨s0, s1, s2, s3⟩
          go_simp
          with_reducible rfl
         rotate_left
         ·simp only [Act.put, PT, i64_w, i32_w]
          rfl
         refine take_ (i := 1) (N := some 56) (v := ?_) (a' := ?_) #[true, true, false, false, false] rfl rfl (by kernel_rfl) (fun _ _ _ h => h) (Or.inl ⟨by rfl, ?_⟩) hHeld ?_ ?_
         rotate_left
         ·rintro w' ⟨s0, s1, s2, s3⟩
          go_simp
          with_reducible rfl
         rotate_left
         ·simp only [Act.put, PT, i64_w, i32_w]
          rfl
         refine one_ (i := 2) (N := some 57) #[true, true, true, false, false] rfl rfl (by kernel_rfl) (by decide) (fun K hK => ?_)
         refine goes_ Try.func12 (by kernel_rfl) rfl #[.agg #[.int .i64 a0_0, .slice A0_1 l0_1.length c0_1]] (by rfl) rfl rfl (by (try simp only [List.map_toArray, List.map_cons, List.map_nil]); first | done | rfl | (simp only [List.length_drop, List.length_take]; rfl)) ?_
         with_reducible refine (laws_toClue.calls k a0_0 _ _ l0_1 t330 t331 _ ?side1 ?side2 A57.out).mono ?_
         (case side1 => exact CB HR0_1)
         (case side2 => exact HC0_1.out)
         rintro e w124 ⟨v332, rfl, ho0, hb⟩
         refine ⟨_, rfl, ?_⟩
         have n0_ := Aside0.mk (Kd.R_elder' (RR HO310) (Kd.R_base ho0) hb)
         have n1_ := RB HO313 hb
         have n2_ := RB HO316 hb
         have n3_ := Aside0.mk (Kd.R_elder' (RR HO321) (Kd.R_base ho0) hb)
         have n4_ := RB HO325 hb
         have n5_ := RB HO328 hb
         have n6_ := Aside0.mk (Kd.R_lower (Kd.R_new' (Kd.R_new' ho0 (Kd.R_lt (RR HO310))) (Kd.R_lt (RR HO321))) (below_size BL))
         have n7_ := KB BK303 hb
         have n8_ := KB BK322 hb
         have n9_ := BS (w := w) hb
         clear HO310
         clear HO313
         clear HO316
         clear HO321
         clear HO325
         clear HO328
         clear BK303
         clear BK322
         clear HB
         have HO310 := n0_
         have HO313 := n1_
         have HO316 := n2_
         have HO321 := n3_
         have HO325 := n4_
         have HO328 := n5_
         have HO333 := n6_
         have BK303 := n7_
         have BK322 := n8_
         have HB := n9_
         clear n0_ n1_ n2_ n3_ n4_ n5_ n6_ n7_ n8_ n9_
         (try clear hb)
         (try clear hb2)
         (try clear hk)
         (try clear hi)
         (try clear ho0)
         obtain ⟨Ao125, co125, eo125⟩ := Kd.R_slice HO333.out
         (first | subst eo125 | (injection eo125 with f1_ f2_ f3_; have f4_ := f1_.symm; have f5_ := f3_.symm; clear f1_ f2_ f3_; subst f4_; subst f5_))
         refine hK.out _ _ ⟨(blk_cell BK322.out 0).trans rfl, (blk_cell BK322.out 1).trans rfl, (blk_cell BK303.out 0).trans rfl, (blk_cell BK303.out 1).trans rfl⟩ (fun hHeld => ?_)
         clear hK K
         refine norm_ (a' := ?_) ?_ ?_
         rotate_left
         ·show Act.put _ (some 57) _ = _
          simp only [Act.put, PT, i64_w, i32_w]
          rfl
         refine one_ (i := 3) (N := some 58) #[true, true, true, true, false] rfl rfl (by kernel_rfl) (by decide) (fun K hK => ?_)
         refine goes_ Try.func16 (by kernel_rfl) rfl #[.agg #[.int .i64 t318, .slice Ao116 t319.length co116], .agg #[.int .i64 t330, .slice Ao125 t331.length co125]] (by rfl) rfl rfl (by (try simp only [List.map_toArray, List.map_cons, List.map_nil]); first | done | rfl | (simp only [List.length_drop, List.length_take]; rfl)) ?_
         with_reducible refine (laws_eqClue.calls k t318 _ _ t319 t330 _ _ t331 true _ ?side1 ?side2 ?side3 ?side4 A58.out).mono ?_
         (case side1 => exact CR2 HO321)
         (case side2 => exact (Kd.R_reads' HO321.out).2.1)
         (case side3 => exact CR2 HO333)
         (case side4 => exact (Kd.R_reads' HO333.out).2.1)
         rintro e w126 ⟨rfl, hb⟩
         refine ⟨_, rfl, ?_⟩
         have n0_ := RB HO310 hb
         have n1_ := RB HO313 hb
         have n2_ := RB HO316 hb
         have n3_ := RB HO321 hb
         have n4_ := RB HO325 hb
         have n5_ := RB HO328 hb
         have n6_ := RB HO333 hb
         have n7_ := KB BK303 hb
         have n8_ := KB BK322 hb
         have n9_ := BS (w := w) hb
         clear HO310
         clear HO313
         clear HO316
         clear HO321
         clear HO325
         clear HO328
         clear HO333
         clear BK303
         clear BK322
         clear HB
         have HO310 := n0_
         have HO313 := n1_
         have HO316 := n2_
         have HO321 := n3_
         have HO325 := n4_
         have HO328 := n5_
         have HO333 := n6_
         have BK303 := n7_
         have BK322 := n8_
         have HB := n9_
         clear n0_ n1_ n2_ n3_ n4_ n5_ n6_ n7_ n8_ n9_
         (try clear hb)
         (try clear hb2)
         (try clear hk)
         (try clear hi)
         refine hK.out _ _ ⟨(blk_cell BK322.out 0).trans rfl, (blk_cell BK322.out 1).trans rfl, (blk_cell BK303.out 0).trans rfl, (blk_cell BK303.out 1).trans rfl⟩ (fun hHeld => ?_)
         clear hK K
         refine norm_ (a' := ?_) ?_ ?_
         rotate_left
         ·show Act.put _ (some 58) _ = _
          simp only [Act.put, PT, i64_w, i32_w]
          rfl
         refine puS (i := 4) (N := some 59) #[true, true, true, true, true] (by kernel_rfl) ?_
         refine done_ (by kernel_rfl) ?_
         try go_wp2_with (first | ((with_reducible refine gate_callee (f := 13) rfl ?_); refine goesS (some 62) Try.func13 #[.slice A1 l1.length c1] ?_; (with_reducible refine (laws_toMeaningS.calls k _ _ l1 t335 _ ?side1 ?side2 A60.out).mono ?_); (case side1 => exact CB HR1); (case side2 => exact HC1.out); rintro e w127 ⟨v336, rfl, ho0, hb⟩; refine ⟨_, rfl, ?_⟩; have n1_ := Aside0.mk (Kd.R_elder' (RR HO313) (Kd.R_base ho0) hb); have n4_ := Aside0.mk (Kd.R_elder' (RR HO325) (Kd.R_base ho0) hb); have n7_ := Aside0.mk (Kd.R_lower (Kd.R_new' (Kd.R_new' ho0 (Kd.R_lt (RR HO313))) (Kd.R_lt (RR HO325))) (below_size BL)); replace HO310 := RB HO310 hb; replace HO316 := RB HO316 hb; replace HO321 := RB HO321 hb; replace HO328 := RB HO328 hb; replace HO333 := RB HO333 hb; replace BK303 := KB BK303 hb; replace BK322 := KB BK322 hb; replace HB := BS (w := w) hb; clear HO313 HO325; have HO313 := n1_; have HO325 := n4_; have HO337 := n7_; clear n1_ n4_ n7_; (try clear hb); (try clear ho0); obtain ⟨Ao128, co128, eo128⟩ := Kd.R_slice HO337.out; subst eo128) | ((with_reducible refine gate_callee (f := 17) rfl ?_); refine goesS (some 63) Try.func17 #[.slice Ao120 t323.length co120, .slice Ao128 t335.length co128] ?_; (with_reducible refine (laws_eqMeaningS.calls k _ _ t323 _ _ t335 true _ ?side1 ?side2 ?side3 ?side4 A61.out).mono ?_); (case side1 => exact CR2 HO325); (case side2 => exact (Kd.R_reads' HO325.out).2.1); (case side3 => exact CR2 HO337); (case side4 => exact (Kd.R_reads' HO337.out).2.1); rintro e w129 ⟨rfl, hb⟩; refine ⟨_, rfl, ?_⟩; replace HO310 := RB HO310 hb; replace HO313 := RB HO313 hb; replace HO316 := RB HO316 hb; replace HO321 := RB HO321 hb; replace HO325 := RB HO325 hb; replace HO328 := RB HO328 hb; replace HO333 := RB HO333 hb; replace HO337 := RB HO337 hb; replace BK303 := KB BK303 hb; replace BK322 := KB BK322 hb; replace HB := BS (w := w) hb; (try clear hb)) | ((with_reducible refine gate_callee (f := 14) rfl ?_); refine goesS (some 67) Try.func14 #[.slice A2 l2.length c2] ?_; (with_reducible refine (laws_toStringS.calls k _ _ l2 t339 _ ?side1 ?side2 A63.out).mono ?_); (case side1 => exact CB HR2); (case side2 => exact HC2.out); rintro e w130 ⟨v340, rfl, ho0, hb⟩; refine ⟨_, rfl, ?_⟩; have n2_ := Aside0.mk (Kd.R_elder' (RR HO316) (Kd.R_base ho0) hb); have n5_ := Aside0.mk (Kd.R_elder' (RR HO328) (Kd.R_base ho0) hb); have n8_ := Aside0.mk (Kd.R_lower (Kd.R_new' (Kd.R_new' ho0 (Kd.R_lt (RR HO316))) (Kd.R_lt (RR HO328))) (below_size BL)); replace HO310 := RB HO310 hb; replace HO313 := RB HO313 hb; replace HO321 := RB HO321 hb; replace HO325 := RB HO325 hb; replace HO333 := RB HO333 hb; replace HO337 := RB HO337 hb; replace BK303 := KB BK303 hb; replace BK322 := KB BK322 hb; replace HB := BS (w := w) hb; clear HO316 HO328; have HO316 := n2_; have HO328 := n5_; have HO341 := n8_; clear n2_ n5_ n8_; (try clear hb); (try clear ho0); obtain ⟨Ao131, co131, eo131⟩ := Kd.R_slice HO341.out; subst eo131) | ((with_reducible refine gate_callee (f := 18) rfl ?_); refine goesS (some 68) Try.func18 #[.slice Ao121 t326.length co121, .slice Ao131 t339.length co131] ?_; (with_reducible refine (laws_eqStringS.calls k _ _ t326 _ _ t339 false _ ?side1 ?side2 ?side3 ?side4 A64.out).mono ?_); (case side1 => exact CR2 HO328); (case side2 => exact (Kd.R_reads' HO328.out).2.1); (case side3 => exact CR2 HO341); (case side4 => exact (Kd.R_reads' HO341.out).2.1); rintro e w' ⟨rfl, ⟨nd, rfl⟩⟩; refine ⟨_, rfl, ?_⟩))
         go_ret
         exact ⟨EWW, BL⟩
       ·replace c62 := Bool.eq_false_iff.mpr c62
        subst c62
        have H1 : (some false) = some r := by rw [if_neg (show ¬ (false = true) by decide)] at H; exact H
        clear H
        have H := H1
        clear H1
        obtain rfl := Option.some.inj H
        go_enter Try.func4, Try.ntmps4
        try go_wp2_with (first | ((with_reducible refine gate_dst (N := 4) rfl ?_); refine box_ev (N := 4) (cs := #[.int .i64 a0_0, .slice A0_1 l0_1.length c0_1]) (t := 24) ?_; intro gb303 hg w132 hbox hb; have n0_ := BS (w := w) hb; have n1_ := Aside0.mk (hbox); have n2_ := SZ (w := w) hg; have n3_ := SZ (w := w) hg; clear HB; have HB := n0_; have BK303 := n1_; have GW303 := n2_; have GE303 := n3_; clear n0_ n1_ n2_ n3_; clear hb hbox hg; obtain ⟨hcz133_0, hcz133_1, hfz133_0, hfz133_1⟩ := cz2 BK303.out) | ((with_reducible refine gate_callee (f := 8) rfl ?_); refine goesS (some 20) Try.func8 #[.agg #[.int .i64 a0_0, .slice A0_1 l0_1.length c0_1], .int .i64 1048576] ?_; (with_reducible refine (laws_szClue.calls k a0_0 _ _ l0_1 1048576 t304 _ ?side1 ?side2 A7.out).mono ?_); (case side1 => exact CB HR0_1); (case side2 => exact HC0_1.out); rintro e w134 ⟨rfl, hb⟩; refine ⟨_, rfl, ?_⟩; replace BK303 := KB BK303 hb; replace HB := BS (w := w) hb; (try clear hb)) | ((with_reducible refine gate_callee (f := 9) rfl ?_); refine goesS (some 25) Try.func9 #[.slice A1 l1.length c1, .int .i64 t304] ?_; (with_reducible refine (laws_szMeaningS.calls k _ _ l1 t304 t305 _ ?side1 ?side2 A12.out).mono ?_); (case side1 => exact CB HR1); (case side2 => exact HC1.out); rintro e w135 ⟨rfl, hb⟩; refine ⟨_, rfl, ?_⟩; replace BK303 := KB BK303 hb; replace HB := BS (w := w) hb; (try clear hb)) | ((with_reducible refine gate_callee (f := 10) rfl ?_); refine goesS (some 30) Try.func10 #[.slice A2 l2.length c2, .int .i64 t305] ?_; (with_reducible refine (laws_szStringS.calls k _ _ l2 t305 t306 _ ?side1 ?side2 A18.out).mono ?_); (case side1 => exact CB HR2); (case side2 => exact HC2.out); rintro e w' ⟨rfl, ⟨nd, rfl⟩⟩; refine ⟨_, rfl, ?_⟩; (try (rw [drewN_self w135]; generalize hq_ : World.drewN w135 _ = w135; have n0_ : Aside0 (w135.heap[gb303]? = some (.cells #[.int .i64 a0_0, .slice A0_1 l0_1.length c0_1] 24 (0, 0))) := ⟨by rw [← hq_]; exact BK⟩; have n1_ : Aside0 (Below w.heap.size w w135) := ⟨by rw [← hq_]; exact BL⟩; clear BK303 HB hq_; have BK303 := n0_; have HB := n1_; clear n0_ n1_)); have hfz133_0 := blk_frozen BK303.out 0; have hfz133_1 := blk_frozen BK303.out 1; obtain ⟨hcz136_0, hcz136_1, hfz136_0, hfz136_1⟩ := cz2 BK303.out) | ((with_reducible refine gate_callee (f := 12) rfl ?_); refine goesS (some 34) Try.func12 #[.agg #[.int .i64 a0_0, .slice A0_1 l0_1.length c0_1]] ?_; (with_reducible refine (laws_toClue.calls k a0_0 _ _ l0_1 t307 t308 _ ?side1 ?side2 A24.out).mono ?_); (case side1 => exact CB HR0_1); (case side2 => exact HC0_1.out); rintro e w137 ⟨v309, rfl, ho0, hb⟩; refine ⟨_, rfl, ?_⟩; have n0_ := Aside0.mk (Kd.R_lower ho0 (below_size BL)); replace BK303 := KB BK303 hb; replace HB := BS (w := w) hb; have HO310 := n0_; clear n0_; (try clear hb); (try clear ho0)) | ((with_reducible refine gate_callee (f := 13) rfl ?_); refine goesS (some 36) Try.func13 #[.slice A1 l1.length c1] ?_; (with_reducible refine (laws_toMeaningS.calls k _ _ l1 t311 _ ?side1 ?side2 A25.out).mono ?_); (case side1 => exact CB HR1); (case side2 => exact HC1.out); rintro e w138 ⟨v312, rfl, ho0, hb⟩; refine ⟨_, rfl, ?_⟩; have n1_ := Aside0.mk (Kd.R_lower ho0 (below_size BL)); replace HO310 := RB HO310 hb; replace BK303 := KB BK303 hb; replace HB := BS (w := w) hb; have HO313 := n1_; clear n1_; (try clear hb); (try clear ho0)) | ((with_reducible refine gate_callee (f := 14) rfl ?_); refine goesS (some 38) Try.func14 #[.slice A2 l2.length c2] ?_; (with_reducible refine (laws_toStringS.calls k _ _ l2 t314 _ ?side1 ?side2 A26.out).mono ?_); (case side1 => exact CB HR2); (case side2 => exact HC2.out); rintro e w139 ⟨v315, rfl, ho0, hb⟩; refine ⟨_, rfl, ?_⟩; have n2_ := Aside0.mk (Kd.R_lower ho0 (below_size BL)); replace HO310 := RB HO310 hb; replace HO313 := RB HO313 hb; replace BK303 := KB BK303 hb; replace HB := BS (w := w) hb; have HO316 := n2_; clear n2_; (try clear hb); (try clear ho0); obtain ⟨Ao140, co140, eo140⟩ := Kd.R_slice HO310.out; subst eo140; obtain ⟨Ao141, co141, eo141⟩ := Kd.R_slice HO313.out; subst eo141; obtain ⟨Ao142, co142, eo142⟩ := Kd.R_slice HO316.out; subst eo142) | ((with_reducible refine gate_callee (f := 19) rfl ?_); refine goesS (some 40) Try.func19 #[.agg #[.int .i64 t307, .slice Ao140 t308.length co140], .slice Ao141 t311.length co141, .slice Ao142 t314.length co142, .string a3] ?_; (with_reducible refine (spec_NeedsBoth.calls k t307 _ _ t308 _ _ t311 _ _ t314 a3 t317 _ ?side1 ?side2 ?side3 ?side4 ?side5 ?side6 A27.out).mono ?_); (case side1 => exact CR2 HO310); (case side2 => exact (Kd.R_reads' HO310.out).2.1); (case side3 => exact CR2 HO313); (case side4 => exact (Kd.R_reads' HO313.out).2.1); (case side5 => exact CR2 HO316); (case side6 => exact (Kd.R_reads' HO316.out).2.1); rintro e w143 ⟨rfl, hb⟩; refine ⟨_, rfl, ?_⟩; replace HO310 := RB HO310 hb; replace HO313 := RB HO313 hb; replace HO316 := RB HO316 hb; replace BK303 := KB BK303 hb; replace HB := BS (w := w) hb; (try clear hb); obtain ⟨hcz144_0, hcz144_1, hfz144_0, hfz144_1⟩ := cz2 BK303.out) | ((with_reducible refine gate_callee (f := 12) rfl ?_); refine goesS (some 42) Try.func12 #[.agg #[.int .i64 a0_0, .slice A0_1 l0_1.length c0_1]] ?_; (with_reducible refine (laws_toClue.calls k a0_0 _ _ l0_1 t318 t319 _ ?side1 ?side2 A28.out).mono ?_); (case side1 => exact CB HR0_1); (case side2 => exact HC0_1.out); rintro e w145 ⟨v320, rfl, ho0, hb⟩; refine ⟨_, rfl, ?_⟩; have n0_ := Aside0.mk (Kd.R_elder' (RR HO310) (Kd.R_base ho0) hb); have n3_ := Aside0.mk (Kd.R_lower (Kd.R_new' ho0 (Kd.R_lt (RR HO310))) (below_size BL)); replace HO313 := RB HO313 hb; replace HO316 := RB HO316 hb; replace BK303 := KB BK303 hb; replace HB := BS (w := w) hb; clear HO310; have HO310 := n0_; have HO321 := n3_; clear n0_ n3_; (try clear hb); (try clear ho0)) | ((with_reducible refine gate_dst (N := 11) rfl ?_); refine box_ev (N := 11) (cs := #[.int .i64 0, .slice none 0 0]) (t := 33) ?_; intro gb322 hg w146 hbox hb; have n0_ := RB HO310 hb; have n1_ := RB HO313 hb; have n2_ := RB HO316 hb; have n3_ := RB HO321 hb; have n4_ := KB BK303 hb; have n5_ := BS (w := w) hb; have n6_ := Aside0.mk (hbox); have n7_ := SZ (w := w) hg; have n8_ := SZ (w := w) hg; have n9_ := NL BK303 hg; have n10_ := NG BK303 hg; clear HO310 HO313 HO316 HO321 BK303 HB; have HO310 := n0_; have HO313 := n1_; have HO316 := n2_; have HO321 := n3_; have BK303 := n4_; have HB := n5_; have BK322 := n6_; have GW322 := n7_; have GE322 := n8_; have NB303_322 := n9_; have NB322_303 := n10_; clear n0_ n1_ n2_ n3_ n4_ n5_ n6_ n7_ n8_ n9_ n10_; clear hb hbox hg; have hnb147 := NB322_303.out; have hnc147 := NB303_322.out; obtain ⟨hcz148_0, hcz148_1, hfz148_0, hfz148_1⟩ := cz2 BK322.out; obtain ⟨Ao149, co149, eo149⟩ := Kd.R_slice HO321.out; subst eo149) | ((with_reducible refine gate_callee (f := 13) rfl ?_); refine goesS (some 44) Try.func13 #[.slice A1 l1.length c1] ?_; (with_reducible refine (laws_toMeaningS.calls k _ _ l1 t323 _ ?side1 ?side2 A29.out).mono ?_); (case side1 => exact Kd.C_below HR1.out BL); (case side2 => exact HC1.out); rintro e w150 ⟨v324, rfl, ho0, hb⟩; refine ⟨_, rfl, ?_⟩; have n0_ := Aside0.mk (Kd.R_below (by (with_reducible repeat (first | apply Kd.R_alloc | apply Kd.R_drewN | apply Kd.R_drew)); exact (Kd.R_mono (Kd.R_far (p := ⟨gb322, 1, none⟩) (Kd.R_far (p := ⟨gb322, 0, none⟩) (Kd.R_types HO310.out BK322.out (by decide)) (fun _ hk => hk.2) (.int .i64 t318)) (fun _ hk => hk.2) (.slice Ao149 t319.length co149)) (fun _ h_ => h_.1))) hb); have n1_ := Aside0.mk (Kd.R_elder' (by (with_reducible repeat (first | apply Kd.R_alloc | apply Kd.R_drewN | apply Kd.R_drew)); exact (Kd.R_mono (Kd.R_far (p := ⟨gb322, 1, none⟩) (Kd.R_far (p := ⟨gb322, 0, none⟩) (Kd.R_types HO313.out BK322.out (by decide)) (fun _ hk => hk.2) (.int .i64 t318)) (fun _ hk => hk.2) (.slice Ao149 t319.length co149)) (fun _ h_ => h_.1))) (Kd.R_base ho0) hb); have n2_ := Aside0.mk (Kd.R_below (by (with_reducible repeat (first | apply Kd.R_alloc | apply Kd.R_drewN | apply Kd.R_drew)); exact (Kd.R_mono (Kd.R_far (p := ⟨gb322, 1, none⟩) (Kd.R_far (p := ⟨gb322, 0, none⟩) (Kd.R_types HO316.out BK322.out (by decide)) (fun _ hk => hk.2) (.int .i64 t318)) (fun _ hk => hk.2) (.slice Ao149 t319.length co149)) (fun _ h_ => h_.1))) hb); have n3_ := Aside0.mk (Kd.R_below (by (with_reducible repeat (first | apply Kd.R_alloc | apply Kd.R_drewN | apply Kd.R_drew)); exact (Kd.R_mono (Kd.R_far (p := ⟨gb322, 1, none⟩) (Kd.R_far (p := ⟨gb322, 0, none⟩) (Kd.R_types HO321.out BK322.out (by decide)) (fun _ hk => hk.2) (.int .i64 t318)) (fun _ hk => hk.2) (.slice Ao149 t319.length co149)) (fun _ h_ => h_.1))) hb); have n4_ := Aside0.mk (Kd.R_lower (Kd.R_new' ho0 (Kd.R_lt (by (with_reducible repeat (first | apply Kd.R_alloc | apply Kd.R_drewN | apply Kd.R_drew)); exact (Kd.R_mono (Kd.R_far (p := ⟨gb322, 1, none⟩) (Kd.R_far (p := ⟨gb322, 0, none⟩) (Kd.R_types HO313.out BK322.out (by decide)) (fun _ hk => hk.2) (.int .i64 t318)) (fun _ hk => hk.2) (.slice Ao149 t319.length co149)) (fun _ h_ => h_.1))))) (below_size BL)); have n5_ := Aside0.mk (blk_below (g := gb303) (o := .cells #[.int .i64 a0_0, .slice A0_1 l0_1.length c0_1] 24 (0, 0)) (by (with_reducible repeat (first | refine blk_drewN ?_ _ | refine blk_drew ?_ | refine blk_alloc ?_ _)); refine blk_far ?_ NB303_322.out _; (with_reducible repeat (first | refine blk_drewN ?_ _ | refine blk_drew ?_ | refine blk_alloc ?_ _)); refine blk_far ?_ NB303_322.out _; (with_reducible repeat (first | refine blk_drewN ?_ _ | refine blk_drew ?_ | refine blk_alloc ?_ _)); exact BK303.out) hb); have n6_ := Aside0.mk (blk_below (g := gb322) (o := .cells #[.int .i64 t318, .slice Ao149 t319.length co149] 33 (0, 0)) (by (with_reducible repeat (first | refine blk_drewN ?_ _ | refine blk_drew ?_ | refine blk_alloc ?_ _)); refine blk_put (cs := #[.int .i64 t318, .slice none 0 0]) ?_ 1 _ rfl; (with_reducible repeat (first | refine blk_drewN ?_ _ | refine blk_drew ?_ | refine blk_alloc ?_ _)); refine blk_put (cs := #[.int .i64 0, .slice none 0 0]) ?_ 0 _ rfl; (with_reducible repeat (first | refine blk_drewN ?_ _ | refine blk_drew ?_ | refine blk_alloc ?_ _)); exact BK322.out) hb); replace HB := BS (w := w) hb; clear HO310 HO313 HO316 HO321 BK303 BK322; have HO310 := n0_; have HO313 := n1_; have HO316 := n2_; have HO321 := n3_; have HO325 := n4_; have BK303 := n5_; have BK322 := n6_; clear n0_ n1_ n2_ n3_ n4_ n5_ n6_; (try clear hb); (try clear hk); (try clear ho0)) | ((with_reducible refine gate_callee (f := 14) rfl ?_); refine goesS (some 46) Try.func14 #[.slice A2 l2.length c2] ?_; (with_reducible refine (laws_toStringS.calls k _ _ l2 t326 _ ?side1 ?side2 A30.out).mono ?_); (case side1 => exact CB HR2); (case side2 => exact HC2.out); rintro e w151 ⟨v327, rfl, ho0, hb⟩; refine ⟨_, rfl, ?_⟩; have n2_ := Aside0.mk (Kd.R_elder' (RR HO316) (Kd.R_base ho0) hb); have n5_ := Aside0.mk (Kd.R_lower (Kd.R_new' ho0 (Kd.R_lt (RR HO316))) (below_size BL)); replace HO310 := RB HO310 hb; replace HO313 := RB HO313 hb; replace HO321 := RB HO321 hb; replace HO325 := RB HO325 hb; replace BK303 := KB BK303 hb; replace BK322 := KB BK322 hb; replace HB := BS (w := w) hb; clear HO316; have HO316 := n2_; have HO328 := n5_; clear n2_ n5_; (try clear hb); (try clear ho0); obtain ⟨hcz152_0, hcz152_1, hfz152_0, hfz152_1⟩ := cz2 BK322.out; obtain ⟨Ao153, co153, eo153⟩ := Kd.R_slice HO325.out; subst eo153; obtain ⟨Ao154, co154, eo154⟩ := Kd.R_slice HO328.out; subst eo154) | ((with_reducible refine gate_callee (f := 20) rfl ?_); refine goesS (some 51) Try.func20 #[.agg #[.int .i64 t318, .slice Ao149 t319.length co149], .slice Ao153 t323.length co153, .slice Ao154 t326.length co154, .string a3] ?_; (with_reducible refine (impl_NeedsBoth.calls k t318 _ _ t319 _ _ t323 _ _ t326 a3 t329 _ ?side1 ?side2 ?side3 ?side4 ?side5 ?side6 A31.out).mono ?_); (case side1 => exact CR2 HO321); (case side2 => exact (Kd.R_reads' HO321.out).2.1); (case side3 => exact CR2 HO325); (case side4 => exact (Kd.R_reads' HO325.out).2.1); (case side5 => exact CR2 HO328); (case side6 => exact (Kd.R_reads' HO328.out).2.1); rintro e w155 ⟨rfl, hb⟩; refine ⟨_, rfl, ?_⟩; replace HO310 := RB HO310 hb; replace HO313 := RB HO313 hb; replace HO316 := RB HO316 hb; replace HO321 := RB HO321 hb; replace HO325 := RB HO325 hb; replace HO328 := RB HO328 hb; replace BK303 := KB BK303 hb; replace BK322 := KB BK322 hb; replace HB := BS (w := w) hb; (try clear hb)))
        have n0_ := Aside0.mk (Kd.R_drew HO310.out)
        have n1_ := Aside0.mk (Kd.R_drew HO313.out)
        have n2_ := Aside0.mk (Kd.R_drew HO316.out)
        have n3_ := Aside0.mk (Kd.R_drew HO321.out)
        have n4_ := Aside0.mk (Kd.R_drew HO325.out)
        have n5_ := Aside0.mk (Kd.R_drew HO328.out)
        have n6_ := Aside0.mk (blk_drew BK303.out)
        have n7_ := Aside0.mk (blk_drew BK322.out)
        have n8_ := Aside0.mk (below_drew1 HB.out)
        clear HO310
        clear HO313
        clear HO316
        clear HO321
        clear HO325
        clear HO328
        clear BK303
        clear BK322
        clear HB
        have HO310 := n0_
        have HO313 := n1_
        have HO316 := n2_
        have HO321 := n3_
        have HO325 := n4_
        have HO328 := n5_
        have BK303 := n6_
        have BK322 := n7_
        have HB := n8_
        clear n0_ n1_ n2_ n3_ n4_ n5_ n6_ n7_ n8_
        refine start_ (n := 5) (S := fun w' => w'.cell? ⟨gb322, 0, none⟩ = some (.int .i64 t318) ∧ w'.cell? ⟨gb322, 1, none⟩ = some (.slice Ao149 t319.length co149) ∧ w'.cell? ⟨gb303, 0, none⟩ = some (.int .i64 a0_0) ∧ w'.cell? ⟨gb303, 1, none⟩ = some (.slice A0_1 l0_1.length c0_1)) (ds := []) #[false, false, false, false, false] (by kernel_rfl) rfl rfl ⟨(blk_cell BK322.out 0).trans rfl, (blk_cell BK322.out 1).trans rfl, (blk_cell BK303.out 0).trans rfl, (blk_cell BK303.out 1).trans rfl⟩ (fun hHeld => ?_)
        generalize w155.drew = w156 at HO310 HO313 HO316 HO321 HO325 HO328 BK303 BK322 HB hHeld ⊢
        refine take_ (i := 0) (N := some 55) (v := ?_) (a' := ?_) #[true, false, false, false, false] rfl rfl (by kernel_rfl) (fun _ _ _ h => h) (Or.inl ⟨by rfl, ?_⟩) hHeld ?_ ?_
        rotate_left
        ·rintro w' ⟨s0, s1, s2, s3⟩
         go_simp
         with_reducible rfl
        rotate_left
        ·simp only [Act.put, PT, i64_w, i32_w]
         rfl
        refine take_ (i := 1) (N := some 56) (v := ?_) (a' := ?_) #[true, true, false, false, false] rfl rfl (by kernel_rfl) (fun _ _ _ h => h) (Or.inl ⟨by rfl, ?_⟩) hHeld ?_ ?_
        rotate_left
        ·rintro w' ⟨s0, s1, s2, s3⟩
         go_simp
         with_reducible rfl
        rotate_left
        ·simp only [Act.put, PT, i64_w, i32_w]
         rfl
        refine one_ (i := 2) (N := some 57) #[true, true, true, false, false] rfl rfl (by kernel_rfl) (by decide) (fun K hK => ?_)
        refine goes_ Try.func12 (by kernel_rfl) rfl #[.agg #[.int .i64 a0_0, .slice A0_1 l0_1.length c0_1]] (by rfl) rfl rfl (by (try simp only [List.map_toArray, List.map_cons, List.map_nil]); first | done | rfl | (simp only [List.length_drop, List.length_take]; rfl)) ?_
        with_reducible refine (laws_toClue.calls k a0_0 _ _ l0_1 t330 t331 _ ?side1 ?side2 A57.out).mono ?_
        (case side1 => exact CB HR0_1)
        (case side2 => exact HC0_1.out)
        rintro e w157 ⟨v332, rfl, ho0, hb⟩
        refine ⟨_, rfl, ?_⟩
        have n0_ := Aside0.mk (Kd.R_elder' (RR HO310) (Kd.R_base ho0) hb)
        have n1_ := RB HO313 hb
        have n2_ := RB HO316 hb
        have n3_ := Aside0.mk (Kd.R_elder' (RR HO321) (Kd.R_base ho0) hb)
        have n4_ := RB HO325 hb
        have n5_ := RB HO328 hb
        have n6_ := Aside0.mk (Kd.R_lower (Kd.R_new' (Kd.R_new' ho0 (Kd.R_lt (RR HO310))) (Kd.R_lt (RR HO321))) (below_size BL))
        have n7_ := KB BK303 hb
        have n8_ := KB BK322 hb
        have n9_ := BS (w := w) hb
        clear HO310
        clear HO313
        clear HO316
        clear HO321
        clear HO325
        clear HO328
        clear BK303
        clear BK322
        clear HB
        have HO310 := n0_
        have HO313 := n1_
        have HO316 := n2_
        have HO321 := n3_
        have HO325 := n4_
        have HO328 := n5_
        have HO333 := n6_
        have BK303 := n7_
        have BK322 := n8_
        have HB := n9_
        clear n0_ n1_ n2_ n3_ n4_ n5_ n6_ n7_ n8_ n9_
        (try clear hb)
        (try clear hb2)
        (try clear hk)
        (try clear hi)
        (try clear ho0)
        obtain ⟨Ao158, co158, eo158⟩ := Kd.R_slice HO333.out
        (first | subst eo158 | (injection eo158 with f1_ f2_ f3_; have f4_ := f1_.symm; have f5_ := f3_.symm; clear f1_ f2_ f3_; subst f4_; subst f5_))
        refine hK.out _ _ ⟨(blk_cell BK322.out 0).trans rfl, (blk_cell BK322.out 1).trans rfl, (blk_cell BK303.out 0).trans rfl, (blk_cell BK303.out 1).trans rfl⟩ (fun hHeld => ?_)
        clear hK K
        refine norm_ (a' := ?_) ?_ ?_
        rotate_left
        ·show Act.put _ (some 57) _ = _
         simp only [Act.put, PT, i64_w, i32_w]
         rfl
        refine one_ (i := 3) (N := some 58) #[true, true, true, true, false] rfl rfl (by kernel_rfl) (by decide) (fun K hK => ?_)
        refine goes_ Try.func16 (by kernel_rfl) rfl #[.agg #[.int .i64 t318, .slice Ao149 t319.length co149], .agg #[.int .i64 t330, .slice Ao158 t331.length co158]] (by rfl) rfl rfl (by (try simp only [List.map_toArray, List.map_cons, List.map_nil]); first | done | rfl | (simp only [List.length_drop, List.length_take]; rfl)) ?_
        with_reducible refine (laws_eqClue.calls k t318 _ _ t319 t330 _ _ t331 true _ ?side1 ?side2 ?side3 ?side4 A58.out).mono ?_
        (case side1 => exact CR2 HO321)
        (case side2 => exact (Kd.R_reads' HO321.out).2.1)
        (case side3 => exact CR2 HO333)
        (case side4 => exact (Kd.R_reads' HO333.out).2.1)
        rintro e w159 ⟨rfl, hb⟩
        refine ⟨_, rfl, ?_⟩
        have n0_ := RB HO310 hb
        have n1_ := RB HO313 hb
        have n2_ := RB HO316 hb
        have n3_ := RB HO321 hb
        have n4_ := RB HO325 hb
        have n5_ := RB HO328 hb
        have n6_ := RB HO333 hb
        have n7_ := KB BK303 hb
        have n8_ := KB BK322 hb
        have n9_ := BS (w := w) hb
        clear HO310
        clear HO313
        clear HO316
        clear HO321
        clear HO325
        clear HO328
        clear HO333
        clear BK303
        clear BK322
        clear HB
        have HO310 := n0_
        have HO313 := n1_
        have HO316 := n2_
        have HO321 := n3_
        have HO325 := n4_
        have HO328 := n5_
        have HO333 := n6_
        have BK303 := n7_
        have BK322 := n8_
        have HB := n9_
        clear n0_ n1_ n2_ n3_ n4_ n5_ n6_ n7_ n8_ n9_
        (try clear hb)
        (try clear hb2)
        (try clear hk)
        (try clear hi)
        refine hK.out _ _ ⟨(blk_cell BK322.out 0).trans rfl, (blk_cell BK322.out 1).trans rfl, (blk_cell BK303.out 0).trans rfl, (blk_cell BK303.out 1).trans rfl⟩ (fun hHeld => ?_)
        clear hK K
        refine norm_ (a' := ?_) ?_ ?_
        rotate_left
        ·show Act.put _ (some 58) _ = _
         simp only [Act.put, PT, i64_w, i32_w]
         rfl
        refine puS (i := 4) (N := some 59) #[true, true, true, true, true] (by kernel_rfl) ?_
        refine done_ (by kernel_rfl) ?_
        try go_wp2_with (first | ((with_reducible refine gate_callee (f := 13) rfl ?_); refine goesS (some 62) Try.func13 #[.slice A1 l1.length c1] ?_; (with_reducible refine (laws_toMeaningS.calls k _ _ l1 t335 _ ?side1 ?side2 A60.out).mono ?_); (case side1 => exact CB HR1); (case side2 => exact HC1.out); rintro e w160 ⟨v336, rfl, ho0, hb⟩; refine ⟨_, rfl, ?_⟩; have n1_ := Aside0.mk (Kd.R_elder' (RR HO313) (Kd.R_base ho0) hb); have n4_ := Aside0.mk (Kd.R_elder' (RR HO325) (Kd.R_base ho0) hb); have n7_ := Aside0.mk (Kd.R_lower (Kd.R_new' (Kd.R_new' ho0 (Kd.R_lt (RR HO313))) (Kd.R_lt (RR HO325))) (below_size BL)); replace HO310 := RB HO310 hb; replace HO316 := RB HO316 hb; replace HO321 := RB HO321 hb; replace HO328 := RB HO328 hb; replace HO333 := RB HO333 hb; replace BK303 := KB BK303 hb; replace BK322 := KB BK322 hb; replace HB := BS (w := w) hb; clear HO313 HO325; have HO313 := n1_; have HO325 := n4_; have HO337 := n7_; clear n1_ n4_ n7_; (try clear hb); (try clear ho0); obtain ⟨Ao161, co161, eo161⟩ := Kd.R_slice HO337.out; subst eo161) | ((with_reducible refine gate_callee (f := 17) rfl ?_); refine goesS (some 63) Try.func17 #[.slice Ao153 t323.length co153, .slice Ao161 t335.length co161] ?_; (with_reducible refine (laws_eqMeaningS.calls k _ _ t323 _ _ t335 false _ ?side1 ?side2 ?side3 ?side4 A61.out).mono ?_); (case side1 => exact CR2 HO325); (case side2 => exact (Kd.R_reads' HO325.out).2.1); (case side3 => exact CR2 HO337); (case side4 => exact (Kd.R_reads' HO337.out).2.1); rintro e w162 ⟨rfl, hb⟩; refine ⟨_, rfl, ?_⟩; replace HO310 := RB HO310 hb; replace HO313 := RB HO313 hb; replace HO316 := RB HO316 hb; replace HO321 := RB HO321 hb; replace HO325 := RB HO325 hb; replace HO328 := RB HO328 hb; replace HO333 := RB HO333 hb; replace HO337 := RB HO337 hb; replace BK303 := KB BK303 hb; replace BK322 := KB BK322 hb; replace HB := BS (w := w) hb; (try clear hb)))
        go_ret
        exact ⟨EWW, BL⟩
      ·replace c59 := Bool.eq_false_iff.mpr c59
       subst c59
       have H1 : (some false) = some r := by rw [if_neg (show ¬ (false = true) by decide)] at H; exact H
       clear H
       have H := H1
       clear H1
       obtain rfl := Option.some.inj H
       go_enter Try.func4, Try.ntmps4
       try go_wp2_with (first | ((with_reducible refine gate_dst (N := 4) rfl ?_); refine box_ev (N := 4) (cs := #[.int .i64 a0_0, .slice A0_1 l0_1.length c0_1]) (t := 24) ?_; intro gb303 hg w163 hbox hb; have n0_ := BS (w := w) hb; have n1_ := Aside0.mk (hbox); have n2_ := SZ (w := w) hg; have n3_ := SZ (w := w) hg; clear HB; have HB := n0_; have BK303 := n1_; have GW303 := n2_; have GE303 := n3_; clear n0_ n1_ n2_ n3_; clear hb hbox hg; obtain ⟨hcz164_0, hcz164_1, hfz164_0, hfz164_1⟩ := cz2 BK303.out) | ((with_reducible refine gate_callee (f := 8) rfl ?_); refine goesS (some 20) Try.func8 #[.agg #[.int .i64 a0_0, .slice A0_1 l0_1.length c0_1], .int .i64 1048576] ?_; (with_reducible refine (laws_szClue.calls k a0_0 _ _ l0_1 1048576 t304 _ ?side1 ?side2 A7.out).mono ?_); (case side1 => exact CB HR0_1); (case side2 => exact HC0_1.out); rintro e w165 ⟨rfl, hb⟩; refine ⟨_, rfl, ?_⟩; replace BK303 := KB BK303 hb; replace HB := BS (w := w) hb; (try clear hb)) | ((with_reducible refine gate_callee (f := 9) rfl ?_); refine goesS (some 25) Try.func9 #[.slice A1 l1.length c1, .int .i64 t304] ?_; (with_reducible refine (laws_szMeaningS.calls k _ _ l1 t304 t305 _ ?side1 ?side2 A12.out).mono ?_); (case side1 => exact CB HR1); (case side2 => exact HC1.out); rintro e w166 ⟨rfl, hb⟩; refine ⟨_, rfl, ?_⟩; replace BK303 := KB BK303 hb; replace HB := BS (w := w) hb; (try clear hb)) | ((with_reducible refine gate_callee (f := 10) rfl ?_); refine goesS (some 30) Try.func10 #[.slice A2 l2.length c2, .int .i64 t305] ?_; (with_reducible refine (laws_szStringS.calls k _ _ l2 t305 t306 _ ?side1 ?side2 A18.out).mono ?_); (case side1 => exact CB HR2); (case side2 => exact HC2.out); rintro e w' ⟨rfl, ⟨nd, rfl⟩⟩; refine ⟨_, rfl, ?_⟩; (try (rw [drewN_self w166]; generalize hq_ : World.drewN w166 _ = w166; have n0_ : Aside0 (w166.heap[gb303]? = some (.cells #[.int .i64 a0_0, .slice A0_1 l0_1.length c0_1] 24 (0, 0))) := ⟨by rw [← hq_]; exact BK⟩; have n1_ : Aside0 (Below w.heap.size w w166) := ⟨by rw [← hq_]; exact BL⟩; clear BK303 HB hq_; have BK303 := n0_; have HB := n1_; clear n0_ n1_)); have hfz164_0 := blk_frozen BK303.out 0; have hfz164_1 := blk_frozen BK303.out 1; obtain ⟨hcz167_0, hcz167_1, hfz167_0, hfz167_1⟩ := cz2 BK303.out) | ((with_reducible refine gate_callee (f := 12) rfl ?_); refine goesS (some 34) Try.func12 #[.agg #[.int .i64 a0_0, .slice A0_1 l0_1.length c0_1]] ?_; (with_reducible refine (laws_toClue.calls k a0_0 _ _ l0_1 t307 t308 _ ?side1 ?side2 A24.out).mono ?_); (case side1 => exact CB HR0_1); (case side2 => exact HC0_1.out); rintro e w168 ⟨v309, rfl, ho0, hb⟩; refine ⟨_, rfl, ?_⟩; have n0_ := Aside0.mk (Kd.R_lower ho0 (below_size BL)); replace BK303 := KB BK303 hb; replace HB := BS (w := w) hb; have HO310 := n0_; clear n0_; (try clear hb); (try clear ho0)) | ((with_reducible refine gate_callee (f := 13) rfl ?_); refine goesS (some 36) Try.func13 #[.slice A1 l1.length c1] ?_; (with_reducible refine (laws_toMeaningS.calls k _ _ l1 t311 _ ?side1 ?side2 A25.out).mono ?_); (case side1 => exact CB HR1); (case side2 => exact HC1.out); rintro e w169 ⟨v312, rfl, ho0, hb⟩; refine ⟨_, rfl, ?_⟩; have n1_ := Aside0.mk (Kd.R_lower ho0 (below_size BL)); replace HO310 := RB HO310 hb; replace BK303 := KB BK303 hb; replace HB := BS (w := w) hb; have HO313 := n1_; clear n1_; (try clear hb); (try clear ho0)) | ((with_reducible refine gate_callee (f := 14) rfl ?_); refine goesS (some 38) Try.func14 #[.slice A2 l2.length c2] ?_; (with_reducible refine (laws_toStringS.calls k _ _ l2 t314 _ ?side1 ?side2 A26.out).mono ?_); (case side1 => exact CB HR2); (case side2 => exact HC2.out); rintro e w170 ⟨v315, rfl, ho0, hb⟩; refine ⟨_, rfl, ?_⟩; have n2_ := Aside0.mk (Kd.R_lower ho0 (below_size BL)); replace HO310 := RB HO310 hb; replace HO313 := RB HO313 hb; replace BK303 := KB BK303 hb; replace HB := BS (w := w) hb; have HO316 := n2_; clear n2_; (try clear hb); (try clear ho0); obtain ⟨Ao171, co171, eo171⟩ := Kd.R_slice HO310.out; subst eo171; obtain ⟨Ao172, co172, eo172⟩ := Kd.R_slice HO313.out; subst eo172; obtain ⟨Ao173, co173, eo173⟩ := Kd.R_slice HO316.out; subst eo173) | ((with_reducible refine gate_callee (f := 19) rfl ?_); refine goesS (some 40) Try.func19 #[.agg #[.int .i64 t307, .slice Ao171 t308.length co171], .slice Ao172 t311.length co172, .slice Ao173 t314.length co173, .string a3] ?_; (with_reducible refine (spec_NeedsBoth.calls k t307 _ _ t308 _ _ t311 _ _ t314 a3 t317 _ ?side1 ?side2 ?side3 ?side4 ?side5 ?side6 A27.out).mono ?_); (case side1 => exact CR2 HO310); (case side2 => exact (Kd.R_reads' HO310.out).2.1); (case side3 => exact CR2 HO313); (case side4 => exact (Kd.R_reads' HO313.out).2.1); (case side5 => exact CR2 HO316); (case side6 => exact (Kd.R_reads' HO316.out).2.1); rintro e w174 ⟨rfl, hb⟩; refine ⟨_, rfl, ?_⟩; replace HO310 := RB HO310 hb; replace HO313 := RB HO313 hb; replace HO316 := RB HO316 hb; replace BK303 := KB BK303 hb; replace HB := BS (w := w) hb; (try clear hb); obtain ⟨hcz175_0, hcz175_1, hfz175_0, hfz175_1⟩ := cz2 BK303.out) | ((with_reducible refine gate_callee (f := 12) rfl ?_); refine goesS (some 42) Try.func12 #[.agg #[.int .i64 a0_0, .slice A0_1 l0_1.length c0_1]] ?_; (with_reducible refine (laws_toClue.calls k a0_0 _ _ l0_1 t318 t319 _ ?side1 ?side2 A28.out).mono ?_); (case side1 => exact CB HR0_1); (case side2 => exact HC0_1.out); rintro e w176 ⟨v320, rfl, ho0, hb⟩; refine ⟨_, rfl, ?_⟩; have n0_ := Aside0.mk (Kd.R_elder' (RR HO310) (Kd.R_base ho0) hb); have n3_ := Aside0.mk (Kd.R_lower (Kd.R_new' ho0 (Kd.R_lt (RR HO310))) (below_size BL)); replace HO313 := RB HO313 hb; replace HO316 := RB HO316 hb; replace BK303 := KB BK303 hb; replace HB := BS (w := w) hb; clear HO310; have HO310 := n0_; have HO321 := n3_; clear n0_ n3_; (try clear hb); (try clear ho0)) | ((with_reducible refine gate_dst (N := 11) rfl ?_); refine box_ev (N := 11) (cs := #[.int .i64 0, .slice none 0 0]) (t := 33) ?_; intro gb322 hg w177 hbox hb; have n0_ := RB HO310 hb; have n1_ := RB HO313 hb; have n2_ := RB HO316 hb; have n3_ := RB HO321 hb; have n4_ := KB BK303 hb; have n5_ := BS (w := w) hb; have n6_ := Aside0.mk (hbox); have n7_ := SZ (w := w) hg; have n8_ := SZ (w := w) hg; have n9_ := NL BK303 hg; have n10_ := NG BK303 hg; clear HO310 HO313 HO316 HO321 BK303 HB; have HO310 := n0_; have HO313 := n1_; have HO316 := n2_; have HO321 := n3_; have BK303 := n4_; have HB := n5_; have BK322 := n6_; have GW322 := n7_; have GE322 := n8_; have NB303_322 := n9_; have NB322_303 := n10_; clear n0_ n1_ n2_ n3_ n4_ n5_ n6_ n7_ n8_ n9_ n10_; clear hb hbox hg; have hnb178 := NB322_303.out; have hnc178 := NB303_322.out; obtain ⟨hcz179_0, hcz179_1, hfz179_0, hfz179_1⟩ := cz2 BK322.out; obtain ⟨Ao180, co180, eo180⟩ := Kd.R_slice HO321.out; subst eo180) | ((with_reducible refine gate_callee (f := 13) rfl ?_); refine goesS (some 44) Try.func13 #[.slice A1 l1.length c1] ?_; (with_reducible refine (laws_toMeaningS.calls k _ _ l1 t323 _ ?side1 ?side2 A29.out).mono ?_); (case side1 => exact Kd.C_below HR1.out BL); (case side2 => exact HC1.out); rintro e w181 ⟨v324, rfl, ho0, hb⟩; refine ⟨_, rfl, ?_⟩; have n0_ := Aside0.mk (Kd.R_below (by (with_reducible repeat (first | apply Kd.R_alloc | apply Kd.R_drewN | apply Kd.R_drew)); exact (Kd.R_mono (Kd.R_far (p := ⟨gb322, 1, none⟩) (Kd.R_far (p := ⟨gb322, 0, none⟩) (Kd.R_types HO310.out BK322.out (by decide)) (fun _ hk => hk.2) (.int .i64 t318)) (fun _ hk => hk.2) (.slice Ao180 t319.length co180)) (fun _ h_ => h_.1))) hb); have n1_ := Aside0.mk (Kd.R_elder' (by (with_reducible repeat (first | apply Kd.R_alloc | apply Kd.R_drewN | apply Kd.R_drew)); exact (Kd.R_mono (Kd.R_far (p := ⟨gb322, 1, none⟩) (Kd.R_far (p := ⟨gb322, 0, none⟩) (Kd.R_types HO313.out BK322.out (by decide)) (fun _ hk => hk.2) (.int .i64 t318)) (fun _ hk => hk.2) (.slice Ao180 t319.length co180)) (fun _ h_ => h_.1))) (Kd.R_base ho0) hb); have n2_ := Aside0.mk (Kd.R_below (by (with_reducible repeat (first | apply Kd.R_alloc | apply Kd.R_drewN | apply Kd.R_drew)); exact (Kd.R_mono (Kd.R_far (p := ⟨gb322, 1, none⟩) (Kd.R_far (p := ⟨gb322, 0, none⟩) (Kd.R_types HO316.out BK322.out (by decide)) (fun _ hk => hk.2) (.int .i64 t318)) (fun _ hk => hk.2) (.slice Ao180 t319.length co180)) (fun _ h_ => h_.1))) hb); have n3_ := Aside0.mk (Kd.R_below (by (with_reducible repeat (first | apply Kd.R_alloc | apply Kd.R_drewN | apply Kd.R_drew)); exact (Kd.R_mono (Kd.R_far (p := ⟨gb322, 1, none⟩) (Kd.R_far (p := ⟨gb322, 0, none⟩) (Kd.R_types HO321.out BK322.out (by decide)) (fun _ hk => hk.2) (.int .i64 t318)) (fun _ hk => hk.2) (.slice Ao180 t319.length co180)) (fun _ h_ => h_.1))) hb); have n4_ := Aside0.mk (Kd.R_lower (Kd.R_new' ho0 (Kd.R_lt (by (with_reducible repeat (first | apply Kd.R_alloc | apply Kd.R_drewN | apply Kd.R_drew)); exact (Kd.R_mono (Kd.R_far (p := ⟨gb322, 1, none⟩) (Kd.R_far (p := ⟨gb322, 0, none⟩) (Kd.R_types HO313.out BK322.out (by decide)) (fun _ hk => hk.2) (.int .i64 t318)) (fun _ hk => hk.2) (.slice Ao180 t319.length co180)) (fun _ h_ => h_.1))))) (below_size BL)); have n5_ := Aside0.mk (blk_below (g := gb303) (o := .cells #[.int .i64 a0_0, .slice A0_1 l0_1.length c0_1] 24 (0, 0)) (by (with_reducible repeat (first | refine blk_drewN ?_ _ | refine blk_drew ?_ | refine blk_alloc ?_ _)); refine blk_far ?_ NB303_322.out _; (with_reducible repeat (first | refine blk_drewN ?_ _ | refine blk_drew ?_ | refine blk_alloc ?_ _)); refine blk_far ?_ NB303_322.out _; (with_reducible repeat (first | refine blk_drewN ?_ _ | refine blk_drew ?_ | refine blk_alloc ?_ _)); exact BK303.out) hb); have n6_ := Aside0.mk (blk_below (g := gb322) (o := .cells #[.int .i64 t318, .slice Ao180 t319.length co180] 33 (0, 0)) (by (with_reducible repeat (first | refine blk_drewN ?_ _ | refine blk_drew ?_ | refine blk_alloc ?_ _)); refine blk_put (cs := #[.int .i64 t318, .slice none 0 0]) ?_ 1 _ rfl; (with_reducible repeat (first | refine blk_drewN ?_ _ | refine blk_drew ?_ | refine blk_alloc ?_ _)); refine blk_put (cs := #[.int .i64 0, .slice none 0 0]) ?_ 0 _ rfl; (with_reducible repeat (first | refine blk_drewN ?_ _ | refine blk_drew ?_ | refine blk_alloc ?_ _)); exact BK322.out) hb); replace HB := BS (w := w) hb; clear HO310 HO313 HO316 HO321 BK303 BK322; have HO310 := n0_; have HO313 := n1_; have HO316 := n2_; have HO321 := n3_; have HO325 := n4_; have BK303 := n5_; have BK322 := n6_; clear n0_ n1_ n2_ n3_ n4_ n5_ n6_; (try clear hb); (try clear hk); (try clear ho0)) | ((with_reducible refine gate_callee (f := 14) rfl ?_); refine goesS (some 46) Try.func14 #[.slice A2 l2.length c2] ?_; (with_reducible refine (laws_toStringS.calls k _ _ l2 t326 _ ?side1 ?side2 A30.out).mono ?_); (case side1 => exact CB HR2); (case side2 => exact HC2.out); rintro e w182 ⟨v327, rfl, ho0, hb⟩; refine ⟨_, rfl, ?_⟩; have n2_ := Aside0.mk (Kd.R_elder' (RR HO316) (Kd.R_base ho0) hb); have n5_ := Aside0.mk (Kd.R_lower (Kd.R_new' ho0 (Kd.R_lt (RR HO316))) (below_size BL)); replace HO310 := RB HO310 hb; replace HO313 := RB HO313 hb; replace HO321 := RB HO321 hb; replace HO325 := RB HO325 hb; replace BK303 := KB BK303 hb; replace BK322 := KB BK322 hb; replace HB := BS (w := w) hb; clear HO316; have HO316 := n2_; have HO328 := n5_; clear n2_ n5_; (try clear hb); (try clear ho0); obtain ⟨hcz183_0, hcz183_1, hfz183_0, hfz183_1⟩ := cz2 BK322.out; obtain ⟨Ao184, co184, eo184⟩ := Kd.R_slice HO325.out; subst eo184; obtain ⟨Ao185, co185, eo185⟩ := Kd.R_slice HO328.out; subst eo185) | ((with_reducible refine gate_callee (f := 20) rfl ?_); refine goesS (some 51) Try.func20 #[.agg #[.int .i64 t318, .slice Ao180 t319.length co180], .slice Ao184 t323.length co184, .slice Ao185 t326.length co185, .string a3] ?_; (with_reducible refine (impl_NeedsBoth.calls k t318 _ _ t319 _ _ t323 _ _ t326 a3 t329 _ ?side1 ?side2 ?side3 ?side4 ?side5 ?side6 A31.out).mono ?_); (case side1 => exact CR2 HO321); (case side2 => exact (Kd.R_reads' HO321.out).2.1); (case side3 => exact CR2 HO325); (case side4 => exact (Kd.R_reads' HO325.out).2.1); (case side5 => exact CR2 HO328); (case side6 => exact (Kd.R_reads' HO328.out).2.1); rintro e w186 ⟨rfl, hb⟩; refine ⟨_, rfl, ?_⟩; replace HO310 := RB HO310 hb; replace HO313 := RB HO313 hb; replace HO316 := RB HO316 hb; replace HO321 := RB HO321 hb; replace HO325 := RB HO325 hb; replace HO328 := RB HO328 hb; replace BK303 := KB BK303 hb; replace BK322 := KB BK322 hb; replace HB := BS (w := w) hb; (try clear hb)))
       have n0_ := Aside0.mk (Kd.R_drew HO310.out)
       have n1_ := Aside0.mk (Kd.R_drew HO313.out)
       have n2_ := Aside0.mk (Kd.R_drew HO316.out)
       have n3_ := Aside0.mk (Kd.R_drew HO321.out)
       have n4_ := Aside0.mk (Kd.R_drew HO325.out)
       have n5_ := Aside0.mk (Kd.R_drew HO328.out)
       have n6_ := Aside0.mk (blk_drew BK303.out)
       have n7_ := Aside0.mk (blk_drew BK322.out)
       have n8_ := Aside0.mk (below_drew1 HB.out)
       clear HO310
       clear HO313
       clear HO316
       clear HO321
       clear HO325
       clear HO328
       clear BK303
       clear BK322
       clear HB
       have HO310 := n0_
       have HO313 := n1_
       have HO316 := n2_
       have HO321 := n3_
       have HO325 := n4_
       have HO328 := n5_
       have BK303 := n6_
       have BK322 := n7_
       have HB := n8_
       clear n0_ n1_ n2_ n3_ n4_ n5_ n6_ n7_ n8_
       refine start_ (n := 5) (S := fun w' => w'.cell? ⟨gb322, 0, none⟩ = some (.int .i64 t318) ∧ w'.cell? ⟨gb322, 1, none⟩ = some (.slice Ao180 t319.length co180) ∧ w'.cell? ⟨gb303, 0, none⟩ = some (.int .i64 a0_0) ∧ w'.cell? ⟨gb303, 1, none⟩ = some (.slice A0_1 l0_1.length c0_1)) (ds := []) #[false, false, false, false, false] (by kernel_rfl) rfl rfl ⟨(blk_cell BK322.out 0).trans rfl, (blk_cell BK322.out 1).trans rfl, (blk_cell BK303.out 0).trans rfl, (blk_cell BK303.out 1).trans rfl⟩ (fun hHeld => ?_)
       generalize w186.drew = w187 at HO310 HO313 HO316 HO321 HO325 HO328 BK303 BK322 HB hHeld ⊢
       refine take_ (i := 0) (N := some 55) (v := ?_) (a' := ?_) #[true, false, false, false, false] rfl rfl (by kernel_rfl) (fun _ _ _ h => h) (Or.inl ⟨by rfl, ?_⟩) hHeld ?_ ?_
       rotate_left
       ·rintro w' ⟨s0, s1, s2, s3⟩
        go_simp
        with_reducible rfl
       rotate_left
       ·simp only [Act.put, PT, i64_w, i32_w]
        rfl
       refine take_ (i := 1) (N := some 56) (v := ?_) (a' := ?_) #[true, true, false, false, false] rfl rfl (by kernel_rfl) (fun _ _ _ h => h) (Or.inl ⟨by rfl, ?_⟩) hHeld ?_ ?_
       rotate_left
       ·rintro w' ⟨s0, s1, s2, s3⟩
        go_simp
        with_reducible rfl
       rotate_left
       ·simp only [Act.put, PT, i64_w, i32_w]
        rfl
       refine one_ (i := 2) (N := some 57) #[true, true, true, false, false] rfl rfl (by kernel_rfl) (by decide) (fun K hK => ?_)
       refine goes_ Try.func12 (by kernel_rfl) rfl #[.agg #[.int .i64 a0_0, .slice A0_1 l0_1.length c0_1]] (by rfl) rfl rfl (by (try simp only [List.map_toArray, List.map_cons, List.map_nil]); first | done | rfl | (simp only [List.length_drop, List.length_take]; rfl)) ?_
       with_reducible refine (laws_toClue.calls k a0_0 _ _ l0_1 t330 t331 _ ?side1 ?side2 A57.out).mono ?_
       (case side1 => exact CB HR0_1)
       (case side2 => exact HC0_1.out)
       rintro e w188 ⟨v332, rfl, ho0, hb⟩
       refine ⟨_, rfl, ?_⟩
       have n0_ := Aside0.mk (Kd.R_elder' (RR HO310) (Kd.R_base ho0) hb)
       have n1_ := RB HO313 hb
       have n2_ := RB HO316 hb
       have n3_ := Aside0.mk (Kd.R_elder' (RR HO321) (Kd.R_base ho0) hb)
       have n4_ := RB HO325 hb
       have n5_ := RB HO328 hb
       have n6_ := Aside0.mk (Kd.R_lower (Kd.R_new' (Kd.R_new' ho0 (Kd.R_lt (RR HO310))) (Kd.R_lt (RR HO321))) (below_size BL))
       have n7_ := KB BK303 hb
       have n8_ := KB BK322 hb
       have n9_ := BS (w := w) hb
       clear HO310
       clear HO313
       clear HO316
       clear HO321
       clear HO325
       clear HO328
       clear BK303
       clear BK322
       clear HB
       have HO310 := n0_
       have HO313 := n1_
       have HO316 := n2_
       have HO321 := n3_
       have HO325 := n4_
       have HO328 := n5_
       have HO333 := n6_
       have BK303 := n7_
       have BK322 := n8_
       have HB := n9_
       clear n0_ n1_ n2_ n3_ n4_ n5_ n6_ n7_ n8_ n9_
       (try clear hb)
       (try clear hb2)
       (try clear hk)
       (try clear hi)
       (try clear ho0)
       obtain ⟨Ao189, co189, eo189⟩ := Kd.R_slice HO333.out
       (first | subst eo189 | (injection eo189 with f1_ f2_ f3_; have f4_ := f1_.symm; have f5_ := f3_.symm; clear f1_ f2_ f3_; subst f4_; subst f5_))
       refine hK.out _ _ ⟨(blk_cell BK322.out 0).trans rfl, (blk_cell BK322.out 1).trans rfl, (blk_cell BK303.out 0).trans rfl, (blk_cell BK303.out 1).trans rfl⟩ (fun hHeld => ?_)
       clear hK K
       refine norm_ (a' := ?_) ?_ ?_
       rotate_left
       ·show Act.put _ (some 57) _ = _
        simp only [Act.put, PT, i64_w, i32_w]
        rfl
       refine one_ (i := 3) (N := some 58) #[true, true, true, true, false] rfl rfl (by kernel_rfl) (by decide) (fun K hK => ?_)
       refine goes_ Try.func16 (by kernel_rfl) rfl #[.agg #[.int .i64 t318, .slice Ao180 t319.length co180], .agg #[.int .i64 t330, .slice Ao189 t331.length co189]] (by rfl) rfl rfl (by (try simp only [List.map_toArray, List.map_cons, List.map_nil]); first | done | rfl | (simp only [List.length_drop, List.length_take]; rfl)) ?_
       with_reducible refine (laws_eqClue.calls k t318 _ _ t319 t330 _ _ t331 false _ ?side1 ?side2 ?side3 ?side4 A58.out).mono ?_
       (case side1 => exact CR2 HO321)
       (case side2 => exact (Kd.R_reads' HO321.out).2.1)
       (case side3 => exact CR2 HO333)
       (case side4 => exact (Kd.R_reads' HO333.out).2.1)
       rintro e w190 ⟨rfl, hb⟩
       refine ⟨_, rfl, ?_⟩
       have n0_ := RB HO310 hb
       have n1_ := RB HO313 hb
       have n2_ := RB HO316 hb
       have n3_ := RB HO321 hb
       have n4_ := RB HO325 hb
       have n5_ := RB HO328 hb
       have n6_ := RB HO333 hb
       have n7_ := KB BK303 hb
       have n8_ := KB BK322 hb
       have n9_ := BS (w := w) hb
       clear HO310
       clear HO313
       clear HO316
       clear HO321
       clear HO325
       clear HO328
       clear HO333
       clear BK303
       clear BK322
       clear HB
       have HO310 := n0_
       have HO313 := n1_
       have HO316 := n2_
       have HO321 := n3_
       have HO325 := n4_
       have HO328 := n5_
       have HO333 := n6_
       have BK303 := n7_
       have BK322 := n8_
       have HB := n9_
       clear n0_ n1_ n2_ n3_ n4_ n5_ n6_ n7_ n8_ n9_
       (try clear hb)
       (try clear hb2)
       (try clear hk)
       (try clear hi)
       refine hK.out _ _ ⟨(blk_cell BK322.out 0).trans rfl, (blk_cell BK322.out 1).trans rfl, (blk_cell BK303.out 0).trans rfl, (blk_cell BK303.out 1).trans rfl⟩ (fun hHeld => ?_)
       clear hK K
       refine norm_ (a' := ?_) ?_ ?_
       rotate_left
       ·show Act.put _ (some 58) _ = _
        simp only [Act.put, PT, i64_w, i32_w]
        rfl
       refine puS (i := 4) (N := some 59) #[true, true, true, true, true] (by kernel_rfl) ?_
       refine done_ (by kernel_rfl) ?_
       try go_wp2
       go_ret
       exact ⟨EWW, BL⟩
end Go.Proofs.Ythincoghppaegaa.PFnExactNeedsBoth
