/- Walks of functions: what each computes. -/
import Derived.Test.YtddacmgigolcbaaZFitsClueP0
import Derived.Test.YtddacmgigolcbaaZFitsClueP2
import Derived.Test.YtddacmgigolcbaaZFitsClueP7
import Derived.Test.YtddacmgigolcbaaZFitsClueP12
import Derived.Test.YtddacmgigolcbaaZFitsClueW
import Derived.Test.YtddacmgigolcbaaZFitsClueShelf
import Derived.Test.YtddacmgigolcbaaZFitsClueHandSort
namespace Go.Proofs.Ytddacmgigolcbaa.PFnExactFitsClue
open Go.RowKit Go.Proofs.YtddacmgigolcbaaW.PrintWords Go.Proofs.YtddacmgigolcbaaW.PrintLast Go.Proofs.YtddacmgigolcbaaW.PrintMore Go.Proofs.Ytddacmgigolcbaa.Sq
attribute [local go_sem] max2_int min2_int max_two min_two max_three min_three max_four min_four
set_option linter.unusedVariables false
set_option linter.unusedSimpArgs false
def laws_FnExactFitsClue.f (k : Nat) (a0_0 : Int) (l0_1 : List (S144)) (l1 : List (S38)) (a2 : ByteArray) : Option (Bool) := if (a2.size : Int) > 1048576 then (some true) else ((laws_szClue.f k a0_0 l0_1 1048576).bind fun t257 => (if t257 < 0 then (some true) else ((laws_szMeaningS.f k l1 t257).bind fun t258 => (if t258 < 0 then (some true) else ((laws_toClue.f k a0_0 l0_1).bind fun bt259 => ((laws_toMeaningS.f k l1).bind fun t263 => ((spec_FitsClue.f k bt259.1 bt259.2 t263 a2).bind fun t266 => ((laws_toClue.f k a0_0 l0_1).bind fun bt267 => ((laws_toMeaningS.f k l1).bind fun t272 => ((impl_FitsClue.f k bt267.1 bt267.2 t272 a2).bind fun t275 => (if (t275 != t266) = true then (some false) else ((laws_toClue.f k a0_0 l0_1).bind fun bt276 => ((laws_eqClue.f k bt267.1 bt267.2 bt276.1 bt276.2).bind fun t280 => (if t280 = true then ((laws_toMeaningS.f k l1).bind fun t281 => ((laws_eqMeaningS.f k t272 t281).bind fun t284 => (if t284 = true then (some true) else (some false)))) else (some false)))))))))))))))
set_option maxHeartbeats 8000000 in
set_option maxRecDepth 100000 in
theorem laws_FnExactFitsClue.calls (k : Nat) (a0_0 : Int) (A0_1 : Option Addr) (c0_1 : Nat) (l0_1 : List (S144)) (A1 : Option Addr) (c1 : Nat) (l1 : List (S38)) (a2 : ByteArray) (r : Bool) (w : World) (hr0_1 : Kd.C k144 w A0_1 l0_1.length l0_1) (hc0_1 : l0_1.length ≤ c0_1) (hr1 : Kd.C k38 w A1 l1.length l1) (hc1 : l1.length ≤ c1) (h : laws_FnExactFitsClue.f k a0_0 l0_1 l1 a2 = some r) :
  Calls Try.prog 10 #[.agg #[.int .i64 a0_0, .slice A0_1 l0_1.length c0_1], .slice A1 l1.length c1, .string a2] w fun e w' => e = .returned (.bool r) ∧ Below w.heap.size w w' := by
 have hu70 := Try.underlying70
 have hu74 := Try.underlying74
 have HR0_1 := Aside0.mk hr0_1
 have HC0_1 := Aside0.mk hc0_1
 clear hr0_1 hc0_1
 have HR1 := Aside0.mk hr1
 have HC1 := Aside0.mk hc1
 clear hr1 hc1
 have HB := Aside0.mk (Below.refl w.heap.size w)
 have H : (if (a2.size : Int) > 1048576 then (some true) else ((laws_szClue.f k a0_0 l0_1 1048576).bind fun t257 => (if t257 < 0 then (some true) else ((laws_szMeaningS.f k l1 t257).bind fun t258 => (if t258 < 0 then (some true) else ((laws_toClue.f k a0_0 l0_1).bind fun bt259 => ((laws_toMeaningS.f k l1).bind fun t263 => ((spec_FitsClue.f k bt259.1 bt259.2 t263 a2).bind fun t266 => ((laws_toClue.f k a0_0 l0_1).bind fun bt267 => ((laws_toMeaningS.f k l1).bind fun t272 => ((impl_FitsClue.f k bt267.1 bt267.2 t272 a2).bind fun t275 => (if (t275 != t266) = true then (some false) else ((laws_toClue.f k a0_0 l0_1).bind fun bt276 => ((laws_eqClue.f k bt267.1 bt267.2 bt276.1 bt276.2).bind fun t280 => (if t280 = true then ((laws_toMeaningS.f k l1).bind fun t281 => ((laws_eqMeaningS.f k t272 t281).bind fun t284 => (if t284 = true then (some true) else (some false)))) else (some false)))))))))))))))) = some r := h
 clear h
 by_cases c4 : (a2.size : Int) > 1048576
 ·rw [if_pos c4] at H
  have c4b0 : decide (1048576 < (a2.size : Int)) = true := decide_eq_true c4
  have c4b1 : decide (1048576 < a2.size) = true := decide_eq_true (by omega)
  clear c4
  obtain rfl := Option.some.inj H
  go_enter Try.func10, Try.ntmps10
  go_wp2_with (first | ((with_reducible refine gate_dst (N := 3) rfl ?_); refine box_ev (N := 3) (cs := #[.int .i64 a0_0, .slice A0_1 l0_1.length c0_1]) (t := 70) ?_; intro gb256 hg w5 hbox hb; have n0_ := Aside0.mk (below_step BL hb); have n1_ := Aside0.mk (hbox); have n2_ := SZ (w := w) hg; have n3_ := SZ (w := w) hg; clear HB; have HB := n0_; have BK256 := n1_; have GW256 := n2_; have GE256 := n3_; clear n0_ n1_ n2_ n3_; clear hb hbox hg))
  go_ret
  exact ⟨by first | rfl | (simp [errW_none, errW_some] <;> rfl) | (simp [*, errW_none, errW_some] <;> rfl), BL⟩
 ·rw [if_neg c4] at H
  have c4b0 : decide (1048576 < (a2.size : Int)) = false := decide_eq_false c4
  have c4b1 : decide (1048576 < a2.size) = false := decide_eq_false (by omega)
  clear c4
  replace H := Option.bind_eq_some_iff.mp H
  obtain ⟨t257, A60, H⟩ := H
  replace H : (if t257 < 0 then (some true) else ((laws_szMeaningS.f k l1 t257).bind fun t258 => (if t258 < 0 then (some true) else ((laws_toClue.f k a0_0 l0_1).bind fun bt259 => ((laws_toMeaningS.f k l1).bind fun t263 => ((spec_FitsClue.f k bt259.1 bt259.2 t263 a2).bind fun t266 => ((laws_toClue.f k a0_0 l0_1).bind fun bt267 => ((laws_toMeaningS.f k l1).bind fun t272 => ((impl_FitsClue.f k bt267.1 bt267.2 t272 a2).bind fun t275 => (if (t275 != t266) = true then (some false) else ((laws_toClue.f k a0_0 l0_1).bind fun bt276 => ((laws_eqClue.f k bt267.1 bt267.2 bt276.1 bt276.2).bind fun t280 => (if t280 = true then ((laws_toMeaningS.f k l1).bind fun t281 => ((laws_eqMeaningS.f k t272 t281).bind fun t284 => (if t284 = true then (some true) else (some false)))) else (some false)))))))))))))) = some r := H
  have A6 := Aside0.mk A60
  clear A60
  by_cases c7 : t257 < 0
  ·rw [if_pos c7] at H
   have c7b0 : decide (t257 < 0) = true := decide_eq_true c7
   clear c7
   obtain rfl := Option.some.inj H
   go_enter Try.func10, Try.ntmps10
   go_wp2_with (first | ((with_reducible refine gate_dst (N := 3) rfl ?_); refine box_ev (N := 3) (cs := #[.int .i64 a0_0, .slice A0_1 l0_1.length c0_1]) (t := 70) ?_; intro gb256 hg w8 hbox hb; have n0_ := Aside0.mk (below_step BL hb); have n1_ := Aside0.mk (hbox); have n2_ := SZ (w := w) hg; have n3_ := SZ (w := w) hg; clear HB; have HB := n0_; have BK256 := n1_; have GW256 := n2_; have GE256 := n3_; clear n0_ n1_ n2_ n3_; clear hb hbox hg; obtain ⟨hcz9_0, hcz9_1, hfz9_0, hfz9_1⟩ := cz2 BK256.out) | ((with_reducible refine gate_callee (f := 45) rfl ?_); refine goesS (some 17) Try.func45 #[.agg #[.int .i64 a0_0, .slice A0_1 l0_1.length c0_1], .int .i64 1048576] ?_; (with_reducible refine (laws_szClue.calls k a0_0 _ _ l0_1 1048576 t257 _ ?side1 ?side2 A6.out).mono ?_); (case side1 => exact CB HR0_1); (case side2 => exact HC0_1.out); rintro e w10 ⟨rfl, hb⟩; refine ⟨_, rfl, ?_⟩; have n0_ := KB BK256 hb; have n1_ := Aside0.mk (below_step BL hb); clear BK256 HB; have BK256 := n0_; have HB := n1_; clear n0_ n1_; (try clear hb)))
   go_ret
   exact ⟨by first | rfl | (simp [errW_none, errW_some] <;> rfl) | (simp [*, errW_none, errW_some] <;> rfl), BL⟩
  ·rw [if_neg c7] at H
   have c7b0 : decide (t257 < 0) = false := decide_eq_false c7
   clear c7
   replace H := Option.bind_eq_some_iff.mp H
   obtain ⟨t258, A110, H⟩ := H
   replace H : (if t258 < 0 then (some true) else ((laws_toClue.f k a0_0 l0_1).bind fun bt259 => ((laws_toMeaningS.f k l1).bind fun t263 => ((spec_FitsClue.f k bt259.1 bt259.2 t263 a2).bind fun t266 => ((laws_toClue.f k a0_0 l0_1).bind fun bt267 => ((laws_toMeaningS.f k l1).bind fun t272 => ((impl_FitsClue.f k bt267.1 bt267.2 t272 a2).bind fun t275 => (if (t275 != t266) = true then (some false) else ((laws_toClue.f k a0_0 l0_1).bind fun bt276 => ((laws_eqClue.f k bt267.1 bt267.2 bt276.1 bt276.2).bind fun t280 => (if t280 = true then ((laws_toMeaningS.f k l1).bind fun t281 => ((laws_eqMeaningS.f k t272 t281).bind fun t284 => (if t284 = true then (some true) else (some false)))) else (some false)))))))))))) = some r := H
   have A11 := Aside0.mk A110
   clear A110
   by_cases c12 : t258 < 0
   ·rw [if_pos c12] at H
    have c12b0 : decide (t258 < 0) = true := decide_eq_true c12
    clear c12
    obtain rfl := Option.some.inj H
    go_enter Try.func10, Try.ntmps10
    go_wp2_with (first | ((with_reducible refine gate_dst (N := 3) rfl ?_); refine box_ev (N := 3) (cs := #[.int .i64 a0_0, .slice A0_1 l0_1.length c0_1]) (t := 70) ?_; intro gb256 hg w13 hbox hb; have n0_ := Aside0.mk (below_step BL hb); have n1_ := Aside0.mk (hbox); have n2_ := SZ (w := w) hg; have n3_ := SZ (w := w) hg; clear HB; have HB := n0_; have BK256 := n1_; have GW256 := n2_; have GE256 := n3_; clear n0_ n1_ n2_ n3_; clear hb hbox hg; obtain ⟨hcz14_0, hcz14_1, hfz14_0, hfz14_1⟩ := cz2 BK256.out) | ((with_reducible refine gate_callee (f := 45) rfl ?_); refine goesS (some 17) Try.func45 #[.agg #[.int .i64 a0_0, .slice A0_1 l0_1.length c0_1], .int .i64 1048576] ?_; (with_reducible refine (laws_szClue.calls k a0_0 _ _ l0_1 1048576 t257 _ ?side1 ?side2 A6.out).mono ?_); (case side1 => exact CB HR0_1); (case side2 => exact HC0_1.out); rintro e w15 ⟨rfl, hb⟩; refine ⟨_, rfl, ?_⟩; have n0_ := KB BK256 hb; have n1_ := Aside0.mk (below_step BL hb); clear BK256 HB; have BK256 := n0_; have HB := n1_; clear n0_ n1_; (try clear hb)) | ((with_reducible refine gate_callee (f := 17) rfl ?_); refine goesS (some 22) Try.func17 #[.slice A1 l1.length c1, .int .i64 t257] ?_; (with_reducible refine (laws_szMeaningS.calls k _ _ l1 t257 t258 _ ?side1 ?side2 A11.out).mono ?_); (case side1 => exact CB HR1); (case side2 => exact HC1.out); rintro e w16 ⟨rfl, hb⟩; refine ⟨_, rfl, ?_⟩; have n0_ := KB BK256 hb; have n1_ := Aside0.mk (below_step BL hb); clear BK256 HB; have BK256 := n0_; have HB := n1_; clear n0_ n1_; (try clear hb)))
    go_ret
    exact ⟨by first | rfl | (simp [errW_none, errW_some] <;> rfl) | (simp [*, errW_none, errW_some] <;> rfl), BL⟩
   ·rw [if_neg c12] at H
    have c12b0 : decide (t258 < 0) = false := decide_eq_false c12
    clear c12
    replace H := Option.bind_eq_some_iff.mp H
    obtain ⟨⟨t259, t260⟩, A170, H⟩ := H
    replace H : ((laws_toMeaningS.f k l1).bind fun t263 => ((spec_FitsClue.f k t259 t260 t263 a2).bind fun t266 => ((laws_toClue.f k a0_0 l0_1).bind fun bt267 => ((laws_toMeaningS.f k l1).bind fun t272 => ((impl_FitsClue.f k bt267.1 bt267.2 t272 a2).bind fun t275 => (if (t275 != t266) = true then (some false) else ((laws_toClue.f k a0_0 l0_1).bind fun bt276 => ((laws_eqClue.f k bt267.1 bt267.2 bt276.1 bt276.2).bind fun t280 => (if t280 = true then ((laws_toMeaningS.f k l1).bind fun t281 => ((laws_eqMeaningS.f k t272 t281).bind fun t284 => (if t284 = true then (some true) else (some false)))) else (some false)))))))))) = some r := H
    have A17 := Aside0.mk A170
    clear A170
    replace H := Option.bind_eq_some_iff.mp H
    obtain ⟨t263, A180, H⟩ := H
    replace H : ((spec_FitsClue.f k t259 t260 t263 a2).bind fun t266 => ((laws_toClue.f k a0_0 l0_1).bind fun bt267 => ((laws_toMeaningS.f k l1).bind fun t272 => ((impl_FitsClue.f k bt267.1 bt267.2 t272 a2).bind fun t275 => (if (t275 != t266) = true then (some false) else ((laws_toClue.f k a0_0 l0_1).bind fun bt276 => ((laws_eqClue.f k bt267.1 bt267.2 bt276.1 bt276.2).bind fun t280 => (if t280 = true then ((laws_toMeaningS.f k l1).bind fun t281 => ((laws_eqMeaningS.f k t272 t281).bind fun t284 => (if t284 = true then (some true) else (some false)))) else (some false))))))))) = some r := H
    have A18 := Aside0.mk A180
    clear A180
    replace H := Option.bind_eq_some_iff.mp H
    obtain ⟨t266, A190, H⟩ := H
    replace H : ((laws_toClue.f k a0_0 l0_1).bind fun bt267 => ((laws_toMeaningS.f k l1).bind fun t272 => ((impl_FitsClue.f k bt267.1 bt267.2 t272 a2).bind fun t275 => (if (t275 != t266) = true then (some false) else ((laws_toClue.f k a0_0 l0_1).bind fun bt276 => ((laws_eqClue.f k bt267.1 bt267.2 bt276.1 bt276.2).bind fun t280 => (if t280 = true then ((laws_toMeaningS.f k l1).bind fun t281 => ((laws_eqMeaningS.f k t272 t281).bind fun t284 => (if t284 = true then (some true) else (some false)))) else (some false)))))))) = some r := H
    have A19 := Aside0.mk A190
    clear A190
    replace H := Option.bind_eq_some_iff.mp H
    obtain ⟨⟨t267, t268⟩, A200, H⟩ := H
    replace H : ((laws_toMeaningS.f k l1).bind fun t272 => ((impl_FitsClue.f k t267 t268 t272 a2).bind fun t275 => (if (t275 != t266) = true then (some false) else ((laws_toClue.f k a0_0 l0_1).bind fun bt276 => ((laws_eqClue.f k t267 t268 bt276.1 bt276.2).bind fun t280 => (if t280 = true then ((laws_toMeaningS.f k l1).bind fun t281 => ((laws_eqMeaningS.f k t272 t281).bind fun t284 => (if t284 = true then (some true) else (some false)))) else (some false))))))) = some r := H
    have A20 := Aside0.mk A200
    clear A200
    replace H := Option.bind_eq_some_iff.mp H
    obtain ⟨t272, A210, H⟩ := H
    replace H : ((impl_FitsClue.f k t267 t268 t272 a2).bind fun t275 => (if (t275 != t266) = true then (some false) else ((laws_toClue.f k a0_0 l0_1).bind fun bt276 => ((laws_eqClue.f k t267 t268 bt276.1 bt276.2).bind fun t280 => (if t280 = true then ((laws_toMeaningS.f k l1).bind fun t281 => ((laws_eqMeaningS.f k t272 t281).bind fun t284 => (if t284 = true then (some true) else (some false)))) else (some false)))))) = some r := H
    have A21 := Aside0.mk A210
    clear A210
    replace H := Option.bind_eq_some_iff.mp H
    obtain ⟨t275, A220, H⟩ := H
    replace H : (if (t275 != t266) = true then (some false) else ((laws_toClue.f k a0_0 l0_1).bind fun bt276 => ((laws_eqClue.f k t267 t268 bt276.1 bt276.2).bind fun t280 => (if t280 = true then ((laws_toMeaningS.f k l1).bind fun t281 => ((laws_eqMeaningS.f k t272 t281).bind fun t284 => (if t284 = true then (some true) else (some false)))) else (some false))))) = some r := H
    have A22 := Aside0.mk A220
    clear A220
    by_cases c23 : (t275 != t266) = true
    ·rw [if_pos c23] at H
     have c23b0 : (t275 != t266) = true := c23
     (try (have c23b1 : decide (t275 = t266) = false := by simpa using c23))
     (try (have c23b2 : (t275 == t266) = false := by simpa using c23))
     (try (have c23b3 : ¬ (t275 = t266) := by simpa using c23))
     clear c23
     obtain rfl := Option.some.inj H
     go_enter Try.func10, Try.ntmps10
     go_wp2_with (first | ((with_reducible refine gate_dst (N := 3) rfl ?_); refine box_ev (N := 3) (cs := #[.int .i64 a0_0, .slice A0_1 l0_1.length c0_1]) (t := 70) ?_; intro gb256 hg w24 hbox hb; have n0_ := Aside0.mk (below_step BL hb); have n1_ := Aside0.mk (hbox); have n2_ := SZ (w := w) hg; have n3_ := SZ (w := w) hg; clear HB; have HB := n0_; have BK256 := n1_; have GW256 := n2_; have GE256 := n3_; clear n0_ n1_ n2_ n3_; clear hb hbox hg; obtain ⟨hcz25_0, hcz25_1, hfz25_0, hfz25_1⟩ := cz2 BK256.out) | ((with_reducible refine gate_callee (f := 45) rfl ?_); refine goesS (some 17) Try.func45 #[.agg #[.int .i64 a0_0, .slice A0_1 l0_1.length c0_1], .int .i64 1048576] ?_; (with_reducible refine (laws_szClue.calls k a0_0 _ _ l0_1 1048576 t257 _ ?side1 ?side2 A6.out).mono ?_); (case side1 => exact CB HR0_1); (case side2 => exact HC0_1.out); rintro e w26 ⟨rfl, hb⟩; refine ⟨_, rfl, ?_⟩; have n0_ := KB BK256 hb; have n1_ := Aside0.mk (below_step BL hb); clear BK256 HB; have BK256 := n0_; have HB := n1_; clear n0_ n1_; (try clear hb)) | ((with_reducible refine gate_callee (f := 17) rfl ?_); refine goesS (some 22) Try.func17 #[.slice A1 l1.length c1, .int .i64 t257] ?_; (with_reducible refine (laws_szMeaningS.calls k _ _ l1 t257 t258 _ ?side1 ?side2 A11.out).mono ?_); (case side1 => exact CB HR1); (case side2 => exact HC1.out); rintro e w27 ⟨rfl, hb⟩; refine ⟨_, rfl, ?_⟩; have n0_ := KB BK256 hb; have n1_ := Aside0.mk (below_step BL hb); clear BK256 HB; have BK256 := n0_; have HB := n1_; clear n0_ n1_; (try clear hb); obtain ⟨hcz28_0, hcz28_1, hfz28_0, hfz28_1⟩ := cz2 BK256.out) | ((with_reducible refine gate_callee (f := 47) rfl ?_); refine goesS (some 26) Try.func47 #[.agg #[.int .i64 a0_0, .slice A0_1 l0_1.length c0_1]] ?_; (with_reducible refine (laws_toClue.calls k a0_0 _ _ l0_1 t259 t260 _ ?side1 ?side2 A17.out).mono ?_); (case side1 => exact CB HR0_1); (case side2 => exact HC0_1.out); rintro e w29 ⟨v261, rfl, ho0, hb⟩; refine ⟨_, rfl, ?_⟩; have n0_ := Aside0.mk (Kd.R_lower ho0 (below_size BL)); have n1_ := KB BK256 hb; have n2_ := Aside0.mk (below_step BL hb); clear BK256 HB; have HO262 := n0_; have BK256 := n1_; have HB := n2_; clear n0_ n1_ n2_; (try clear hb); (try clear ho0)) | ((with_reducible refine gate_callee (f := 20) rfl ?_); refine goesS (some 28) Try.func20 #[.slice A1 l1.length c1] ?_; (with_reducible refine (laws_toMeaningS.calls k _ _ l1 t263 _ ?side1 ?side2 A18.out).mono ?_); (case side1 => exact CB HR1); (case side2 => exact HC1.out); rintro e w30 ⟨v264, rfl, ho0, hb⟩; refine ⟨_, rfl, ?_⟩; have n0_ := Aside0.mk (Kd.R_below (RR HO262) hb); have n1_ := Aside0.mk (Kd.R_lower ho0 (below_size BL)); have n2_ := KB BK256 hb; have n3_ := Aside0.mk (below_step BL hb); clear HO262 BK256 HB; have HO262 := n0_; have HO265 := n1_; have BK256 := n2_; have HB := n3_; clear n0_ n1_ n2_ n3_; (try clear hb); (try clear ho0); obtain ⟨Ao31, co31, eo31⟩ := Kd.R_slice HO262.out; subst eo31; obtain ⟨Ao32, co32, eo32⟩ := Kd.R_slice HO265.out; subst eo32) | ((with_reducible refine gate_callee (f := 46) rfl ?_); refine goesS (some 30) Try.func46 #[.agg #[.int .i64 t259, .slice Ao31 t260.length co31], .slice Ao32 t263.length co32, .string a2] ?_; (with_reducible refine (spec_FitsClue.calls k t259 _ _ t260 _ _ t263 a2 t266 _ ?side1 ?side2 ?side3 ?side4 A19.out).mono ?_); (case side1 => repeat (first | exact (Kd.R_reads' HO262.out).2.2 | (with_reducible refine Kd.C_alloc ?_ _) | (with_reducible refine Kd.C_drewN ?_ _) | (with_reducible refine Kd.C_drew ?_))); (case side2 => exact (Kd.R_reads' HO262.out).2.1); (case side3 => repeat (first | exact (Kd.R_reads' HO265.out).2.2 | (with_reducible refine Kd.C_alloc ?_ _) | (with_reducible refine Kd.C_drewN ?_ _) | (with_reducible refine Kd.C_drew ?_))); (case side4 => exact (Kd.R_reads' HO265.out).2.1); rintro e w33 ⟨rfl, hb⟩; refine ⟨_, rfl, ?_⟩; have n0_ := Aside0.mk (Kd.R_below (RR HO262) hb); have n1_ := Aside0.mk (Kd.R_below (RR HO265) hb); have n2_ := KB BK256 hb; have n3_ := Aside0.mk (below_step BL hb); clear HO262 HO265 BK256 HB; have HO262 := n0_; have HO265 := n1_; have BK256 := n2_; have HB := n3_; clear n0_ n1_ n2_ n3_; (try clear hb); obtain ⟨hcz34_0, hcz34_1, hfz34_0, hfz34_1⟩ := cz2 BK256.out) | ((with_reducible refine gate_callee (f := 47) rfl ?_); refine goesS (some 32) Try.func47 #[.agg #[.int .i64 a0_0, .slice A0_1 l0_1.length c0_1]] ?_; (with_reducible refine (laws_toClue.calls k a0_0 _ _ l0_1 t267 t268 _ ?side1 ?side2 A20.out).mono ?_); (case side1 => exact CB HR0_1); (case side2 => exact HC0_1.out); rintro e w35 ⟨v269, rfl, ho0, hb⟩; refine ⟨_, rfl, ?_⟩; have n0_ := Aside0.mk (Kd.R_elder' (RR HO262) (Kd.R_base ho0) hb); have n1_ := Aside0.mk (Kd.R_below (RR HO265) hb); have n2_ := Aside0.mk (Kd.R_lower (Kd.R_new' ho0 (Kd.R_lt (RR HO262))) (below_size BL)); have n3_ := KB BK256 hb; have n4_ := Aside0.mk (below_step BL hb); clear HO262 HO265 BK256 HB; have HO262 := n0_; have HO265 := n1_; have HO270 := n2_; have BK256 := n3_; have HB := n4_; clear n0_ n1_ n2_ n3_ n4_; (try clear hb); (try clear ho0)) | ((with_reducible refine gate_dst (N := 9) rfl ?_); refine box_ev (N := 9) (cs := #[.int .i64 0, .slice none 0 0]) (t := 74) ?_; intro gb271 hg w36 hbox hb; have n0_ := Aside0.mk (Kd.R_below (RR HO262) hb); have n1_ := Aside0.mk (Kd.R_below (RR HO265) hb); have n2_ := Aside0.mk (Kd.R_below (RR HO270) hb); have n3_ := KB BK256 hb; have n4_ := Aside0.mk (below_step BL hb); have n5_ := Aside0.mk (hbox); have n6_ := SZ (w := w) hg; have n7_ := SZ (w := w) hg; have n8_ := NL BK256 hg; have n9_ := NG BK256 hg; clear HO262 HO265 HO270 BK256 HB; have HO262 := n0_; have HO265 := n1_; have HO270 := n2_; have BK256 := n3_; have HB := n4_; have BK271 := n5_; have GW271 := n6_; have GE271 := n7_; have NB256_271 := n8_; have NB271_256 := n9_; clear n0_ n1_ n2_ n3_ n4_ n5_ n6_ n7_ n8_ n9_; clear hb hbox hg; have hnb37 := NB271_256.out; have hnc37 := NB256_271.out; obtain ⟨hcz38_0, hcz38_1, hfz38_0, hfz38_1⟩ := cz2 BK271.out; obtain ⟨Ao39, co39, eo39⟩ := Kd.R_slice HO270.out; subst eo39) | ((with_reducible refine gate_callee (f := 20) rfl ?_); refine goesS (some 34) Try.func20 #[.slice A1 l1.length c1] ?_; (with_reducible refine (laws_toMeaningS.calls k _ _ l1 t272 _ ?side1 ?side2 A21.out).mono ?_); (case side1 => exact Kd.C_below HR1.out BL); (case side2 => exact HC1.out); rintro e w40 ⟨v273, rfl, ho0, hb⟩; refine ⟨_, rfl, ?_⟩; have n0_ := Aside0.mk (Kd.R_below (by (with_reducible repeat (first | apply Kd.R_alloc | apply Kd.R_drewN | apply Kd.R_drew)); exact (Kd.R_mono (Kd.R_far (p := ⟨gb271, 1, none⟩) (Kd.R_far (p := ⟨gb271, 0, none⟩) (Kd.R_types HO262.out BK271.out (by decide)) (fun _ hk => hk.2) (.int .i64 t267)) (fun _ hk => hk.2) (.slice Ao39 t268.length co39)) (fun _ h_ => h_.1))) hb); have n1_ := Aside0.mk (Kd.R_elder' (by (with_reducible repeat (first | apply Kd.R_alloc | apply Kd.R_drewN | apply Kd.R_drew)); exact (Kd.R_mono (Kd.R_far (p := ⟨gb271, 1, none⟩) (Kd.R_far (p := ⟨gb271, 0, none⟩) (Kd.R_types HO265.out BK271.out (by decide)) (fun _ hk => hk.2) (.int .i64 t267)) (fun _ hk => hk.2) (.slice Ao39 t268.length co39)) (fun _ h_ => h_.1))) (Kd.R_base ho0) hb); have n2_ := Aside0.mk (Kd.R_below (by (with_reducible repeat (first | apply Kd.R_alloc | apply Kd.R_drewN | apply Kd.R_drew)); exact (Kd.R_mono (Kd.R_far (p := ⟨gb271, 1, none⟩) (Kd.R_far (p := ⟨gb271, 0, none⟩) (Kd.R_types HO270.out BK271.out (by decide)) (fun _ hk => hk.2) (.int .i64 t267)) (fun _ hk => hk.2) (.slice Ao39 t268.length co39)) (fun _ h_ => h_.1))) hb); have n3_ := Aside0.mk (Kd.R_lower (Kd.R_new' ho0 (Kd.R_lt (by (with_reducible repeat (first | apply Kd.R_alloc | apply Kd.R_drewN | apply Kd.R_drew)); exact (Kd.R_mono (Kd.R_far (p := ⟨gb271, 1, none⟩) (Kd.R_far (p := ⟨gb271, 0, none⟩) (Kd.R_types HO265.out BK271.out (by decide)) (fun _ hk => hk.2) (.int .i64 t267)) (fun _ hk => hk.2) (.slice Ao39 t268.length co39)) (fun _ h_ => h_.1))))) (below_size BL)); have n4_ := Aside0.mk (blk_below (g := gb256) (o := .cells #[.int .i64 a0_0, .slice A0_1 l0_1.length c0_1] 70 (0, 0)) (by (with_reducible repeat (first | refine blk_drewN ?_ _ | refine blk_drew ?_ | refine blk_alloc ?_ _)); refine blk_far ?_ NB256_271.out _; (with_reducible repeat (first | refine blk_drewN ?_ _ | refine blk_drew ?_ | refine blk_alloc ?_ _)); refine blk_far ?_ NB256_271.out _; (with_reducible repeat (first | refine blk_drewN ?_ _ | refine blk_drew ?_ | refine blk_alloc ?_ _)); exact BK256.out) hb); have n5_ := Aside0.mk (blk_below (g := gb271) (o := .cells #[.int .i64 t267, .slice Ao39 t268.length co39] 74 (0, 0)) (by (with_reducible repeat (first | refine blk_drewN ?_ _ | refine blk_drew ?_ | refine blk_alloc ?_ _)); refine blk_put (cs := #[.int .i64 t267, .slice none 0 0]) ?_ 1 _ rfl; (with_reducible repeat (first | refine blk_drewN ?_ _ | refine blk_drew ?_ | refine blk_alloc ?_ _)); refine blk_put (cs := #[.int .i64 0, .slice none 0 0]) ?_ 0 _ rfl; (with_reducible repeat (first | refine blk_drewN ?_ _ | refine blk_drew ?_ | refine blk_alloc ?_ _)); exact BK271.out) hb); have n6_ := Aside0.mk (below_step BL hb); clear HO262 HO265 HO270 BK256 BK271 HB; have HO262 := n0_; have HO265 := n1_; have HO270 := n2_; have HO274 := n3_; have BK256 := n4_; have BK271 := n5_; have HB := n6_; clear n0_ n1_ n2_ n3_ n4_ n5_ n6_; (try clear hb); (try clear hk); (try clear ho0); obtain ⟨hcz41_0, hcz41_1, hfz41_0, hfz41_1⟩ := cz2 BK271.out; obtain ⟨Ao42, co42, eo42⟩ := Kd.R_slice HO274.out; subst eo42) | ((with_reducible refine gate_callee (f := 48) rfl ?_); refine goesS (some 38) Try.func48 #[.agg #[.int .i64 t267, .slice Ao39 t268.length co39], .slice Ao42 t272.length co42, .string a2] ?_; (with_reducible refine (impl_FitsClue.calls k t267 _ _ t268 _ _ t272 a2 t275 _ ?side1 ?side2 ?side3 ?side4 A22.out).mono ?_); (case side1 => repeat (first | exact (Kd.R_reads' HO270.out).2.2 | (with_reducible refine Kd.C_alloc ?_ _) | (with_reducible refine Kd.C_drewN ?_ _) | (with_reducible refine Kd.C_drew ?_))); (case side2 => exact (Kd.R_reads' HO270.out).2.1); (case side3 => repeat (first | exact (Kd.R_reads' HO274.out).2.2 | (with_reducible refine Kd.C_alloc ?_ _) | (with_reducible refine Kd.C_drewN ?_ _) | (with_reducible refine Kd.C_drew ?_))); (case side4 => exact (Kd.R_reads' HO274.out).2.1); rintro e w43 ⟨rfl, hb⟩; refine ⟨_, rfl, ?_⟩; have n0_ := Aside0.mk (Kd.R_below (RR HO262) hb); have n1_ := Aside0.mk (Kd.R_below (RR HO265) hb); have n2_ := Aside0.mk (Kd.R_below (RR HO270) hb); have n3_ := Aside0.mk (Kd.R_below (RR HO274) hb); have n4_ := KB BK256 hb; have n5_ := KB BK271 hb; have n6_ := Aside0.mk (below_step BL hb); clear HO262 HO265 HO270 HO274 BK256 BK271 HB; have HO262 := n0_; have HO265 := n1_; have HO270 := n2_; have HO274 := n3_; have BK256 := n4_; have BK271 := n5_; have HB := n6_; clear n0_ n1_ n2_ n3_ n4_ n5_ n6_; (try clear hb)))
     go_ret
     exact ⟨by first | rfl | (simp [errW_none, errW_some] <;> rfl) | (simp [*, errW_none, errW_some] <;> rfl), BL⟩
    ·rw [if_neg c23] at H
     have c23b0 : (t275 != t266) = false := by simpa using c23
     (try (have c23b1 : decide (t275 = t266) = true := by simpa using c23))
     (try (have c23b2 : (t275 == t266) = true := by simpa using c23))
     clear c23
     replace H := Option.bind_eq_some_iff.mp H
     obtain ⟨⟨t276, t277⟩, A440, H⟩ := H
     replace H : ((laws_eqClue.f k t267 t268 t276 t277).bind fun t280 => (if t280 = true then ((laws_toMeaningS.f k l1).bind fun t281 => ((laws_eqMeaningS.f k t272 t281).bind fun t284 => (if t284 = true then (some true) else (some false)))) else (some false))) = some r := H
     have A44 := Aside0.mk A440
     clear A440
     replace H := Option.bind_eq_some_iff.mp H
     obtain ⟨t280, A450, H⟩ := H
     replace H : (if t280 = true then ((laws_toMeaningS.f k l1).bind fun t281 => ((laws_eqMeaningS.f k t272 t281).bind fun t284 => (if t284 = true then (some true) else (some false)))) else (some false)) = some r := H
     have A45 := Aside0.mk A450
     clear A450
     by_cases c46 : t280 = true
     ·subst c46
      have H1 : ((laws_toMeaningS.f k l1).bind fun t281 => ((laws_eqMeaningS.f k t272 t281).bind fun t284 => (if t284 = true then (some true) else (some false)))) = some r := by rw [if_pos rfl] at H; exact H
      clear H
      have H := H1
      clear H1
      replace H := Option.bind_eq_some_iff.mp H
      obtain ⟨t281, A470, H⟩ := H
      replace H : ((laws_eqMeaningS.f k t272 t281).bind fun t284 => (if t284 = true then (some true) else (some false))) = some r := H
      have A47 := Aside0.mk A470
      clear A470
      replace H := Option.bind_eq_some_iff.mp H
      obtain ⟨t284, A480, H⟩ := H
      replace H : (if t284 = true then (some true) else (some false)) = some r := H
      have A48 := Aside0.mk A480
      clear A480
      by_cases c49 : t284 = true
      ·subst c49
       have H1 : (some true) = some r := by rw [if_pos rfl] at H; exact H
       clear H
       have H := H1
       clear H1
       obtain rfl := Option.some.inj H
       go_enter Try.func10, Try.ntmps10
       try go_wp2_with (first | ((with_reducible refine gate_dst (N := 3) rfl ?_); refine box_ev (N := 3) (cs := #[.int .i64 a0_0, .slice A0_1 l0_1.length c0_1]) (t := 70) ?_; intro gb256 hg w50 hbox hb; have n0_ := Aside0.mk (below_step BL hb); have n1_ := Aside0.mk (hbox); have n2_ := SZ (w := w) hg; have n3_ := SZ (w := w) hg; clear HB; have HB := n0_; have BK256 := n1_; have GW256 := n2_; have GE256 := n3_; clear n0_ n1_ n2_ n3_; clear hb hbox hg; obtain ⟨hcz51_0, hcz51_1, hfz51_0, hfz51_1⟩ := cz2 BK256.out) | ((with_reducible refine gate_callee (f := 45) rfl ?_); refine goesS (some 17) Try.func45 #[.agg #[.int .i64 a0_0, .slice A0_1 l0_1.length c0_1], .int .i64 1048576] ?_; (with_reducible refine (laws_szClue.calls k a0_0 _ _ l0_1 1048576 t257 _ ?side1 ?side2 A6.out).mono ?_); (case side1 => exact CB HR0_1); (case side2 => exact HC0_1.out); rintro e w52 ⟨rfl, hb⟩; refine ⟨_, rfl, ?_⟩; have n0_ := KB BK256 hb; have n1_ := Aside0.mk (below_step BL hb); clear BK256 HB; have BK256 := n0_; have HB := n1_; clear n0_ n1_; (try clear hb)) | ((with_reducible refine gate_callee (f := 17) rfl ?_); refine goesS (some 22) Try.func17 #[.slice A1 l1.length c1, .int .i64 t257] ?_; (with_reducible refine (laws_szMeaningS.calls k _ _ l1 t257 t258 _ ?side1 ?side2 A11.out).mono ?_); (case side1 => exact CB HR1); (case side2 => exact HC1.out); rintro e w53 ⟨rfl, hb⟩; refine ⟨_, rfl, ?_⟩; have n0_ := KB BK256 hb; have n1_ := Aside0.mk (below_step BL hb); clear BK256 HB; have BK256 := n0_; have HB := n1_; clear n0_ n1_; (try clear hb); obtain ⟨hcz54_0, hcz54_1, hfz54_0, hfz54_1⟩ := cz2 BK256.out) | ((with_reducible refine gate_callee (f := 47) rfl ?_); refine goesS (some 26) Try.func47 #[.agg #[.int .i64 a0_0, .slice A0_1 l0_1.length c0_1]] ?_; (with_reducible refine (laws_toClue.calls k a0_0 _ _ l0_1 t259 t260 _ ?side1 ?side2 A17.out).mono ?_); (case side1 => exact CB HR0_1); (case side2 => exact HC0_1.out); rintro e w55 ⟨v261, rfl, ho0, hb⟩; refine ⟨_, rfl, ?_⟩; have n0_ := Aside0.mk (Kd.R_lower ho0 (below_size BL)); have n1_ := KB BK256 hb; have n2_ := Aside0.mk (below_step BL hb); clear BK256 HB; have HO262 := n0_; have BK256 := n1_; have HB := n2_; clear n0_ n1_ n2_; (try clear hb); (try clear ho0)) | ((with_reducible refine gate_callee (f := 20) rfl ?_); refine goesS (some 28) Try.func20 #[.slice A1 l1.length c1] ?_; (with_reducible refine (laws_toMeaningS.calls k _ _ l1 t263 _ ?side1 ?side2 A18.out).mono ?_); (case side1 => exact CB HR1); (case side2 => exact HC1.out); rintro e w56 ⟨v264, rfl, ho0, hb⟩; refine ⟨_, rfl, ?_⟩; have n0_ := Aside0.mk (Kd.R_below (RR HO262) hb); have n1_ := Aside0.mk (Kd.R_lower ho0 (below_size BL)); have n2_ := KB BK256 hb; have n3_ := Aside0.mk (below_step BL hb); clear HO262 BK256 HB; have HO262 := n0_; have HO265 := n1_; have BK256 := n2_; have HB := n3_; clear n0_ n1_ n2_ n3_; (try clear hb); (try clear ho0); obtain ⟨Ao57, co57, eo57⟩ := Kd.R_slice HO262.out; subst eo57; obtain ⟨Ao58, co58, eo58⟩ := Kd.R_slice HO265.out; subst eo58) | ((with_reducible refine gate_callee (f := 46) rfl ?_); refine goesS (some 30) Try.func46 #[.agg #[.int .i64 t259, .slice Ao57 t260.length co57], .slice Ao58 t263.length co58, .string a2] ?_; (with_reducible refine (spec_FitsClue.calls k t259 _ _ t260 _ _ t263 a2 t266 _ ?side1 ?side2 ?side3 ?side4 A19.out).mono ?_); (case side1 => repeat (first | exact (Kd.R_reads' HO262.out).2.2 | (with_reducible refine Kd.C_alloc ?_ _) | (with_reducible refine Kd.C_drewN ?_ _) | (with_reducible refine Kd.C_drew ?_))); (case side2 => exact (Kd.R_reads' HO262.out).2.1); (case side3 => repeat (first | exact (Kd.R_reads' HO265.out).2.2 | (with_reducible refine Kd.C_alloc ?_ _) | (with_reducible refine Kd.C_drewN ?_ _) | (with_reducible refine Kd.C_drew ?_))); (case side4 => exact (Kd.R_reads' HO265.out).2.1); rintro e w59 ⟨rfl, hb⟩; refine ⟨_, rfl, ?_⟩; have n0_ := Aside0.mk (Kd.R_below (RR HO262) hb); have n1_ := Aside0.mk (Kd.R_below (RR HO265) hb); have n2_ := KB BK256 hb; have n3_ := Aside0.mk (below_step BL hb); clear HO262 HO265 BK256 HB; have HO262 := n0_; have HO265 := n1_; have BK256 := n2_; have HB := n3_; clear n0_ n1_ n2_ n3_; (try clear hb); obtain ⟨hcz60_0, hcz60_1, hfz60_0, hfz60_1⟩ := cz2 BK256.out) | ((with_reducible refine gate_callee (f := 47) rfl ?_); refine goesS (some 32) Try.func47 #[.agg #[.int .i64 a0_0, .slice A0_1 l0_1.length c0_1]] ?_; (with_reducible refine (laws_toClue.calls k a0_0 _ _ l0_1 t267 t268 _ ?side1 ?side2 A20.out).mono ?_); (case side1 => exact CB HR0_1); (case side2 => exact HC0_1.out); rintro e w61 ⟨v269, rfl, ho0, hb⟩; refine ⟨_, rfl, ?_⟩; have n0_ := Aside0.mk (Kd.R_elder' (RR HO262) (Kd.R_base ho0) hb); have n1_ := Aside0.mk (Kd.R_below (RR HO265) hb); have n2_ := Aside0.mk (Kd.R_lower (Kd.R_new' ho0 (Kd.R_lt (RR HO262))) (below_size BL)); have n3_ := KB BK256 hb; have n4_ := Aside0.mk (below_step BL hb); clear HO262 HO265 BK256 HB; have HO262 := n0_; have HO265 := n1_; have HO270 := n2_; have BK256 := n3_; have HB := n4_; clear n0_ n1_ n2_ n3_ n4_; (try clear hb); (try clear ho0)) | ((with_reducible refine gate_dst (N := 9) rfl ?_); refine box_ev (N := 9) (cs := #[.int .i64 0, .slice none 0 0]) (t := 74) ?_; intro gb271 hg w62 hbox hb; have n0_ := Aside0.mk (Kd.R_below (RR HO262) hb); have n1_ := Aside0.mk (Kd.R_below (RR HO265) hb); have n2_ := Aside0.mk (Kd.R_below (RR HO270) hb); have n3_ := KB BK256 hb; have n4_ := Aside0.mk (below_step BL hb); have n5_ := Aside0.mk (hbox); have n6_ := SZ (w := w) hg; have n7_ := SZ (w := w) hg; have n8_ := NL BK256 hg; have n9_ := NG BK256 hg; clear HO262 HO265 HO270 BK256 HB; have HO262 := n0_; have HO265 := n1_; have HO270 := n2_; have BK256 := n3_; have HB := n4_; have BK271 := n5_; have GW271 := n6_; have GE271 := n7_; have NB256_271 := n8_; have NB271_256 := n9_; clear n0_ n1_ n2_ n3_ n4_ n5_ n6_ n7_ n8_ n9_; clear hb hbox hg; have hnb63 := NB271_256.out; have hnc63 := NB256_271.out; obtain ⟨hcz64_0, hcz64_1, hfz64_0, hfz64_1⟩ := cz2 BK271.out; obtain ⟨Ao65, co65, eo65⟩ := Kd.R_slice HO270.out; subst eo65) | ((with_reducible refine gate_callee (f := 20) rfl ?_); refine goesS (some 34) Try.func20 #[.slice A1 l1.length c1] ?_; (with_reducible refine (laws_toMeaningS.calls k _ _ l1 t272 _ ?side1 ?side2 A21.out).mono ?_); (case side1 => exact Kd.C_below HR1.out BL); (case side2 => exact HC1.out); rintro e w66 ⟨v273, rfl, ho0, hb⟩; refine ⟨_, rfl, ?_⟩; have n0_ := Aside0.mk (Kd.R_below (by (with_reducible repeat (first | apply Kd.R_alloc | apply Kd.R_drewN | apply Kd.R_drew)); exact (Kd.R_mono (Kd.R_far (p := ⟨gb271, 1, none⟩) (Kd.R_far (p := ⟨gb271, 0, none⟩) (Kd.R_types HO262.out BK271.out (by decide)) (fun _ hk => hk.2) (.int .i64 t267)) (fun _ hk => hk.2) (.slice Ao65 t268.length co65)) (fun _ h_ => h_.1))) hb); have n1_ := Aside0.mk (Kd.R_elder' (by (with_reducible repeat (first | apply Kd.R_alloc | apply Kd.R_drewN | apply Kd.R_drew)); exact (Kd.R_mono (Kd.R_far (p := ⟨gb271, 1, none⟩) (Kd.R_far (p := ⟨gb271, 0, none⟩) (Kd.R_types HO265.out BK271.out (by decide)) (fun _ hk => hk.2) (.int .i64 t267)) (fun _ hk => hk.2) (.slice Ao65 t268.length co65)) (fun _ h_ => h_.1))) (Kd.R_base ho0) hb); have n2_ := Aside0.mk (Kd.R_below (by (with_reducible repeat (first | apply Kd.R_alloc | apply Kd.R_drewN | apply Kd.R_drew)); exact (Kd.R_mono (Kd.R_far (p := ⟨gb271, 1, none⟩) (Kd.R_far (p := ⟨gb271, 0, none⟩) (Kd.R_types HO270.out BK271.out (by decide)) (fun _ hk => hk.2) (.int .i64 t267)) (fun _ hk => hk.2) (.slice Ao65 t268.length co65)) (fun _ h_ => h_.1))) hb); have n3_ := Aside0.mk (Kd.R_lower (Kd.R_new' ho0 (Kd.R_lt (by (with_reducible repeat (first | apply Kd.R_alloc | apply Kd.R_drewN | apply Kd.R_drew)); exact (Kd.R_mono (Kd.R_far (p := ⟨gb271, 1, none⟩) (Kd.R_far (p := ⟨gb271, 0, none⟩) (Kd.R_types HO265.out BK271.out (by decide)) (fun _ hk => hk.2) (.int .i64 t267)) (fun _ hk => hk.2) (.slice Ao65 t268.length co65)) (fun _ h_ => h_.1))))) (below_size BL)); have n4_ := Aside0.mk (blk_below (g := gb256) (o := .cells #[.int .i64 a0_0, .slice A0_1 l0_1.length c0_1] 70 (0, 0)) (by (with_reducible repeat (first | refine blk_drewN ?_ _ | refine blk_drew ?_ | refine blk_alloc ?_ _)); refine blk_far ?_ NB256_271.out _; (with_reducible repeat (first | refine blk_drewN ?_ _ | refine blk_drew ?_ | refine blk_alloc ?_ _)); refine blk_far ?_ NB256_271.out _; (with_reducible repeat (first | refine blk_drewN ?_ _ | refine blk_drew ?_ | refine blk_alloc ?_ _)); exact BK256.out) hb); have n5_ := Aside0.mk (blk_below (g := gb271) (o := .cells #[.int .i64 t267, .slice Ao65 t268.length co65] 74 (0, 0)) (by (with_reducible repeat (first | refine blk_drewN ?_ _ | refine blk_drew ?_ | refine blk_alloc ?_ _)); refine blk_put (cs := #[.int .i64 t267, .slice none 0 0]) ?_ 1 _ rfl; (with_reducible repeat (first | refine blk_drewN ?_ _ | refine blk_drew ?_ | refine blk_alloc ?_ _)); refine blk_put (cs := #[.int .i64 0, .slice none 0 0]) ?_ 0 _ rfl; (with_reducible repeat (first | refine blk_drewN ?_ _ | refine blk_drew ?_ | refine blk_alloc ?_ _)); exact BK271.out) hb); have n6_ := Aside0.mk (below_step BL hb); clear HO262 HO265 HO270 BK256 BK271 HB; have HO262 := n0_; have HO265 := n1_; have HO270 := n2_; have HO274 := n3_; have BK256 := n4_; have BK271 := n5_; have HB := n6_; clear n0_ n1_ n2_ n3_ n4_ n5_ n6_; (try clear hb); (try clear hk); (try clear ho0); obtain ⟨hcz67_0, hcz67_1, hfz67_0, hfz67_1⟩ := cz2 BK271.out; obtain ⟨Ao68, co68, eo68⟩ := Kd.R_slice HO274.out; subst eo68) | ((with_reducible refine gate_callee (f := 48) rfl ?_); refine goesS (some 38) Try.func48 #[.agg #[.int .i64 t267, .slice Ao65 t268.length co65], .slice Ao68 t272.length co68, .string a2] ?_; (with_reducible refine (impl_FitsClue.calls k t267 _ _ t268 _ _ t272 a2 t275 _ ?side1 ?side2 ?side3 ?side4 A22.out).mono ?_); (case side1 => repeat (first | exact (Kd.R_reads' HO270.out).2.2 | (with_reducible refine Kd.C_alloc ?_ _) | (with_reducible refine Kd.C_drewN ?_ _) | (with_reducible refine Kd.C_drew ?_))); (case side2 => exact (Kd.R_reads' HO270.out).2.1); (case side3 => repeat (first | exact (Kd.R_reads' HO274.out).2.2 | (with_reducible refine Kd.C_alloc ?_ _) | (with_reducible refine Kd.C_drewN ?_ _) | (with_reducible refine Kd.C_drew ?_))); (case side4 => exact (Kd.R_reads' HO274.out).2.1); rintro e w69 ⟨rfl, hb⟩; refine ⟨_, rfl, ?_⟩; have n0_ := Aside0.mk (Kd.R_below (RR HO262) hb); have n1_ := Aside0.mk (Kd.R_below (RR HO265) hb); have n2_ := Aside0.mk (Kd.R_below (RR HO270) hb); have n3_ := Aside0.mk (Kd.R_below (RR HO274) hb); have n4_ := KB BK256 hb; have n5_ := KB BK271 hb; have n6_ := Aside0.mk (below_step BL hb); clear HO262 HO265 HO270 HO274 BK256 BK271 HB; have HO262 := n0_; have HO265 := n1_; have HO270 := n2_; have HO274 := n3_; have BK256 := n4_; have BK271 := n5_; have HB := n6_; clear n0_ n1_ n2_ n3_ n4_ n5_ n6_; (try clear hb)))
       have n0_ := Aside0.mk (Kd.R_drew HO262.out)
       have n1_ := Aside0.mk (Kd.R_drew HO265.out)
       have n2_ := Aside0.mk (Kd.R_drew HO270.out)
       have n3_ := Aside0.mk (Kd.R_drew HO274.out)
       have n4_ := Aside0.mk (blk_drew BK256.out)
       have n5_ := Aside0.mk (blk_drew BK271.out)
       have n6_ := Aside0.mk (below_drew1 HB.out)
       clear HO262
       clear HO265
       clear HO270
       clear HO274
       clear BK256
       clear BK271
       clear HB
       have HO262 := n0_
       have HO265 := n1_
       have HO270 := n2_
       have HO274 := n3_
       have BK256 := n4_
       have BK271 := n5_
       have HB := n6_
       clear n0_ n1_ n2_ n3_ n4_ n5_ n6_
       refine start_ (n := 5) (S := fun w' => w'.cell? ⟨gb271, 0, none⟩ = some (.int .i64 t267) ∧ w'.cell? ⟨gb271, 1, none⟩ = some (.slice Ao65 t268.length co65) ∧ w'.cell? ⟨gb256, 0, none⟩ = some (.int .i64 a0_0) ∧ w'.cell? ⟨gb256, 1, none⟩ = some (.slice A0_1 l0_1.length c0_1)) (ds := []) #[false, false, false, false, false] (by kernel_rfl) rfl rfl ⟨(blk_cell BK271.out 0).trans rfl, (blk_cell BK271.out 1).trans rfl, (blk_cell BK256.out 0).trans rfl, (blk_cell BK256.out 1).trans rfl⟩ (fun hHeld => ?_)
       generalize w69.drew = w70 at HO262 HO265 HO270 HO274 BK256 BK271 HB hHeld ⊢
       refine take_ (i := 0) (N := some 42) (v := ?_) (a' := ?_) #[true, false, false, false, false] rfl rfl (by kernel_rfl) (fun _ _ _ h => h) (Or.inl ⟨by rfl, ?_⟩) hHeld ?_ ?_
       rotate_left
       ·rintro w' ⟨s0, s1, s2, s3⟩
        go_simp
        with_reducible rfl
       rotate_left
       ·simp only [Act.put, List.setIfInBounds_toArray, List.set_cons_zero, List.set_cons_succ, i64_w, i32_w]
        rfl
       refine take_ (i := 1) (N := some 43) (v := ?_) (a' := ?_) #[true, true, false, false, false] rfl rfl (by kernel_rfl) (fun _ _ _ h => h) (Or.inl ⟨by rfl, ?_⟩) hHeld ?_ ?_
       rotate_left
       ·rintro w' ⟨s0, s1, s2, s3⟩
        go_simp
        with_reducible rfl
       rotate_left
       ·simp only [Act.put, List.setIfInBounds_toArray, List.set_cons_zero, List.set_cons_succ, i64_w, i32_w]
        rfl
       refine one_ (i := 2) (N := some 44) #[true, true, true, false, false] rfl rfl (by kernel_rfl) (by decide) (fun K hK => ?_)
       refine goes_ Try.func47 (by kernel_rfl) rfl #[.agg #[.int .i64 a0_0, .slice A0_1 l0_1.length c0_1]] (by rfl) rfl rfl (by (try simp only [List.map_toArray, List.map_cons, List.map_nil]); first | done | rfl | (simp only [List.length_drop, List.length_take]; rfl)) ?_
       with_reducible refine (laws_toClue.calls k a0_0 _ _ l0_1 t276 t277 _ ?side1 ?side2 A44.out).mono ?_
       (case side1 => exact CB HR0_1)
       (case side2 => exact HC0_1.out)
       rintro e w71 ⟨v278, rfl, ho0, hb⟩
       refine ⟨_, rfl, ?_⟩
       have n0_ := Aside0.mk (Kd.R_elder' (RR HO262) (Kd.R_base ho0) hb)
       have n1_ := Aside0.mk (Kd.R_below (RR HO265) hb)
       have n2_ := Aside0.mk (Kd.R_elder' (RR HO270) (Kd.R_base ho0) hb)
       have n3_ := Aside0.mk (Kd.R_below (RR HO274) hb)
       have n4_ := Aside0.mk (Kd.R_lower (Kd.R_new' (Kd.R_new' ho0 (Kd.R_lt (RR HO262))) (Kd.R_lt (RR HO270))) (below_size BL))
       have n5_ := KB BK256 hb
       have n6_ := KB BK271 hb
       have n7_ := Aside0.mk (below_step BL hb)
       clear HO262
       clear HO265
       clear HO270
       clear HO274
       clear BK256
       clear BK271
       clear HB
       have HO262 := n0_
       have HO265 := n1_
       have HO270 := n2_
       have HO274 := n3_
       have HO279 := n4_
       have BK256 := n5_
       have BK271 := n6_
       have HB := n7_
       clear n0_ n1_ n2_ n3_ n4_ n5_ n6_ n7_
       (try clear hb)
       (try clear hb2)
       (try clear hk)
       (try clear hi)
       (try clear ho0)
       obtain ⟨Ao72, co72, eo72⟩ := Kd.R_slice HO279.out
       (first | subst eo72 | (injection eo72 with f1_ f2_ f3_; have f4_ := f1_.symm; have f5_ := f3_.symm; clear f1_ f2_ f3_; subst f4_; subst f5_))
       refine hK.out _ _ ⟨(blk_cell BK271.out 0).trans rfl, (blk_cell BK271.out 1).trans rfl, (blk_cell BK256.out 0).trans rfl, (blk_cell BK256.out 1).trans rfl⟩ (fun hHeld => ?_)
       clear hK K
       refine norm_ (a' := ?_) ?_ ?_
       rotate_left
       ·show Act.put _ (some 44) _ = _
        simp only [Act.put, List.setIfInBounds_toArray, List.set_cons_zero, List.set_cons_succ, i64_w, i32_w]
        rfl
       refine one_ (i := 3) (N := some 45) #[true, true, true, true, false] rfl rfl (by kernel_rfl) (by decide) (fun K hK => ?_)
       refine goes_ Try.func49 (by kernel_rfl) rfl #[.agg #[.int .i64 t267, .slice Ao65 t268.length co65], .agg #[.int .i64 t276, .slice Ao72 t277.length co72]] (by rfl) rfl rfl (by (try simp only [List.map_toArray, List.map_cons, List.map_nil]); first | done | rfl | (simp only [List.length_drop, List.length_take]; rfl)) ?_
       with_reducible refine (laws_eqClue.calls k t267 _ _ t268 t276 _ _ t277 true _ ?side1 ?side2 ?side3 ?side4 A45.out).mono ?_
       (case side1 => repeat (first | exact (Kd.R_reads' HO270.out).2.2 | (with_reducible refine Kd.C_alloc ?_ _) | (with_reducible refine Kd.C_drewN ?_ _) | (with_reducible refine Kd.C_drew ?_)))
       (case side2 => exact (Kd.R_reads' HO270.out).2.1)
       (case side3 => repeat (first | exact (Kd.R_reads' HO279.out).2.2 | (with_reducible refine Kd.C_alloc ?_ _) | (with_reducible refine Kd.C_drewN ?_ _) | (with_reducible refine Kd.C_drew ?_)))
       (case side4 => exact (Kd.R_reads' HO279.out).2.1)
       rintro e w73 ⟨rfl, hb⟩
       refine ⟨_, rfl, ?_⟩
       have n0_ := Aside0.mk (Kd.R_below (RR HO262) hb)
       have n1_ := Aside0.mk (Kd.R_below (RR HO265) hb)
       have n2_ := Aside0.mk (Kd.R_below (RR HO270) hb)
       have n3_ := Aside0.mk (Kd.R_below (RR HO274) hb)
       have n4_ := Aside0.mk (Kd.R_below (RR HO279) hb)
       have n5_ := KB BK256 hb
       have n6_ := KB BK271 hb
       have n7_ := Aside0.mk (below_step BL hb)
       clear HO262
       clear HO265
       clear HO270
       clear HO274
       clear HO279
       clear BK256
       clear BK271
       clear HB
       have HO262 := n0_
       have HO265 := n1_
       have HO270 := n2_
       have HO274 := n3_
       have HO279 := n4_
       have BK256 := n5_
       have BK271 := n6_
       have HB := n7_
       clear n0_ n1_ n2_ n3_ n4_ n5_ n6_ n7_
       (try clear hb)
       (try clear hb2)
       (try clear hk)
       (try clear hi)
       refine hK.out _ _ ⟨(blk_cell BK271.out 0).trans rfl, (blk_cell BK271.out 1).trans rfl, (blk_cell BK256.out 0).trans rfl, (blk_cell BK256.out 1).trans rfl⟩ (fun hHeld => ?_)
       clear hK K
       refine norm_ (a' := ?_) ?_ ?_
       rotate_left
       ·show Act.put _ (some 45) _ = _
        simp only [Act.put, List.setIfInBounds_toArray, List.set_cons_zero, List.set_cons_succ, i64_w, i32_w]
        rfl
       refine pure_ (i := 4) (N := some 46) (v := ?_) (a' := ?_) #[true, true, true, true, true] rfl rfl (by kernel_rfl) (fun _ _ _ h => h) (Or.inl ⟨by rfl, ?_⟩) ?_ ?_
       rotate_left
       ·intro w'
        go_simp
        with_reducible rfl
       rotate_left
       ·simp only [Act.put, List.setIfInBounds_toArray, List.set_cons_zero, List.set_cons_succ, i64_w, i32_w]
        rfl
       refine done_ (by kernel_rfl) ?_
       try go_wp2_with (first | ((with_reducible refine gate_callee (f := 20) rfl ?_); refine goesS (some 49) Try.func20 #[.slice A1 l1.length c1] ?_; (with_reducible refine (laws_toMeaningS.calls k _ _ l1 t281 _ ?side1 ?side2 A47.out).mono ?_); (case side1 => exact CB HR1); (case side2 => exact HC1.out); rintro e w74 ⟨v282, rfl, ho0, hb⟩; refine ⟨_, rfl, ?_⟩; have n0_ := Aside0.mk (Kd.R_below (RR HO262) hb); have n1_ := Aside0.mk (Kd.R_elder' (RR HO265) (Kd.R_base ho0) hb); have n2_ := Aside0.mk (Kd.R_below (RR HO270) hb); have n3_ := Aside0.mk (Kd.R_elder' (RR HO274) (Kd.R_base ho0) hb); have n4_ := Aside0.mk (Kd.R_below (RR HO279) hb); have n5_ := Aside0.mk (Kd.R_lower (Kd.R_new' (Kd.R_new' ho0 (Kd.R_lt (RR HO265))) (Kd.R_lt (RR HO274))) (below_size BL)); have n6_ := KB BK256 hb; have n7_ := KB BK271 hb; have n8_ := Aside0.mk (below_step BL hb); clear HO262 HO265 HO270 HO274 HO279 BK256 BK271 HB; have HO262 := n0_; have HO265 := n1_; have HO270 := n2_; have HO274 := n3_; have HO279 := n4_; have HO283 := n5_; have BK256 := n6_; have BK271 := n7_; have HB := n8_; clear n0_ n1_ n2_ n3_ n4_ n5_ n6_ n7_ n8_; (try clear hb); (try clear ho0); obtain ⟨Ao75, co75, eo75⟩ := Kd.R_slice HO283.out; subst eo75) | ((with_reducible refine gate_callee (f := 23) rfl ?_); refine goesS (some 50) Try.func23 #[.slice Ao68 t272.length co68, .slice Ao75 t281.length co75] ?_; (with_reducible refine (laws_eqMeaningS.calls k _ _ t272 _ _ t281 true _ ?side1 ?side2 ?side3 ?side4 A48.out).mono ?_); (case side1 => repeat (first | exact (Kd.R_reads' HO274.out).2.2 | (with_reducible refine Kd.C_alloc ?_ _) | (with_reducible refine Kd.C_drewN ?_ _) | (with_reducible refine Kd.C_drew ?_))); (case side2 => exact (Kd.R_reads' HO274.out).2.1); (case side3 => repeat (first | exact (Kd.R_reads' HO283.out).2.2 | (with_reducible refine Kd.C_alloc ?_ _) | (with_reducible refine Kd.C_drewN ?_ _) | (with_reducible refine Kd.C_drew ?_))); (case side4 => exact (Kd.R_reads' HO283.out).2.1); rintro e w76 ⟨rfl, hb⟩; refine ⟨_, rfl, ?_⟩; have n0_ := Aside0.mk (Kd.R_below (RR HO262) hb); have n1_ := Aside0.mk (Kd.R_below (RR HO265) hb); have n2_ := Aside0.mk (Kd.R_below (RR HO270) hb); have n3_ := Aside0.mk (Kd.R_below (RR HO274) hb); have n4_ := Aside0.mk (Kd.R_below (RR HO279) hb); have n5_ := Aside0.mk (Kd.R_below (RR HO283) hb); have n6_ := KB BK256 hb; have n7_ := KB BK271 hb; have n8_ := Aside0.mk (below_step BL hb); clear HO262 HO265 HO270 HO274 HO279 HO283 BK256 BK271 HB; have HO262 := n0_; have HO265 := n1_; have HO270 := n2_; have HO274 := n3_; have HO279 := n4_; have HO283 := n5_; have BK256 := n6_; have BK271 := n7_; have HB := n8_; clear n0_ n1_ n2_ n3_ n4_ n5_ n6_ n7_ n8_; (try clear hb)))
       go_ret
       exact ⟨by first | rfl | (simp [errW_none, errW_some] <;> rfl) | (simp [*, errW_none, errW_some] <;> rfl), BL⟩
      ·replace c49 := Bool.eq_false_iff.mpr c49
       subst c49
       have H1 : (some false) = some r := by rw [if_neg (show ¬ (false = true) by decide)] at H; exact H
       clear H
       have H := H1
       clear H1
       obtain rfl := Option.some.inj H
       go_enter Try.func10, Try.ntmps10
       try go_wp2_with (first | ((with_reducible refine gate_dst (N := 3) rfl ?_); refine box_ev (N := 3) (cs := #[.int .i64 a0_0, .slice A0_1 l0_1.length c0_1]) (t := 70) ?_; intro gb256 hg w77 hbox hb; have n0_ := Aside0.mk (below_step BL hb); have n1_ := Aside0.mk (hbox); have n2_ := SZ (w := w) hg; have n3_ := SZ (w := w) hg; clear HB; have HB := n0_; have BK256 := n1_; have GW256 := n2_; have GE256 := n3_; clear n0_ n1_ n2_ n3_; clear hb hbox hg; obtain ⟨hcz78_0, hcz78_1, hfz78_0, hfz78_1⟩ := cz2 BK256.out) | ((with_reducible refine gate_callee (f := 45) rfl ?_); refine goesS (some 17) Try.func45 #[.agg #[.int .i64 a0_0, .slice A0_1 l0_1.length c0_1], .int .i64 1048576] ?_; (with_reducible refine (laws_szClue.calls k a0_0 _ _ l0_1 1048576 t257 _ ?side1 ?side2 A6.out).mono ?_); (case side1 => exact CB HR0_1); (case side2 => exact HC0_1.out); rintro e w79 ⟨rfl, hb⟩; refine ⟨_, rfl, ?_⟩; have n0_ := KB BK256 hb; have n1_ := Aside0.mk (below_step BL hb); clear BK256 HB; have BK256 := n0_; have HB := n1_; clear n0_ n1_; (try clear hb)) | ((with_reducible refine gate_callee (f := 17) rfl ?_); refine goesS (some 22) Try.func17 #[.slice A1 l1.length c1, .int .i64 t257] ?_; (with_reducible refine (laws_szMeaningS.calls k _ _ l1 t257 t258 _ ?side1 ?side2 A11.out).mono ?_); (case side1 => exact CB HR1); (case side2 => exact HC1.out); rintro e w80 ⟨rfl, hb⟩; refine ⟨_, rfl, ?_⟩; have n0_ := KB BK256 hb; have n1_ := Aside0.mk (below_step BL hb); clear BK256 HB; have BK256 := n0_; have HB := n1_; clear n0_ n1_; (try clear hb); obtain ⟨hcz81_0, hcz81_1, hfz81_0, hfz81_1⟩ := cz2 BK256.out) | ((with_reducible refine gate_callee (f := 47) rfl ?_); refine goesS (some 26) Try.func47 #[.agg #[.int .i64 a0_0, .slice A0_1 l0_1.length c0_1]] ?_; (with_reducible refine (laws_toClue.calls k a0_0 _ _ l0_1 t259 t260 _ ?side1 ?side2 A17.out).mono ?_); (case side1 => exact CB HR0_1); (case side2 => exact HC0_1.out); rintro e w82 ⟨v261, rfl, ho0, hb⟩; refine ⟨_, rfl, ?_⟩; have n0_ := Aside0.mk (Kd.R_lower ho0 (below_size BL)); have n1_ := KB BK256 hb; have n2_ := Aside0.mk (below_step BL hb); clear BK256 HB; have HO262 := n0_; have BK256 := n1_; have HB := n2_; clear n0_ n1_ n2_; (try clear hb); (try clear ho0)) | ((with_reducible refine gate_callee (f := 20) rfl ?_); refine goesS (some 28) Try.func20 #[.slice A1 l1.length c1] ?_; (with_reducible refine (laws_toMeaningS.calls k _ _ l1 t263 _ ?side1 ?side2 A18.out).mono ?_); (case side1 => exact CB HR1); (case side2 => exact HC1.out); rintro e w83 ⟨v264, rfl, ho0, hb⟩; refine ⟨_, rfl, ?_⟩; have n0_ := Aside0.mk (Kd.R_below (RR HO262) hb); have n1_ := Aside0.mk (Kd.R_lower ho0 (below_size BL)); have n2_ := KB BK256 hb; have n3_ := Aside0.mk (below_step BL hb); clear HO262 BK256 HB; have HO262 := n0_; have HO265 := n1_; have BK256 := n2_; have HB := n3_; clear n0_ n1_ n2_ n3_; (try clear hb); (try clear ho0); obtain ⟨Ao84, co84, eo84⟩ := Kd.R_slice HO262.out; subst eo84; obtain ⟨Ao85, co85, eo85⟩ := Kd.R_slice HO265.out; subst eo85) | ((with_reducible refine gate_callee (f := 46) rfl ?_); refine goesS (some 30) Try.func46 #[.agg #[.int .i64 t259, .slice Ao84 t260.length co84], .slice Ao85 t263.length co85, .string a2] ?_; (with_reducible refine (spec_FitsClue.calls k t259 _ _ t260 _ _ t263 a2 t266 _ ?side1 ?side2 ?side3 ?side4 A19.out).mono ?_); (case side1 => repeat (first | exact (Kd.R_reads' HO262.out).2.2 | (with_reducible refine Kd.C_alloc ?_ _) | (with_reducible refine Kd.C_drewN ?_ _) | (with_reducible refine Kd.C_drew ?_))); (case side2 => exact (Kd.R_reads' HO262.out).2.1); (case side3 => repeat (first | exact (Kd.R_reads' HO265.out).2.2 | (with_reducible refine Kd.C_alloc ?_ _) | (with_reducible refine Kd.C_drewN ?_ _) | (with_reducible refine Kd.C_drew ?_))); (case side4 => exact (Kd.R_reads' HO265.out).2.1); rintro e w86 ⟨rfl, hb⟩; refine ⟨_, rfl, ?_⟩; have n0_ := Aside0.mk (Kd.R_below (RR HO262) hb); have n1_ := Aside0.mk (Kd.R_below (RR HO265) hb); have n2_ := KB BK256 hb; have n3_ := Aside0.mk (below_step BL hb); clear HO262 HO265 BK256 HB; have HO262 := n0_; have HO265 := n1_; have BK256 := n2_; have HB := n3_; clear n0_ n1_ n2_ n3_; (try clear hb); obtain ⟨hcz87_0, hcz87_1, hfz87_0, hfz87_1⟩ := cz2 BK256.out) | ((with_reducible refine gate_callee (f := 47) rfl ?_); refine goesS (some 32) Try.func47 #[.agg #[.int .i64 a0_0, .slice A0_1 l0_1.length c0_1]] ?_; (with_reducible refine (laws_toClue.calls k a0_0 _ _ l0_1 t267 t268 _ ?side1 ?side2 A20.out).mono ?_); (case side1 => exact CB HR0_1); (case side2 => exact HC0_1.out); rintro e w88 ⟨v269, rfl, ho0, hb⟩; refine ⟨_, rfl, ?_⟩; have n0_ := Aside0.mk (Kd.R_elder' (RR HO262) (Kd.R_base ho0) hb); have n1_ := Aside0.mk (Kd.R_below (RR HO265) hb); have n2_ := Aside0.mk (Kd.R_lower (Kd.R_new' ho0 (Kd.R_lt (RR HO262))) (below_size BL)); have n3_ := KB BK256 hb; have n4_ := Aside0.mk (below_step BL hb); clear HO262 HO265 BK256 HB; have HO262 := n0_; have HO265 := n1_; have HO270 := n2_; have BK256 := n3_; have HB := n4_; clear n0_ n1_ n2_ n3_ n4_; (try clear hb); (try clear ho0)) | ((with_reducible refine gate_dst (N := 9) rfl ?_); refine box_ev (N := 9) (cs := #[.int .i64 0, .slice none 0 0]) (t := 74) ?_; intro gb271 hg w89 hbox hb; have n0_ := Aside0.mk (Kd.R_below (RR HO262) hb); have n1_ := Aside0.mk (Kd.R_below (RR HO265) hb); have n2_ := Aside0.mk (Kd.R_below (RR HO270) hb); have n3_ := KB BK256 hb; have n4_ := Aside0.mk (below_step BL hb); have n5_ := Aside0.mk (hbox); have n6_ := SZ (w := w) hg; have n7_ := SZ (w := w) hg; have n8_ := NL BK256 hg; have n9_ := NG BK256 hg; clear HO262 HO265 HO270 BK256 HB; have HO262 := n0_; have HO265 := n1_; have HO270 := n2_; have BK256 := n3_; have HB := n4_; have BK271 := n5_; have GW271 := n6_; have GE271 := n7_; have NB256_271 := n8_; have NB271_256 := n9_; clear n0_ n1_ n2_ n3_ n4_ n5_ n6_ n7_ n8_ n9_; clear hb hbox hg; have hnb90 := NB271_256.out; have hnc90 := NB256_271.out; obtain ⟨hcz91_0, hcz91_1, hfz91_0, hfz91_1⟩ := cz2 BK271.out; obtain ⟨Ao92, co92, eo92⟩ := Kd.R_slice HO270.out; subst eo92) | ((with_reducible refine gate_callee (f := 20) rfl ?_); refine goesS (some 34) Try.func20 #[.slice A1 l1.length c1] ?_; (with_reducible refine (laws_toMeaningS.calls k _ _ l1 t272 _ ?side1 ?side2 A21.out).mono ?_); (case side1 => exact Kd.C_below HR1.out BL); (case side2 => exact HC1.out); rintro e w93 ⟨v273, rfl, ho0, hb⟩; refine ⟨_, rfl, ?_⟩; have n0_ := Aside0.mk (Kd.R_below (by (with_reducible repeat (first | apply Kd.R_alloc | apply Kd.R_drewN | apply Kd.R_drew)); exact (Kd.R_mono (Kd.R_far (p := ⟨gb271, 1, none⟩) (Kd.R_far (p := ⟨gb271, 0, none⟩) (Kd.R_types HO262.out BK271.out (by decide)) (fun _ hk => hk.2) (.int .i64 t267)) (fun _ hk => hk.2) (.slice Ao92 t268.length co92)) (fun _ h_ => h_.1))) hb); have n1_ := Aside0.mk (Kd.R_elder' (by (with_reducible repeat (first | apply Kd.R_alloc | apply Kd.R_drewN | apply Kd.R_drew)); exact (Kd.R_mono (Kd.R_far (p := ⟨gb271, 1, none⟩) (Kd.R_far (p := ⟨gb271, 0, none⟩) (Kd.R_types HO265.out BK271.out (by decide)) (fun _ hk => hk.2) (.int .i64 t267)) (fun _ hk => hk.2) (.slice Ao92 t268.length co92)) (fun _ h_ => h_.1))) (Kd.R_base ho0) hb); have n2_ := Aside0.mk (Kd.R_below (by (with_reducible repeat (first | apply Kd.R_alloc | apply Kd.R_drewN | apply Kd.R_drew)); exact (Kd.R_mono (Kd.R_far (p := ⟨gb271, 1, none⟩) (Kd.R_far (p := ⟨gb271, 0, none⟩) (Kd.R_types HO270.out BK271.out (by decide)) (fun _ hk => hk.2) (.int .i64 t267)) (fun _ hk => hk.2) (.slice Ao92 t268.length co92)) (fun _ h_ => h_.1))) hb); have n3_ := Aside0.mk (Kd.R_lower (Kd.R_new' ho0 (Kd.R_lt (by (with_reducible repeat (first | apply Kd.R_alloc | apply Kd.R_drewN | apply Kd.R_drew)); exact (Kd.R_mono (Kd.R_far (p := ⟨gb271, 1, none⟩) (Kd.R_far (p := ⟨gb271, 0, none⟩) (Kd.R_types HO265.out BK271.out (by decide)) (fun _ hk => hk.2) (.int .i64 t267)) (fun _ hk => hk.2) (.slice Ao92 t268.length co92)) (fun _ h_ => h_.1))))) (below_size BL)); have n4_ := Aside0.mk (blk_below (g := gb256) (o := .cells #[.int .i64 a0_0, .slice A0_1 l0_1.length c0_1] 70 (0, 0)) (by (with_reducible repeat (first | refine blk_drewN ?_ _ | refine blk_drew ?_ | refine blk_alloc ?_ _)); refine blk_far ?_ NB256_271.out _; (with_reducible repeat (first | refine blk_drewN ?_ _ | refine blk_drew ?_ | refine blk_alloc ?_ _)); refine blk_far ?_ NB256_271.out _; (with_reducible repeat (first | refine blk_drewN ?_ _ | refine blk_drew ?_ | refine blk_alloc ?_ _)); exact BK256.out) hb); have n5_ := Aside0.mk (blk_below (g := gb271) (o := .cells #[.int .i64 t267, .slice Ao92 t268.length co92] 74 (0, 0)) (by (with_reducible repeat (first | refine blk_drewN ?_ _ | refine blk_drew ?_ | refine blk_alloc ?_ _)); refine blk_put (cs := #[.int .i64 t267, .slice none 0 0]) ?_ 1 _ rfl; (with_reducible repeat (first | refine blk_drewN ?_ _ | refine blk_drew ?_ | refine blk_alloc ?_ _)); refine blk_put (cs := #[.int .i64 0, .slice none 0 0]) ?_ 0 _ rfl; (with_reducible repeat (first | refine blk_drewN ?_ _ | refine blk_drew ?_ | refine blk_alloc ?_ _)); exact BK271.out) hb); have n6_ := Aside0.mk (below_step BL hb); clear HO262 HO265 HO270 BK256 BK271 HB; have HO262 := n0_; have HO265 := n1_; have HO270 := n2_; have HO274 := n3_; have BK256 := n4_; have BK271 := n5_; have HB := n6_; clear n0_ n1_ n2_ n3_ n4_ n5_ n6_; (try clear hb); (try clear hk); (try clear ho0); obtain ⟨hcz94_0, hcz94_1, hfz94_0, hfz94_1⟩ := cz2 BK271.out; obtain ⟨Ao95, co95, eo95⟩ := Kd.R_slice HO274.out; subst eo95) | ((with_reducible refine gate_callee (f := 48) rfl ?_); refine goesS (some 38) Try.func48 #[.agg #[.int .i64 t267, .slice Ao92 t268.length co92], .slice Ao95 t272.length co95, .string a2] ?_; (with_reducible refine (impl_FitsClue.calls k t267 _ _ t268 _ _ t272 a2 t275 _ ?side1 ?side2 ?side3 ?side4 A22.out).mono ?_); (case side1 => repeat (first | exact (Kd.R_reads' HO270.out).2.2 | (with_reducible refine Kd.C_alloc ?_ _) | (with_reducible refine Kd.C_drewN ?_ _) | (with_reducible refine Kd.C_drew ?_))); (case side2 => exact (Kd.R_reads' HO270.out).2.1); (case side3 => repeat (first | exact (Kd.R_reads' HO274.out).2.2 | (with_reducible refine Kd.C_alloc ?_ _) | (with_reducible refine Kd.C_drewN ?_ _) | (with_reducible refine Kd.C_drew ?_))); (case side4 => exact (Kd.R_reads' HO274.out).2.1); rintro e w96 ⟨rfl, hb⟩; refine ⟨_, rfl, ?_⟩; have n0_ := Aside0.mk (Kd.R_below (RR HO262) hb); have n1_ := Aside0.mk (Kd.R_below (RR HO265) hb); have n2_ := Aside0.mk (Kd.R_below (RR HO270) hb); have n3_ := Aside0.mk (Kd.R_below (RR HO274) hb); have n4_ := KB BK256 hb; have n5_ := KB BK271 hb; have n6_ := Aside0.mk (below_step BL hb); clear HO262 HO265 HO270 HO274 BK256 BK271 HB; have HO262 := n0_; have HO265 := n1_; have HO270 := n2_; have HO274 := n3_; have BK256 := n4_; have BK271 := n5_; have HB := n6_; clear n0_ n1_ n2_ n3_ n4_ n5_ n6_; (try clear hb)))
       have n0_ := Aside0.mk (Kd.R_drew HO262.out)
       have n1_ := Aside0.mk (Kd.R_drew HO265.out)
       have n2_ := Aside0.mk (Kd.R_drew HO270.out)
       have n3_ := Aside0.mk (Kd.R_drew HO274.out)
       have n4_ := Aside0.mk (blk_drew BK256.out)
       have n5_ := Aside0.mk (blk_drew BK271.out)
       have n6_ := Aside0.mk (below_drew1 HB.out)
       clear HO262
       clear HO265
       clear HO270
       clear HO274
       clear BK256
       clear BK271
       clear HB
       have HO262 := n0_
       have HO265 := n1_
       have HO270 := n2_
       have HO274 := n3_
       have BK256 := n4_
       have BK271 := n5_
       have HB := n6_
       clear n0_ n1_ n2_ n3_ n4_ n5_ n6_
       refine start_ (n := 5) (S := fun w' => w'.cell? ⟨gb271, 0, none⟩ = some (.int .i64 t267) ∧ w'.cell? ⟨gb271, 1, none⟩ = some (.slice Ao92 t268.length co92) ∧ w'.cell? ⟨gb256, 0, none⟩ = some (.int .i64 a0_0) ∧ w'.cell? ⟨gb256, 1, none⟩ = some (.slice A0_1 l0_1.length c0_1)) (ds := []) #[false, false, false, false, false] (by kernel_rfl) rfl rfl ⟨(blk_cell BK271.out 0).trans rfl, (blk_cell BK271.out 1).trans rfl, (blk_cell BK256.out 0).trans rfl, (blk_cell BK256.out 1).trans rfl⟩ (fun hHeld => ?_)
       generalize w96.drew = w97 at HO262 HO265 HO270 HO274 BK256 BK271 HB hHeld ⊢
       refine take_ (i := 0) (N := some 42) (v := ?_) (a' := ?_) #[true, false, false, false, false] rfl rfl (by kernel_rfl) (fun _ _ _ h => h) (Or.inl ⟨by rfl, ?_⟩) hHeld ?_ ?_
       rotate_left
       ·rintro w' ⟨s0, s1, s2, s3⟩
        go_simp
        with_reducible rfl
       rotate_left
       ·simp only [Act.put, List.setIfInBounds_toArray, List.set_cons_zero, List.set_cons_succ, i64_w, i32_w]
        rfl
       refine take_ (i := 1) (N := some 43) (v := ?_) (a' := ?_) #[true, true, false, false, false] rfl rfl (by kernel_rfl) (fun _ _ _ h => h) (Or.inl ⟨by rfl, ?_⟩) hHeld ?_ ?_
       rotate_left
       ·rintro w' ⟨s0, s1, s2, s3⟩
        go_simp
        with_reducible rfl
       rotate_left
       ·simp only [Act.put, List.setIfInBounds_toArray, List.set_cons_zero, List.set_cons_succ, i64_w, i32_w]
        rfl
       refine one_ (i := 2) (N := some 44) #[true, true, true, false, false] rfl rfl (by kernel_rfl) (by decide) (fun K hK => ?_)
       refine goes_ Try.func47 (by kernel_rfl) rfl #[.agg #[.int .i64 a0_0, .slice A0_1 l0_1.length c0_1]] (by rfl) rfl rfl (by (try simp only [List.map_toArray, List.map_cons, List.map_nil]); first | done | rfl | (simp only [List.length_drop, List.length_take]; rfl)) ?_
       with_reducible refine (laws_toClue.calls k a0_0 _ _ l0_1 t276 t277 _ ?side1 ?side2 A44.out).mono ?_
       (case side1 => exact CB HR0_1)
       (case side2 => exact HC0_1.out)
       rintro e w98 ⟨v278, rfl, ho0, hb⟩
       refine ⟨_, rfl, ?_⟩
       have n0_ := Aside0.mk (Kd.R_elder' (RR HO262) (Kd.R_base ho0) hb)
       have n1_ := Aside0.mk (Kd.R_below (RR HO265) hb)
       have n2_ := Aside0.mk (Kd.R_elder' (RR HO270) (Kd.R_base ho0) hb)
       have n3_ := Aside0.mk (Kd.R_below (RR HO274) hb)
       have n4_ := Aside0.mk (Kd.R_lower (Kd.R_new' (Kd.R_new' ho0 (Kd.R_lt (RR HO262))) (Kd.R_lt (RR HO270))) (below_size BL))
       have n5_ := KB BK256 hb
       have n6_ := KB BK271 hb
       have n7_ := Aside0.mk (below_step BL hb)
       clear HO262
       clear HO265
       clear HO270
       clear HO274
       clear BK256
       clear BK271
       clear HB
       have HO262 := n0_
       have HO265 := n1_
       have HO270 := n2_
       have HO274 := n3_
       have HO279 := n4_
       have BK256 := n5_
       have BK271 := n6_
       have HB := n7_
       clear n0_ n1_ n2_ n3_ n4_ n5_ n6_ n7_
       (try clear hb)
       (try clear hb2)
       (try clear hk)
       (try clear hi)
       (try clear ho0)
       obtain ⟨Ao99, co99, eo99⟩ := Kd.R_slice HO279.out
       (first | subst eo99 | (injection eo99 with f1_ f2_ f3_; have f4_ := f1_.symm; have f5_ := f3_.symm; clear f1_ f2_ f3_; subst f4_; subst f5_))
       refine hK.out _ _ ⟨(blk_cell BK271.out 0).trans rfl, (blk_cell BK271.out 1).trans rfl, (blk_cell BK256.out 0).trans rfl, (blk_cell BK256.out 1).trans rfl⟩ (fun hHeld => ?_)
       clear hK K
       refine norm_ (a' := ?_) ?_ ?_
       rotate_left
       ·show Act.put _ (some 44) _ = _
        simp only [Act.put, List.setIfInBounds_toArray, List.set_cons_zero, List.set_cons_succ, i64_w, i32_w]
        rfl
       refine one_ (i := 3) (N := some 45) #[true, true, true, true, false] rfl rfl (by kernel_rfl) (by decide) (fun K hK => ?_)
       refine goes_ Try.func49 (by kernel_rfl) rfl #[.agg #[.int .i64 t267, .slice Ao92 t268.length co92], .agg #[.int .i64 t276, .slice Ao99 t277.length co99]] (by rfl) rfl rfl (by (try simp only [List.map_toArray, List.map_cons, List.map_nil]); first | done | rfl | (simp only [List.length_drop, List.length_take]; rfl)) ?_
       with_reducible refine (laws_eqClue.calls k t267 _ _ t268 t276 _ _ t277 true _ ?side1 ?side2 ?side3 ?side4 A45.out).mono ?_
       (case side1 => repeat (first | exact (Kd.R_reads' HO270.out).2.2 | (with_reducible refine Kd.C_alloc ?_ _) | (with_reducible refine Kd.C_drewN ?_ _) | (with_reducible refine Kd.C_drew ?_)))
       (case side2 => exact (Kd.R_reads' HO270.out).2.1)
       (case side3 => repeat (first | exact (Kd.R_reads' HO279.out).2.2 | (with_reducible refine Kd.C_alloc ?_ _) | (with_reducible refine Kd.C_drewN ?_ _) | (with_reducible refine Kd.C_drew ?_)))
       (case side4 => exact (Kd.R_reads' HO279.out).2.1)
       rintro e w100 ⟨rfl, hb⟩
       refine ⟨_, rfl, ?_⟩
       have n0_ := Aside0.mk (Kd.R_below (RR HO262) hb)
       have n1_ := Aside0.mk (Kd.R_below (RR HO265) hb)
       have n2_ := Aside0.mk (Kd.R_below (RR HO270) hb)
       have n3_ := Aside0.mk (Kd.R_below (RR HO274) hb)
       have n4_ := Aside0.mk (Kd.R_below (RR HO279) hb)
       have n5_ := KB BK256 hb
       have n6_ := KB BK271 hb
       have n7_ := Aside0.mk (below_step BL hb)
       clear HO262
       clear HO265
       clear HO270
       clear HO274
       clear HO279
       clear BK256
       clear BK271
       clear HB
       have HO262 := n0_
       have HO265 := n1_
       have HO270 := n2_
       have HO274 := n3_
       have HO279 := n4_
       have BK256 := n5_
       have BK271 := n6_
       have HB := n7_
       clear n0_ n1_ n2_ n3_ n4_ n5_ n6_ n7_
       (try clear hb)
       (try clear hb2)
       (try clear hk)
       (try clear hi)
       refine hK.out _ _ ⟨(blk_cell BK271.out 0).trans rfl, (blk_cell BK271.out 1).trans rfl, (blk_cell BK256.out 0).trans rfl, (blk_cell BK256.out 1).trans rfl⟩ (fun hHeld => ?_)
       clear hK K
       refine norm_ (a' := ?_) ?_ ?_
       rotate_left
       ·show Act.put _ (some 45) _ = _
        simp only [Act.put, List.setIfInBounds_toArray, List.set_cons_zero, List.set_cons_succ, i64_w, i32_w]
        rfl
       refine pure_ (i := 4) (N := some 46) (v := ?_) (a' := ?_) #[true, true, true, true, true] rfl rfl (by kernel_rfl) (fun _ _ _ h => h) (Or.inl ⟨by rfl, ?_⟩) ?_ ?_
       rotate_left
       ·intro w'
        go_simp
        with_reducible rfl
       rotate_left
       ·simp only [Act.put, List.setIfInBounds_toArray, List.set_cons_zero, List.set_cons_succ, i64_w, i32_w]
        rfl
       refine done_ (by kernel_rfl) ?_
       try go_wp2_with (first | ((with_reducible refine gate_callee (f := 20) rfl ?_); refine goesS (some 49) Try.func20 #[.slice A1 l1.length c1] ?_; (with_reducible refine (laws_toMeaningS.calls k _ _ l1 t281 _ ?side1 ?side2 A47.out).mono ?_); (case side1 => exact CB HR1); (case side2 => exact HC1.out); rintro e w101 ⟨v282, rfl, ho0, hb⟩; refine ⟨_, rfl, ?_⟩; have n0_ := Aside0.mk (Kd.R_below (RR HO262) hb); have n1_ := Aside0.mk (Kd.R_elder' (RR HO265) (Kd.R_base ho0) hb); have n2_ := Aside0.mk (Kd.R_below (RR HO270) hb); have n3_ := Aside0.mk (Kd.R_elder' (RR HO274) (Kd.R_base ho0) hb); have n4_ := Aside0.mk (Kd.R_below (RR HO279) hb); have n5_ := Aside0.mk (Kd.R_lower (Kd.R_new' (Kd.R_new' ho0 (Kd.R_lt (RR HO265))) (Kd.R_lt (RR HO274))) (below_size BL)); have n6_ := KB BK256 hb; have n7_ := KB BK271 hb; have n8_ := Aside0.mk (below_step BL hb); clear HO262 HO265 HO270 HO274 HO279 BK256 BK271 HB; have HO262 := n0_; have HO265 := n1_; have HO270 := n2_; have HO274 := n3_; have HO279 := n4_; have HO283 := n5_; have BK256 := n6_; have BK271 := n7_; have HB := n8_; clear n0_ n1_ n2_ n3_ n4_ n5_ n6_ n7_ n8_; (try clear hb); (try clear ho0); obtain ⟨Ao102, co102, eo102⟩ := Kd.R_slice HO283.out; subst eo102) | ((with_reducible refine gate_callee (f := 23) rfl ?_); refine goesS (some 50) Try.func23 #[.slice Ao95 t272.length co95, .slice Ao102 t281.length co102] ?_; (with_reducible refine (laws_eqMeaningS.calls k _ _ t272 _ _ t281 false _ ?side1 ?side2 ?side3 ?side4 A48.out).mono ?_); (case side1 => repeat (first | exact (Kd.R_reads' HO274.out).2.2 | (with_reducible refine Kd.C_alloc ?_ _) | (with_reducible refine Kd.C_drewN ?_ _) | (with_reducible refine Kd.C_drew ?_))); (case side2 => exact (Kd.R_reads' HO274.out).2.1); (case side3 => repeat (first | exact (Kd.R_reads' HO283.out).2.2 | (with_reducible refine Kd.C_alloc ?_ _) | (with_reducible refine Kd.C_drewN ?_ _) | (with_reducible refine Kd.C_drew ?_))); (case side4 => exact (Kd.R_reads' HO283.out).2.1); rintro e w103 ⟨rfl, hb⟩; refine ⟨_, rfl, ?_⟩; have n0_ := Aside0.mk (Kd.R_below (RR HO262) hb); have n1_ := Aside0.mk (Kd.R_below (RR HO265) hb); have n2_ := Aside0.mk (Kd.R_below (RR HO270) hb); have n3_ := Aside0.mk (Kd.R_below (RR HO274) hb); have n4_ := Aside0.mk (Kd.R_below (RR HO279) hb); have n5_ := Aside0.mk (Kd.R_below (RR HO283) hb); have n6_ := KB BK256 hb; have n7_ := KB BK271 hb; have n8_ := Aside0.mk (below_step BL hb); clear HO262 HO265 HO270 HO274 HO279 HO283 BK256 BK271 HB; have HO262 := n0_; have HO265 := n1_; have HO270 := n2_; have HO274 := n3_; have HO279 := n4_; have HO283 := n5_; have BK256 := n6_; have BK271 := n7_; have HB := n8_; clear n0_ n1_ n2_ n3_ n4_ n5_ n6_ n7_ n8_; (try clear hb)))
       go_ret
       exact ⟨by first | rfl | (simp [errW_none, errW_some] <;> rfl) | (simp [*, errW_none, errW_some] <;> rfl), BL⟩
     ·replace c46 := Bool.eq_false_iff.mpr c46
      subst c46
      have H1 : (some false) = some r := by rw [if_neg (show ¬ (false = true) by decide)] at H; exact H
      clear H
      have H := H1
      clear H1
      obtain rfl := Option.some.inj H
      go_enter Try.func10, Try.ntmps10
      try go_wp2_with (first | ((with_reducible refine gate_dst (N := 3) rfl ?_); refine box_ev (N := 3) (cs := #[.int .i64 a0_0, .slice A0_1 l0_1.length c0_1]) (t := 70) ?_; intro gb256 hg w104 hbox hb; have n0_ := Aside0.mk (below_step BL hb); have n1_ := Aside0.mk (hbox); have n2_ := SZ (w := w) hg; have n3_ := SZ (w := w) hg; clear HB; have HB := n0_; have BK256 := n1_; have GW256 := n2_; have GE256 := n3_; clear n0_ n1_ n2_ n3_; clear hb hbox hg; obtain ⟨hcz105_0, hcz105_1, hfz105_0, hfz105_1⟩ := cz2 BK256.out) | ((with_reducible refine gate_callee (f := 45) rfl ?_); refine goesS (some 17) Try.func45 #[.agg #[.int .i64 a0_0, .slice A0_1 l0_1.length c0_1], .int .i64 1048576] ?_; (with_reducible refine (laws_szClue.calls k a0_0 _ _ l0_1 1048576 t257 _ ?side1 ?side2 A6.out).mono ?_); (case side1 => exact CB HR0_1); (case side2 => exact HC0_1.out); rintro e w106 ⟨rfl, hb⟩; refine ⟨_, rfl, ?_⟩; have n0_ := KB BK256 hb; have n1_ := Aside0.mk (below_step BL hb); clear BK256 HB; have BK256 := n0_; have HB := n1_; clear n0_ n1_; (try clear hb)) | ((with_reducible refine gate_callee (f := 17) rfl ?_); refine goesS (some 22) Try.func17 #[.slice A1 l1.length c1, .int .i64 t257] ?_; (with_reducible refine (laws_szMeaningS.calls k _ _ l1 t257 t258 _ ?side1 ?side2 A11.out).mono ?_); (case side1 => exact CB HR1); (case side2 => exact HC1.out); rintro e w107 ⟨rfl, hb⟩; refine ⟨_, rfl, ?_⟩; have n0_ := KB BK256 hb; have n1_ := Aside0.mk (below_step BL hb); clear BK256 HB; have BK256 := n0_; have HB := n1_; clear n0_ n1_; (try clear hb); obtain ⟨hcz108_0, hcz108_1, hfz108_0, hfz108_1⟩ := cz2 BK256.out) | ((with_reducible refine gate_callee (f := 47) rfl ?_); refine goesS (some 26) Try.func47 #[.agg #[.int .i64 a0_0, .slice A0_1 l0_1.length c0_1]] ?_; (with_reducible refine (laws_toClue.calls k a0_0 _ _ l0_1 t259 t260 _ ?side1 ?side2 A17.out).mono ?_); (case side1 => exact CB HR0_1); (case side2 => exact HC0_1.out); rintro e w109 ⟨v261, rfl, ho0, hb⟩; refine ⟨_, rfl, ?_⟩; have n0_ := Aside0.mk (Kd.R_lower ho0 (below_size BL)); have n1_ := KB BK256 hb; have n2_ := Aside0.mk (below_step BL hb); clear BK256 HB; have HO262 := n0_; have BK256 := n1_; have HB := n2_; clear n0_ n1_ n2_; (try clear hb); (try clear ho0)) | ((with_reducible refine gate_callee (f := 20) rfl ?_); refine goesS (some 28) Try.func20 #[.slice A1 l1.length c1] ?_; (with_reducible refine (laws_toMeaningS.calls k _ _ l1 t263 _ ?side1 ?side2 A18.out).mono ?_); (case side1 => exact CB HR1); (case side2 => exact HC1.out); rintro e w110 ⟨v264, rfl, ho0, hb⟩; refine ⟨_, rfl, ?_⟩; have n0_ := Aside0.mk (Kd.R_below (RR HO262) hb); have n1_ := Aside0.mk (Kd.R_lower ho0 (below_size BL)); have n2_ := KB BK256 hb; have n3_ := Aside0.mk (below_step BL hb); clear HO262 BK256 HB; have HO262 := n0_; have HO265 := n1_; have BK256 := n2_; have HB := n3_; clear n0_ n1_ n2_ n3_; (try clear hb); (try clear ho0); obtain ⟨Ao111, co111, eo111⟩ := Kd.R_slice HO262.out; subst eo111; obtain ⟨Ao112, co112, eo112⟩ := Kd.R_slice HO265.out; subst eo112) | ((with_reducible refine gate_callee (f := 46) rfl ?_); refine goesS (some 30) Try.func46 #[.agg #[.int .i64 t259, .slice Ao111 t260.length co111], .slice Ao112 t263.length co112, .string a2] ?_; (with_reducible refine (spec_FitsClue.calls k t259 _ _ t260 _ _ t263 a2 t266 _ ?side1 ?side2 ?side3 ?side4 A19.out).mono ?_); (case side1 => repeat (first | exact (Kd.R_reads' HO262.out).2.2 | (with_reducible refine Kd.C_alloc ?_ _) | (with_reducible refine Kd.C_drewN ?_ _) | (with_reducible refine Kd.C_drew ?_))); (case side2 => exact (Kd.R_reads' HO262.out).2.1); (case side3 => repeat (first | exact (Kd.R_reads' HO265.out).2.2 | (with_reducible refine Kd.C_alloc ?_ _) | (with_reducible refine Kd.C_drewN ?_ _) | (with_reducible refine Kd.C_drew ?_))); (case side4 => exact (Kd.R_reads' HO265.out).2.1); rintro e w113 ⟨rfl, hb⟩; refine ⟨_, rfl, ?_⟩; have n0_ := Aside0.mk (Kd.R_below (RR HO262) hb); have n1_ := Aside0.mk (Kd.R_below (RR HO265) hb); have n2_ := KB BK256 hb; have n3_ := Aside0.mk (below_step BL hb); clear HO262 HO265 BK256 HB; have HO262 := n0_; have HO265 := n1_; have BK256 := n2_; have HB := n3_; clear n0_ n1_ n2_ n3_; (try clear hb); obtain ⟨hcz114_0, hcz114_1, hfz114_0, hfz114_1⟩ := cz2 BK256.out) | ((with_reducible refine gate_callee (f := 47) rfl ?_); refine goesS (some 32) Try.func47 #[.agg #[.int .i64 a0_0, .slice A0_1 l0_1.length c0_1]] ?_; (with_reducible refine (laws_toClue.calls k a0_0 _ _ l0_1 t267 t268 _ ?side1 ?side2 A20.out).mono ?_); (case side1 => exact CB HR0_1); (case side2 => exact HC0_1.out); rintro e w115 ⟨v269, rfl, ho0, hb⟩; refine ⟨_, rfl, ?_⟩; have n0_ := Aside0.mk (Kd.R_elder' (RR HO262) (Kd.R_base ho0) hb); have n1_ := Aside0.mk (Kd.R_below (RR HO265) hb); have n2_ := Aside0.mk (Kd.R_lower (Kd.R_new' ho0 (Kd.R_lt (RR HO262))) (below_size BL)); have n3_ := KB BK256 hb; have n4_ := Aside0.mk (below_step BL hb); clear HO262 HO265 BK256 HB; have HO262 := n0_; have HO265 := n1_; have HO270 := n2_; have BK256 := n3_; have HB := n4_; clear n0_ n1_ n2_ n3_ n4_; (try clear hb); (try clear ho0)) | ((with_reducible refine gate_dst (N := 9) rfl ?_); refine box_ev (N := 9) (cs := #[.int .i64 0, .slice none 0 0]) (t := 74) ?_; intro gb271 hg w116 hbox hb; have n0_ := Aside0.mk (Kd.R_below (RR HO262) hb); have n1_ := Aside0.mk (Kd.R_below (RR HO265) hb); have n2_ := Aside0.mk (Kd.R_below (RR HO270) hb); have n3_ := KB BK256 hb; have n4_ := Aside0.mk (below_step BL hb); have n5_ := Aside0.mk (hbox); have n6_ := SZ (w := w) hg; have n7_ := SZ (w := w) hg; have n8_ := NL BK256 hg; have n9_ := NG BK256 hg; clear HO262 HO265 HO270 BK256 HB; have HO262 := n0_; have HO265 := n1_; have HO270 := n2_; have BK256 := n3_; have HB := n4_; have BK271 := n5_; have GW271 := n6_; have GE271 := n7_; have NB256_271 := n8_; have NB271_256 := n9_; clear n0_ n1_ n2_ n3_ n4_ n5_ n6_ n7_ n8_ n9_; clear hb hbox hg; have hnb117 := NB271_256.out; have hnc117 := NB256_271.out; obtain ⟨hcz118_0, hcz118_1, hfz118_0, hfz118_1⟩ := cz2 BK271.out; obtain ⟨Ao119, co119, eo119⟩ := Kd.R_slice HO270.out; subst eo119) | ((with_reducible refine gate_callee (f := 20) rfl ?_); refine goesS (some 34) Try.func20 #[.slice A1 l1.length c1] ?_; (with_reducible refine (laws_toMeaningS.calls k _ _ l1 t272 _ ?side1 ?side2 A21.out).mono ?_); (case side1 => exact Kd.C_below HR1.out BL); (case side2 => exact HC1.out); rintro e w120 ⟨v273, rfl, ho0, hb⟩; refine ⟨_, rfl, ?_⟩; have n0_ := Aside0.mk (Kd.R_below (by (with_reducible repeat (first | apply Kd.R_alloc | apply Kd.R_drewN | apply Kd.R_drew)); exact (Kd.R_mono (Kd.R_far (p := ⟨gb271, 1, none⟩) (Kd.R_far (p := ⟨gb271, 0, none⟩) (Kd.R_types HO262.out BK271.out (by decide)) (fun _ hk => hk.2) (.int .i64 t267)) (fun _ hk => hk.2) (.slice Ao119 t268.length co119)) (fun _ h_ => h_.1))) hb); have n1_ := Aside0.mk (Kd.R_elder' (by (with_reducible repeat (first | apply Kd.R_alloc | apply Kd.R_drewN | apply Kd.R_drew)); exact (Kd.R_mono (Kd.R_far (p := ⟨gb271, 1, none⟩) (Kd.R_far (p := ⟨gb271, 0, none⟩) (Kd.R_types HO265.out BK271.out (by decide)) (fun _ hk => hk.2) (.int .i64 t267)) (fun _ hk => hk.2) (.slice Ao119 t268.length co119)) (fun _ h_ => h_.1))) (Kd.R_base ho0) hb); have n2_ := Aside0.mk (Kd.R_below (by (with_reducible repeat (first | apply Kd.R_alloc | apply Kd.R_drewN | apply Kd.R_drew)); exact (Kd.R_mono (Kd.R_far (p := ⟨gb271, 1, none⟩) (Kd.R_far (p := ⟨gb271, 0, none⟩) (Kd.R_types HO270.out BK271.out (by decide)) (fun _ hk => hk.2) (.int .i64 t267)) (fun _ hk => hk.2) (.slice Ao119 t268.length co119)) (fun _ h_ => h_.1))) hb); have n3_ := Aside0.mk (Kd.R_lower (Kd.R_new' ho0 (Kd.R_lt (by (with_reducible repeat (first | apply Kd.R_alloc | apply Kd.R_drewN | apply Kd.R_drew)); exact (Kd.R_mono (Kd.R_far (p := ⟨gb271, 1, none⟩) (Kd.R_far (p := ⟨gb271, 0, none⟩) (Kd.R_types HO265.out BK271.out (by decide)) (fun _ hk => hk.2) (.int .i64 t267)) (fun _ hk => hk.2) (.slice Ao119 t268.length co119)) (fun _ h_ => h_.1))))) (below_size BL)); have n4_ := Aside0.mk (blk_below (g := gb256) (o := .cells #[.int .i64 a0_0, .slice A0_1 l0_1.length c0_1] 70 (0, 0)) (by (with_reducible repeat (first | refine blk_drewN ?_ _ | refine blk_drew ?_ | refine blk_alloc ?_ _)); refine blk_far ?_ NB256_271.out _; (with_reducible repeat (first | refine blk_drewN ?_ _ | refine blk_drew ?_ | refine blk_alloc ?_ _)); refine blk_far ?_ NB256_271.out _; (with_reducible repeat (first | refine blk_drewN ?_ _ | refine blk_drew ?_ | refine blk_alloc ?_ _)); exact BK256.out) hb); have n5_ := Aside0.mk (blk_below (g := gb271) (o := .cells #[.int .i64 t267, .slice Ao119 t268.length co119] 74 (0, 0)) (by (with_reducible repeat (first | refine blk_drewN ?_ _ | refine blk_drew ?_ | refine blk_alloc ?_ _)); refine blk_put (cs := #[.int .i64 t267, .slice none 0 0]) ?_ 1 _ rfl; (with_reducible repeat (first | refine blk_drewN ?_ _ | refine blk_drew ?_ | refine blk_alloc ?_ _)); refine blk_put (cs := #[.int .i64 0, .slice none 0 0]) ?_ 0 _ rfl; (with_reducible repeat (first | refine blk_drewN ?_ _ | refine blk_drew ?_ | refine blk_alloc ?_ _)); exact BK271.out) hb); have n6_ := Aside0.mk (below_step BL hb); clear HO262 HO265 HO270 BK256 BK271 HB; have HO262 := n0_; have HO265 := n1_; have HO270 := n2_; have HO274 := n3_; have BK256 := n4_; have BK271 := n5_; have HB := n6_; clear n0_ n1_ n2_ n3_ n4_ n5_ n6_; (try clear hb); (try clear hk); (try clear ho0); obtain ⟨hcz121_0, hcz121_1, hfz121_0, hfz121_1⟩ := cz2 BK271.out; obtain ⟨Ao122, co122, eo122⟩ := Kd.R_slice HO274.out; subst eo122) | ((with_reducible refine gate_callee (f := 48) rfl ?_); refine goesS (some 38) Try.func48 #[.agg #[.int .i64 t267, .slice Ao119 t268.length co119], .slice Ao122 t272.length co122, .string a2] ?_; (with_reducible refine (impl_FitsClue.calls k t267 _ _ t268 _ _ t272 a2 t275 _ ?side1 ?side2 ?side3 ?side4 A22.out).mono ?_); (case side1 => repeat (first | exact (Kd.R_reads' HO270.out).2.2 | (with_reducible refine Kd.C_alloc ?_ _) | (with_reducible refine Kd.C_drewN ?_ _) | (with_reducible refine Kd.C_drew ?_))); (case side2 => exact (Kd.R_reads' HO270.out).2.1); (case side3 => repeat (first | exact (Kd.R_reads' HO274.out).2.2 | (with_reducible refine Kd.C_alloc ?_ _) | (with_reducible refine Kd.C_drewN ?_ _) | (with_reducible refine Kd.C_drew ?_))); (case side4 => exact (Kd.R_reads' HO274.out).2.1); rintro e w123 ⟨rfl, hb⟩; refine ⟨_, rfl, ?_⟩; have n0_ := Aside0.mk (Kd.R_below (RR HO262) hb); have n1_ := Aside0.mk (Kd.R_below (RR HO265) hb); have n2_ := Aside0.mk (Kd.R_below (RR HO270) hb); have n3_ := Aside0.mk (Kd.R_below (RR HO274) hb); have n4_ := KB BK256 hb; have n5_ := KB BK271 hb; have n6_ := Aside0.mk (below_step BL hb); clear HO262 HO265 HO270 HO274 BK256 BK271 HB; have HO262 := n0_; have HO265 := n1_; have HO270 := n2_; have HO274 := n3_; have BK256 := n4_; have BK271 := n5_; have HB := n6_; clear n0_ n1_ n2_ n3_ n4_ n5_ n6_; (try clear hb)))
      have n0_ := Aside0.mk (Kd.R_drew HO262.out)
      have n1_ := Aside0.mk (Kd.R_drew HO265.out)
      have n2_ := Aside0.mk (Kd.R_drew HO270.out)
      have n3_ := Aside0.mk (Kd.R_drew HO274.out)
      have n4_ := Aside0.mk (blk_drew BK256.out)
      have n5_ := Aside0.mk (blk_drew BK271.out)
      have n6_ := Aside0.mk (below_drew1 HB.out)
      clear HO262
      clear HO265
      clear HO270
      clear HO274
      clear BK256
      clear BK271
      clear HB
      have HO262 := n0_
      have HO265 := n1_
      have HO270 := n2_
      have HO274 := n3_
      have BK256 := n4_
      have BK271 := n5_
      have HB := n6_
      clear n0_ n1_ n2_ n3_ n4_ n5_ n6_
      refine start_ (n := 5) (S := fun w' => w'.cell? ⟨gb271, 0, none⟩ = some (.int .i64 t267) ∧ w'.cell? ⟨gb271, 1, none⟩ = some (.slice Ao119 t268.length co119) ∧ w'.cell? ⟨gb256, 0, none⟩ = some (.int .i64 a0_0) ∧ w'.cell? ⟨gb256, 1, none⟩ = some (.slice A0_1 l0_1.length c0_1)) (ds := []) #[false, false, false, false, false] (by kernel_rfl) rfl rfl ⟨(blk_cell BK271.out 0).trans rfl, (blk_cell BK271.out 1).trans rfl, (blk_cell BK256.out 0).trans rfl, (blk_cell BK256.out 1).trans rfl⟩ (fun hHeld => ?_)
      generalize w123.drew = w124 at HO262 HO265 HO270 HO274 BK256 BK271 HB hHeld ⊢
      refine take_ (i := 0) (N := some 42) (v := ?_) (a' := ?_) #[true, false, false, false, false] rfl rfl (by kernel_rfl) (fun _ _ _ h => h) (Or.inl ⟨by rfl, ?_⟩) hHeld ?_ ?_
      rotate_left
      ·rintro w' ⟨s0, s1, s2, s3⟩
       go_simp
       with_reducible rfl
      rotate_left
      ·simp only [Act.put, List.setIfInBounds_toArray, List.set_cons_zero, List.set_cons_succ, i64_w, i32_w]
       rfl
      refine take_ (i := 1) (N := some 43) (v := ?_) (a' := ?_) #[true, true, false, false, false] rfl rfl (by kernel_rfl) (fun _ _ _ h => h) (Or.inl ⟨by rfl, ?_⟩) hHeld ?_ ?_
      rotate_left
      ·rintro w' ⟨s0, s1, s2, s3⟩
       go_simp
       with_reducible rfl
      rotate_left
      ·simp only [Act.put, List.setIfInBounds_toArray, List.set_cons_zero, List.set_cons_succ, i64_w, i32_w]
       rfl
      refine one_ (i := 2) (N := some 44) #[true, true, true, false, false] rfl rfl (by kernel_rfl) (by decide) (fun K hK => ?_)
      refine goes_ Try.func47 (by kernel_rfl) rfl #[.agg #[.int .i64 a0_0, .slice A0_1 l0_1.length c0_1]] (by rfl) rfl rfl (by (try simp only [List.map_toArray, List.map_cons, List.map_nil]); first | done | rfl | (simp only [List.length_drop, List.length_take]; rfl)) ?_
      with_reducible refine (laws_toClue.calls k a0_0 _ _ l0_1 t276 t277 _ ?side1 ?side2 A44.out).mono ?_
      (case side1 => exact CB HR0_1)
      (case side2 => exact HC0_1.out)
      rintro e w125 ⟨v278, rfl, ho0, hb⟩
      refine ⟨_, rfl, ?_⟩
      have n0_ := Aside0.mk (Kd.R_elder' (RR HO262) (Kd.R_base ho0) hb)
      have n1_ := Aside0.mk (Kd.R_below (RR HO265) hb)
      have n2_ := Aside0.mk (Kd.R_elder' (RR HO270) (Kd.R_base ho0) hb)
      have n3_ := Aside0.mk (Kd.R_below (RR HO274) hb)
      have n4_ := Aside0.mk (Kd.R_lower (Kd.R_new' (Kd.R_new' ho0 (Kd.R_lt (RR HO262))) (Kd.R_lt (RR HO270))) (below_size BL))
      have n5_ := KB BK256 hb
      have n6_ := KB BK271 hb
      have n7_ := Aside0.mk (below_step BL hb)
      clear HO262
      clear HO265
      clear HO270
      clear HO274
      clear BK256
      clear BK271
      clear HB
      have HO262 := n0_
      have HO265 := n1_
      have HO270 := n2_
      have HO274 := n3_
      have HO279 := n4_
      have BK256 := n5_
      have BK271 := n6_
      have HB := n7_
      clear n0_ n1_ n2_ n3_ n4_ n5_ n6_ n7_
      (try clear hb)
      (try clear hb2)
      (try clear hk)
      (try clear hi)
      (try clear ho0)
      obtain ⟨Ao126, co126, eo126⟩ := Kd.R_slice HO279.out
      (first | subst eo126 | (injection eo126 with f1_ f2_ f3_; have f4_ := f1_.symm; have f5_ := f3_.symm; clear f1_ f2_ f3_; subst f4_; subst f5_))
      refine hK.out _ _ ⟨(blk_cell BK271.out 0).trans rfl, (blk_cell BK271.out 1).trans rfl, (blk_cell BK256.out 0).trans rfl, (blk_cell BK256.out 1).trans rfl⟩ (fun hHeld => ?_)
      clear hK K
      refine norm_ (a' := ?_) ?_ ?_
      rotate_left
      ·show Act.put _ (some 44) _ = _
       simp only [Act.put, List.setIfInBounds_toArray, List.set_cons_zero, List.set_cons_succ, i64_w, i32_w]
       rfl
      refine one_ (i := 3) (N := some 45) #[true, true, true, true, false] rfl rfl (by kernel_rfl) (by decide) (fun K hK => ?_)
      refine goes_ Try.func49 (by kernel_rfl) rfl #[.agg #[.int .i64 t267, .slice Ao119 t268.length co119], .agg #[.int .i64 t276, .slice Ao126 t277.length co126]] (by rfl) rfl rfl (by (try simp only [List.map_toArray, List.map_cons, List.map_nil]); first | done | rfl | (simp only [List.length_drop, List.length_take]; rfl)) ?_
      with_reducible refine (laws_eqClue.calls k t267 _ _ t268 t276 _ _ t277 false _ ?side1 ?side2 ?side3 ?side4 A45.out).mono ?_
      (case side1 => repeat (first | exact (Kd.R_reads' HO270.out).2.2 | (with_reducible refine Kd.C_alloc ?_ _) | (with_reducible refine Kd.C_drewN ?_ _) | (with_reducible refine Kd.C_drew ?_)))
      (case side2 => exact (Kd.R_reads' HO270.out).2.1)
      (case side3 => repeat (first | exact (Kd.R_reads' HO279.out).2.2 | (with_reducible refine Kd.C_alloc ?_ _) | (with_reducible refine Kd.C_drewN ?_ _) | (with_reducible refine Kd.C_drew ?_)))
      (case side4 => exact (Kd.R_reads' HO279.out).2.1)
      rintro e w127 ⟨rfl, hb⟩
      refine ⟨_, rfl, ?_⟩
      have n0_ := Aside0.mk (Kd.R_below (RR HO262) hb)
      have n1_ := Aside0.mk (Kd.R_below (RR HO265) hb)
      have n2_ := Aside0.mk (Kd.R_below (RR HO270) hb)
      have n3_ := Aside0.mk (Kd.R_below (RR HO274) hb)
      have n4_ := Aside0.mk (Kd.R_below (RR HO279) hb)
      have n5_ := KB BK256 hb
      have n6_ := KB BK271 hb
      have n7_ := Aside0.mk (below_step BL hb)
      clear HO262
      clear HO265
      clear HO270
      clear HO274
      clear HO279
      clear BK256
      clear BK271
      clear HB
      have HO262 := n0_
      have HO265 := n1_
      have HO270 := n2_
      have HO274 := n3_
      have HO279 := n4_
      have BK256 := n5_
      have BK271 := n6_
      have HB := n7_
      clear n0_ n1_ n2_ n3_ n4_ n5_ n6_ n7_
      (try clear hb)
      (try clear hb2)
      (try clear hk)
      (try clear hi)
      refine hK.out _ _ ⟨(blk_cell BK271.out 0).trans rfl, (blk_cell BK271.out 1).trans rfl, (blk_cell BK256.out 0).trans rfl, (blk_cell BK256.out 1).trans rfl⟩ (fun hHeld => ?_)
      clear hK K
      refine norm_ (a' := ?_) ?_ ?_
      rotate_left
      ·show Act.put _ (some 45) _ = _
       simp only [Act.put, List.setIfInBounds_toArray, List.set_cons_zero, List.set_cons_succ, i64_w, i32_w]
       rfl
      refine pure_ (i := 4) (N := some 46) (v := ?_) (a' := ?_) #[true, true, true, true, true] rfl rfl (by kernel_rfl) (fun _ _ _ h => h) (Or.inl ⟨by rfl, ?_⟩) ?_ ?_
      rotate_left
      ·intro w'
       go_simp
       with_reducible rfl
      rotate_left
      ·simp only [Act.put, List.setIfInBounds_toArray, List.set_cons_zero, List.set_cons_succ, i64_w, i32_w]
       rfl
      refine done_ (by kernel_rfl) ?_
      try go_wp2
      go_ret
      exact ⟨by first | rfl | (simp [errW_none, errW_some] <;> rfl) | (simp [*, errW_none, errW_some] <;> rfl), BL⟩
end Go.Proofs.Ytddacmgigolcbaa.PFnExactFitsClue
