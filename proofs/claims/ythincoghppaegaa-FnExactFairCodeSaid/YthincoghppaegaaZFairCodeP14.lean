/- Walks of functions: what each computes. -/
import Derived.Test.YthincoghppaegaaZFairCodeP0
import Derived.Test.YthincoghppaegaaZFairCodeP10
import Derived.Test.YthincoghppaegaaZFairCodeP11
import Derived.Test.YthincoghppaegaaZFairCodeP13
import Derived.Test.YthincoghppaegaaZFairCodeW
import Derived.Test.YthincoghppaegaaZFairCodeShelf
import Derived.Test.YthincoghppaegaaZFairCodeHandSort
namespace Go.Proofs.Ythincoghppaegaa.PFnExactFairCode
open Go.RowKit Go.Proofs.YthincoghppaegaaW.PrintWords Go.Proofs.YthincoghppaegaaW.PrintLast Go.Proofs.YthincoghppaegaaW.PrintMore Go.Proofs.Ythincoghppaegaa.Sq
attribute [local go_sem] max2_int min2_int max_two min_two max_three min_three max_four min_four
set_option linter.unusedVariables false
set_option linter.unusedSimpArgs false
def impl_Makes.f (k : Nat) (l0 : List (S73)) (a1 : ByteArray) : Option (Bool) := (impl_IsPlay.f k l0).bind fun t302 => (if t302 = true then ((impl_IsWord.f k a1).bind fun t303 => (if t303 = true then ((impl_makes.f k l0 (wrap64 ((l0.length : Int) - 1)) a1).bind fun t304 => (some t304)) else (some false))) else (some false))
set_option maxHeartbeats 8000000 in
set_option maxRecDepth 100000 in
theorem impl_Makes.calls (k : Nat) (A0 : Option Addr) (c0 : Nat) (l0 : List (S73)) (a1 : ByteArray) (r : Bool) (w : World) (hr0 : Kd.C k73 w A0 l0.length l0) (hc0 : l0.length ≤ c0) (h : impl_Makes.f k l0 a1 = some r) :
  Calls Try.prog 51 #[.slice A0 l0.length c0, .string a1] w fun e w' => e = .returned (.bool r) ∧ Below w.heap.size w w' := by
 have HR0 := Aside0.mk hr0
 have HC0 := Aside0.mk hc0
 clear hr0 hc0
 have HB := Aside0.mk (Below.refl w.heap.size w)
 have H : ((impl_IsPlay.f k l0).bind fun t302 => (if t302 = true then ((impl_IsWord.f k a1).bind fun t303 => (if t303 = true then ((impl_makes.f k l0 (wrap64 ((l0.length : Int) - 1)) a1).bind fun t304 => (some t304)) else (some false))) else (some false))) = some r := h
 clear h
 replace H := Option.bind_eq_some_iff.mp H
 obtain ⟨t302, A30, H⟩ := H
 replace H : (if t302 = true then ((impl_IsWord.f k a1).bind fun t303 => (if t303 = true then ((impl_makes.f k l0 (wrap64 ((l0.length : Int) - 1)) a1).bind fun t304 => (some t304)) else (some false))) else (some false)) = some r := H
 have A3 := Aside0.mk A30
 clear A30
 by_cases c4 : t302 = true
 ·subst c4
  have H1 : ((impl_IsWord.f k a1).bind fun t303 => (if t303 = true then ((impl_makes.f k l0 (wrap64 ((l0.length : Int) - 1)) a1).bind fun t304 => (some t304)) else (some false))) = some r := by rw [if_pos rfl] at H; exact H
  clear H
  have H := H1
  clear H1
  replace H := Option.bind_eq_some_iff.mp H
  obtain ⟨t303, A50, H⟩ := H
  replace H : (if t303 = true then ((impl_makes.f k l0 (wrap64 ((l0.length : Int) - 1)) a1).bind fun t304 => (some t304)) else (some false)) = some r := H
  have A5 := Aside0.mk A50
  clear A50
  by_cases c6 : t303 = true
  ·subst c6
   have H1 : ((impl_makes.f k l0 (wrap64 ((l0.length : Int) - 1)) a1).bind fun t304 => (some t304)) = some r := by rw [if_pos rfl] at H; exact H
   clear H
   have H := H1
   clear H1
   replace H := Option.bind_eq_some_iff.mp H
   obtain ⟨t304, A70, H⟩ := H
   replace H : (some t304) = some r := H
   have A7 := Aside0.mk A70
   clear A70
   obtain rfl := Option.some.inj H
   go_enter Try.func51, Try.ntmps51
   go_wp2_with (first | ((with_reducible refine gate_callee (f := 66) rfl ?_); refine goesS (some 6) Try.func66 #[.slice A0 l0.length c0] ?_; (with_reducible refine (impl_IsPlay.calls k _ _ l0 true _ ?side1 ?side2 A3.out).mono ?_); (case side1 => repeat (first | exact HR0.out | (with_reducible refine Kd.C_alloc ?_ _) | (with_reducible refine Kd.C_drewN ?_ _) | (with_reducible refine Kd.C_drew ?_))); (case side2 => exact HC0.out); rintro e w8 ⟨rfl, hb⟩; refine ⟨_, rfl, ?_⟩; have n0_ := BS (w := w) hb; clear HB; have HB := n0_; clear n0_; (try clear hb)) | (go_at_call 68; (with_reducible refine (impl_IsWord.calls k a1 true _ A5.out).mono ?_); rintro e w' ⟨rfl, ⟨nd, rfl⟩⟩) | (go_at_call 69; (with_reducible refine (impl_makes.calls k _ _ l0 (wrap64 ((l0.length : Int) - 1)) a1 t304 _ ?side1 ?side2 A7.out).mono ?_); (case side1 => repeat (first | exact (Kd.C_below HR0.out BL) | (with_reducible refine Kd.C_alloc ?_ _) | (with_reducible refine Kd.C_drewN ?_ _) | (with_reducible refine Kd.C_drew ?_))); (case side2 => exact HC0.out); rintro e w9 ⟨rfl, hb⟩; have n0_ := BS (w := w) hb; clear HB; have HB := n0_; clear n0_; (try clear hb)))
   go_ret
   exact ⟨EWW, BL⟩
  ·replace c6 := Bool.eq_false_iff.mpr c6
   subst c6
   have H1 : (some false) = some r := by rw [if_neg (show ¬ (false = true) by decide)] at H; exact H
   clear H
   have H := H1
   clear H1
   obtain rfl := Option.some.inj H
   go_enter Try.func51, Try.ntmps51
   go_wp2_with (first | ((with_reducible refine gate_callee (f := 66) rfl ?_); refine goesS (some 6) Try.func66 #[.slice A0 l0.length c0] ?_; (with_reducible refine (impl_IsPlay.calls k _ _ l0 true _ ?side1 ?side2 A3.out).mono ?_); (case side1 => repeat (first | exact HR0.out | (with_reducible refine Kd.C_alloc ?_ _) | (with_reducible refine Kd.C_drewN ?_ _) | (with_reducible refine Kd.C_drew ?_))); (case side2 => exact HC0.out); rintro e w10 ⟨rfl, hb⟩; refine ⟨_, rfl, ?_⟩; have n0_ := BS (w := w) hb; clear HB; have HB := n0_; clear n0_; (try clear hb)) | (go_at_call 68; (with_reducible refine (impl_IsWord.calls k a1 false _ A5.out).mono ?_); rintro e w' ⟨rfl, ⟨nd, rfl⟩⟩))
   go_ret
   exact ⟨EWW, BL⟩
 ·replace c4 := Bool.eq_false_iff.mpr c4
  subst c4
  have H1 : (some false) = some r := by rw [if_neg (show ¬ (false = true) by decide)] at H; exact H
  clear H
  have H := H1
  clear H1
  obtain rfl := Option.some.inj H
  go_enter Try.func51, Try.ntmps51
  go_wp2_with (first | ((with_reducible refine gate_callee (f := 66) rfl ?_); refine goesS (some 6) Try.func66 #[.slice A0 l0.length c0] ?_; (with_reducible refine (impl_IsPlay.calls k _ _ l0 false _ ?side1 ?side2 A3.out).mono ?_); (case side1 => repeat (first | exact HR0.out | (with_reducible refine Kd.C_alloc ?_ _) | (with_reducible refine Kd.C_drewN ?_ _) | (with_reducible refine Kd.C_drew ?_))); (case side2 => exact HC0.out); rintro e w11 ⟨rfl, hb⟩; refine ⟨_, rfl, ?_⟩; have n0_ := BS (w := w) hb; clear HB; have HB := n0_; clear n0_; (try clear hb)))
  go_ret
  exact ⟨EWW, BL⟩
def impl_FitsClue.f (k : Nat) (a0_0 : Int) (l0_1 : List (S73)) (l1 : List (S54)) (a2 : ByteArray) : Option (Bool) := (impl_IsClue.f k a0_0 l0_1).bind fun t306 => (if t306 = true then ((impl_HasSense.f k l1 a2 a0_0).bind fun t307 => (if t307 = true then ((impl_Makes.f k l0_1 a2).bind fun t308 => (some t308)) else (some false))) else (some false))
set_option maxHeartbeats 8000000 in
set_option maxRecDepth 100000 in
theorem impl_FitsClue.calls (k : Nat) (a0_0 : Int) (A0_1 : Option Addr) (c0_1 : Nat) (l0_1 : List (S73)) (A1 : Option Addr) (c1 : Nat) (l1 : List (S54)) (a2 : ByteArray) (r : Bool) (w : World) (hr0_1 : Kd.C k73 w A0_1 l0_1.length l0_1) (hc0_1 : l0_1.length ≤ c0_1) (hr1 : Kd.C k54 w A1 l1.length l1) (hc1 : l1.length ≤ c1) (h : impl_FitsClue.f k a0_0 l0_1 l1 a2 = some r) :
  Calls Try.prog 42 #[.agg #[.int .i64 a0_0, .slice A0_1 l0_1.length c0_1], .slice A1 l1.length c1, .string a2] w fun e w' => e = .returned (.bool r) ∧ Below w.heap.size w w' := by
 have hu33 := Try.underlying33
 have HR0_1 := Aside0.mk hr0_1
 have HC0_1 := Aside0.mk hc0_1
 clear hr0_1 hc0_1
 have HR1 := Aside0.mk hr1
 have HC1 := Aside0.mk hc1
 clear hr1 hc1
 have HB := Aside0.mk (Below.refl w.heap.size w)
 have H : ((impl_IsClue.f k a0_0 l0_1).bind fun t306 => (if t306 = true then ((impl_HasSense.f k l1 a2 a0_0).bind fun t307 => (if t307 = true then ((impl_Makes.f k l0_1 a2).bind fun t308 => (some t308)) else (some false))) else (some false))) = some r := h
 clear h
 replace H := Option.bind_eq_some_iff.mp H
 obtain ⟨t306, A40, H⟩ := H
 replace H : (if t306 = true then ((impl_HasSense.f k l1 a2 a0_0).bind fun t307 => (if t307 = true then ((impl_Makes.f k l0_1 a2).bind fun t308 => (some t308)) else (some false))) else (some false)) = some r := H
 have A4 := Aside0.mk A40
 clear A40
 by_cases c5 : t306 = true
 ·subst c5
  have H1 : ((impl_HasSense.f k l1 a2 a0_0).bind fun t307 => (if t307 = true then ((impl_Makes.f k l0_1 a2).bind fun t308 => (some t308)) else (some false))) = some r := by rw [if_pos rfl] at H; exact H
  clear H
  have H := H1
  clear H1
  replace H := Option.bind_eq_some_iff.mp H
  obtain ⟨t307, A60, H⟩ := H
  replace H : (if t307 = true then ((impl_Makes.f k l0_1 a2).bind fun t308 => (some t308)) else (some false)) = some r := H
  have A6 := Aside0.mk A60
  clear A60
  by_cases c7 : t307 = true
  ·subst c7
   have H1 : ((impl_Makes.f k l0_1 a2).bind fun t308 => (some t308)) = some r := by rw [if_pos rfl] at H; exact H
   clear H
   have H := H1
   clear H1
   replace H := Option.bind_eq_some_iff.mp H
   obtain ⟨t308, A80, H⟩ := H
   replace H : (some t308) = some r := H
   have A8 := Aside0.mk A80
   clear A80
   obtain rfl := Option.some.inj H
   go_enter Try.func42, Try.ntmps42
   go_wp2_with (first | ((with_reducible refine gate_dst (N := 3) rfl ?_); refine box_ev (N := 3) (cs := #[.int .i64 a0_0, .slice A0_1 l0_1.length c0_1]) (t := 33) ?_; intro gb305 hg w9 hbox hb; have n0_ := BS (w := w) hb; have n1_ := Aside0.mk (hbox); have n2_ := SZ (w := w) hg; have n3_ := SZ (w := w) hg; clear HB; have HB := n0_; have BK305 := n1_; have GW305 := n2_; have GE305 := n3_; clear n0_ n1_ n2_ n3_; clear hb hbox hg; obtain ⟨hcz10_0, hcz10_1, hfz10_0, hfz10_1⟩ := cz2 BK305.out) | ((with_reducible refine gate_callee (f := 49) rfl ?_); refine goesS (some 8) Try.func49 #[.agg #[.int .i64 a0_0, .slice A0_1 l0_1.length c0_1]] ?_; (with_reducible refine (impl_IsClue.calls k a0_0 _ _ l0_1 true _ ?side1 ?side2 A4.out).mono ?_); (case side1 => exact CB HR0_1); (case side2 => exact HC0_1.out); rintro e w11 ⟨rfl, hb⟩; refine ⟨_, rfl, ?_⟩; have n0_ := KB BK305 hb; have n1_ := BS (w := w) hb; clear BK305 HB; have BK305 := n0_; have HB := n1_; clear n0_ n1_; (try clear hb); obtain ⟨hcz12_0, hcz12_1, hfz12_0, hfz12_1⟩ := cz2 BK305.out) | (go_at_call 50; (with_reducible refine (impl_HasSense.calls k _ _ l1 a2 a0_0 true _ ?side1 ?side2 A6.out).mono ?_); (case side1 => exact CB HR1); (case side2 => exact HC1.out); rintro e w13 ⟨rfl, hb⟩; have n0_ := KB BK305 hb; have n1_ := BS (w := w) hb; clear BK305 HB; have BK305 := n0_; have HB := n1_; clear n0_ n1_; (try clear hb); obtain ⟨hcz14_0, hcz14_1, hfz14_0, hfz14_1⟩ := cz2 BK305.out) | (go_at_call 51; (with_reducible refine (impl_Makes.calls k _ _ l0_1 a2 t308 _ ?side1 ?side2 A8.out).mono ?_); (case side1 => exact CB HR0_1); (case side2 => exact HC0_1.out); rintro e w15 ⟨rfl, hb⟩; have n0_ := KB BK305 hb; have n1_ := BS (w := w) hb; clear BK305 HB; have BK305 := n0_; have HB := n1_; clear n0_ n1_; (try clear hb)))
   go_ret
   exact ⟨EWW, BL⟩
  ·replace c7 := Bool.eq_false_iff.mpr c7
   subst c7
   have H1 : (some false) = some r := by rw [if_neg (show ¬ (false = true) by decide)] at H; exact H
   clear H
   have H := H1
   clear H1
   obtain rfl := Option.some.inj H
   go_enter Try.func42, Try.ntmps42
   go_wp2_with (first | ((with_reducible refine gate_dst (N := 3) rfl ?_); refine box_ev (N := 3) (cs := #[.int .i64 a0_0, .slice A0_1 l0_1.length c0_1]) (t := 33) ?_; intro gb305 hg w16 hbox hb; have n0_ := BS (w := w) hb; have n1_ := Aside0.mk (hbox); have n2_ := SZ (w := w) hg; have n3_ := SZ (w := w) hg; clear HB; have HB := n0_; have BK305 := n1_; have GW305 := n2_; have GE305 := n3_; clear n0_ n1_ n2_ n3_; clear hb hbox hg; obtain ⟨hcz17_0, hcz17_1, hfz17_0, hfz17_1⟩ := cz2 BK305.out) | ((with_reducible refine gate_callee (f := 49) rfl ?_); refine goesS (some 8) Try.func49 #[.agg #[.int .i64 a0_0, .slice A0_1 l0_1.length c0_1]] ?_; (with_reducible refine (impl_IsClue.calls k a0_0 _ _ l0_1 true _ ?side1 ?side2 A4.out).mono ?_); (case side1 => exact CB HR0_1); (case side2 => exact HC0_1.out); rintro e w18 ⟨rfl, hb⟩; refine ⟨_, rfl, ?_⟩; have n0_ := KB BK305 hb; have n1_ := BS (w := w) hb; clear BK305 HB; have BK305 := n0_; have HB := n1_; clear n0_ n1_; (try clear hb); obtain ⟨hcz19_0, hcz19_1, hfz19_0, hfz19_1⟩ := cz2 BK305.out) | (go_at_call 50; (with_reducible refine (impl_HasSense.calls k _ _ l1 a2 a0_0 false _ ?side1 ?side2 A6.out).mono ?_); (case side1 => exact CB HR1); (case side2 => exact HC1.out); rintro e w20 ⟨rfl, hb⟩; have n0_ := KB BK305 hb; have n1_ := BS (w := w) hb; clear BK305 HB; have BK305 := n0_; have HB := n1_; clear n0_ n1_; (try clear hb)))
   go_ret
   exact ⟨EWW, BL⟩
 ·replace c5 := Bool.eq_false_iff.mpr c5
  subst c5
  have H1 : (some false) = some r := by rw [if_neg (show ¬ (false = true) by decide)] at H; exact H
  clear H
  have H := H1
  clear H1
  obtain rfl := Option.some.inj H
  go_enter Try.func42, Try.ntmps42
  go_wp2_with (first | ((with_reducible refine gate_dst (N := 3) rfl ?_); refine box_ev (N := 3) (cs := #[.int .i64 a0_0, .slice A0_1 l0_1.length c0_1]) (t := 33) ?_; intro gb305 hg w21 hbox hb; have n0_ := BS (w := w) hb; have n1_ := Aside0.mk (hbox); have n2_ := SZ (w := w) hg; have n3_ := SZ (w := w) hg; clear HB; have HB := n0_; have BK305 := n1_; have GW305 := n2_; have GE305 := n3_; clear n0_ n1_ n2_ n3_; clear hb hbox hg; obtain ⟨hcz22_0, hcz22_1, hfz22_0, hfz22_1⟩ := cz2 BK305.out) | ((with_reducible refine gate_callee (f := 49) rfl ?_); refine goesS (some 8) Try.func49 #[.agg #[.int .i64 a0_0, .slice A0_1 l0_1.length c0_1]] ?_; (with_reducible refine (impl_IsClue.calls k a0_0 _ _ l0_1 false _ ?side1 ?side2 A4.out).mono ?_); (case side1 => exact CB HR0_1); (case side2 => exact HC0_1.out); rintro e w23 ⟨rfl, hb⟩; refine ⟨_, rfl, ?_⟩; have n0_ := KB BK305 hb; have n1_ := BS (w := w) hb; clear BK305 HB; have BK305 := n0_; have HB := n1_; clear n0_ n1_; (try clear hb)))
  go_ret
  exact ⟨EWW, BL⟩
def impl_AnswersTo.f (k : Nat) (a0_0 : Int) (l0_1 : List (S73)) (l1 : List (S54)) (l2 : List ByteArray) : Option (List ByteArray) := (impl_those.f k l2 (fun j s => impl_FitsClue.f j a0_0 l0_1 l1 s)).bind fun t => impl_once.f k t
theorem run_mk0 (P : Program) (fn : Fn) (first cap : Array Value) (w : World) : (Instr.makeFunc fn first cap).run P w = .ok (.func fn first cap) w := rfl
attribute [local go_sem] run_mk0
set_option maxHeartbeats 8000000 in
set_option maxRecDepth 100000 in
theorem impl_AnswersTo.closure (j : Nat) (a0_0 : Int) (A0_1 : Option Addr) (c0_1 : Nat) (l0_1 : List (S73)) (A1 : Option Addr) (c1 : Nat) (l1 : List (S54)) (s : ByteArray) (b : Bool) (W : World) (g0 : Nat) (g1 : Nat) (h0 : W.heap[g0]? = some (.cells #[.int .i64 a0_0, .slice A0_1 l0_1.length c0_1] 33 (0, 0))) (h1 : W.heap[g1]? = some (.cells #[.slice A1 l1.length c1] 35 (0, 0))) (hr0_1 : Kd.C k73 W A0_1 l0_1.length l0_1) (hc0_1 : l0_1.length ≤ c0_1) (hr1 : Kd.C k54 W A1 l1.length l1) (hc1 : l1.length ≤ c1) (h : impl_FitsClue.f j a0_0 l0_1 l1 s = some b) :
  Calls Try.prog 41 #[.string s, .pointer (some ⟨g0, 0, none⟩), .pointer (some ⟨g1, 0, none⟩)] W fun e w' => e = .returned (.bool b) ∧ Below W.heap.size W w' := by
 have hcz0_0 : W.cell? ⟨g0, 0, none⟩ = some (.int .i64 a0_0) := (blk_cell h0 0).trans rfl
 have hfz0_0 := blk_frozen h0 0
 have hcz0_1 : W.cell? ⟨g0, 1, none⟩ = some (.slice A0_1 l0_1.length c0_1) := (blk_cell h0 1).trans rfl
 have hfz0_1 := blk_frozen h0 1
 have hcz1_0 : W.cell? ⟨g1, 0, none⟩ = some (.slice A1 l1.length c1) := (blk_cell h1 0).trans rfl
 have hfz1_0 := blk_frozen h1 0
 go_enter Try.func41, Try.ntmps41
 go_wp2_with (first | ((with_reducible refine gate_callee (f := 42) rfl ?_); refine goesL_ _ rfl rfl Try.func42 (by kernel_rfl) rfl #[.agg #[.int .i64 a0_0, .slice A0_1 l0_1.length c0_1], .slice A1 l1.length c1, .string s] rfl (by (try simp only [List.map_toArray, List.map_cons, List.map_nil]); first | done | rfl | (simp only [List.length_drop, List.length_take]; rfl)) ?_; refine (impl_FitsClue.calls j a0_0 _ _ l0_1 _ _ l1 s b _ hr0_1 hc0_1 hr1 hc1 h).mono ?_; rintro e w_ ⟨rfl, hb⟩; refine ⟨_, rfl, ?_⟩; skip))
 go_ret
 exact ⟨rfl, hb⟩
set_option maxHeartbeats 8000000 in
set_option maxRecDepth 100000 in
theorem impl_AnswersTo.calls (k : Nat) (a0_0 : Int) (A0_1 : Option Addr) (c0_1 : Nat) (l0_1 : List (S73)) (A1 : Option Addr) (c1 : Nat) (l1 : List (S54)) (A2 : Option Addr) (c2 : Nat) (l2 : List ByteArray) (r : List ByteArray) (w : World) (hr0_1 : Kd.C k73 w A0_1 l0_1.length l0_1) (hc0_1 : l0_1.length ≤ c0_1) (hr1 : Kd.C k54 w A1 l1.length l1) (hc1 : l1.length ≤ c1) (hr2 : Kd.C Kd.string w A2 l2.length l2) (hc2 : l2.length ≤ c2) (h : impl_AnswersTo.f k a0_0 l0_1 l1 l2 = some r) :
  Calls Try.prog 22 #[.agg #[.int .i64 a0_0, .slice A0_1 l0_1.length c0_1], .slice A1 l1.length c1, .slice A2 l2.length c2] w fun e w' => ∃ v0_ : Value, e = .returned (v0_) ∧ Kd.R Kd.string 9 w' w.heap.size (fun _ => True) v0_ r ∧ Below w.heap.size w w' := by
 have HR0 := Aside0.mk hr0_1
 have HC0 := Aside0.mk hc0_1
 have HR1 := Aside0.mk hr1
 have HC1 := Aside0.mk hc1
 have HR2 := Aside0.mk hr2
 have HC2 := Aside0.mk hc2
 have HB := Aside0.mk (Below.refl w.heap.size w)
 clear hr0_1 hc0_1 hr1 hc1 hr2 hc2
 unfold impl_AnswersTo.f at h
 obtain ⟨t, h1, h2⟩ := Option.bind_eq_some_iff.mp h
 have H1 := Aside0.mk h1
 have H2 := Aside0.mk h2
 clear h h1 h2
 go_enter Try.func22, Try.ntmps22
 go_wp2_with (first | ((with_reducible refine gate_dst (N := 3) rfl ?_); refine box_ev (N := 3) (cs := #[.int .i64 a0_0, .slice A0_1 l0_1.length c0_1]) (t := 33) ?_; intro gb3 hg w3 hbox hb; have n0_ := BS (w := w) hb; have n1_ := Aside0.mk (hbox); clear HB; have HB := n0_; have BK3 := n1_; clear n0_ n1_; clear hb hbox hg) | ((with_reducible refine gate_dst (N := 4) rfl ?_); refine box_ev (N := 4) (cs := #[.slice A1 l1.length c1]) (t := 35) ?_; intro gb4 hg w4 hbox hb; have n0_ := BS (w := w) hb; have n1_ := Aside0.mk (hbox); have n2_ := KB BK3 hb; clear HB; have HB := n0_; have BK4 := n1_; clear n0_ n1_; clear BK3; have BK3 := n2_; clear n2_; clear hb hbox hg) | ((with_reducible refine gate_callee (f := 40) rfl ?_); refine goesL_ _ rfl rfl Try.func40 (by kernel_rfl) rfl #[.slice A2 l2.length c2, .func (.func 41) #[] #[.pointer (some ⟨gb3, 0, none⟩), .pointer (some ⟨gb4, 0, none⟩)]] rfl (by (try simp only [List.map_toArray, List.map_cons, List.map_nil]); first | done | rfl | (simp only [List.length_drop, List.length_take]; rfl)) ?_; refine (impl_those.calls k _ _ l2 (fun j s => impl_FitsClue.f j a0_0 l0_1 l1 s) t _ (Kd.C_below HR2.out BL) HC2.out H1.out 41 #[.pointer (some ⟨gb3, 0, none⟩), .pointer (some ⟨gb4, 0, none⟩)] (fun args w => enters_ Try.func41 (by kernel_rfl) rfl args w) (fun j s b W hb_ h_ => impl_AnswersTo.closure j a0_0 A0_1 c0_1 l0_1 A1 c1 l1 s b W gb3 gb4 (blk_below (g := gb3) (o := .cells #[.int .i64 a0_0, .slice A0_1 l0_1.length c0_1] 33 (0, 0)) BK hb_) (blk_below (g := gb4) (o := .cells #[.slice A1 l1.length c1] 35 (0, 0)) BK hb_) (Kd.C_below HR0.out (below_step BL hb_)) HC0.out (Kd.C_below HR1.out (below_step BL hb_)) HC1.out h_)).mono ?_; rintro e w_ ⟨v_, rfl, ho0, hb⟩; refine ⟨_, rfl, ?_⟩; have n0_ := Aside0.mk (Kd.R_lower ho0 (below_size BL)); have n1_ := BS (w := w) hb; clear HB; have HO1 := n0_; have HB := n1_; clear n0_ n1_ hb ho0; obtain ⟨Ao, co, eo⟩ := Kd.R_slice HO1.out; subst eo) | ((with_reducible refine gate_callee (f := 39) rfl ?_); refine goesL_ _ rfl rfl Try.func39 (by kernel_rfl) rfl #[.slice Ao t.length co] rfl (by (try simp only [List.map_toArray, List.map_cons, List.map_nil]); first | done | rfl | (simp only [List.length_drop, List.length_take]; rfl)) ?_; refine (impl_once.calls k _ _ t r _ ((Kd.R_reads' (RR HO1)).2.2) ((Kd.R_reads' HO1.out).2.1) H2.out).mono ?_; rintro e w_ ⟨v_, rfl, ho0, hb⟩; refine ⟨_, rfl, ?_⟩; have n0_ := Aside0.mk (Kd.R_lower ho0 (below_size BL)); have n1_ := BS (w := w) hb; clear HB HO1; have HO2 := n0_; have HB := n1_; clear n0_ n1_ hb ho0))
 go_ret
 exact ⟨_, rfl, (RR HO2), BL⟩
def impl_UsedWords.l0 : Nat → List ByteArray → List (S73) → Int → Int → Option (List ByteArray)
 | 0, _, _, _, _ => none
 | k + 1, x3, x6, x7, x8 => if x8 < x7 then (if 0 ≤ x8 then (if x8 < (x6.length : Int) then (if ((rd_T73 x6 x8).f0) = 1 then (if x3.length < 8796093022208 then (impl_UsedWords.l0 k (x3 ++ [(rd_T73 x6 x8).f1]) x6 x7 (wrap64 (x8 + 1))) else (none)) else (impl_UsedWords.l0 k x3 x6 x7 (wrap64 (x8 + 1)))) else (none)) else (none)) else (some x3)
def impl_UsedWords.f (k : Nat) (l0 : List (S73)) : Option (List ByteArray) := impl_UsedWords.l0 k ([] : List ByteArray) l0 (l0.length : Int) 0
set_option maxHeartbeats 8000000 in
set_option maxRecDepth 100000 in
theorem impl_UsedWords.calls (k : Nat) (A0 : Option Addr) (c0 : Nat) (l0 : List (S73)) (r : List ByteArray) (w : World) (hr0 : Kd.C k73 w A0 l0.length l0) (hc0 : l0.length ≤ c0) (h : impl_UsedWords.f k l0 = some r) :
  Calls Try.prog 53 #[.slice A0 l0.length c0] w fun e w' => ∃ v0_ : Value, e = .returned (v0_) ∧ Kd.R Kd.string 9 w' w.heap.size (fun _ => True) v0_ r ∧ Below w.heap.size w w' := by
 have hu73 := Try.underlying73
 have HR0 := Aside0.mk hr0
 have HC0 := Aside0.mk hc0
 clear hr0 hc0
 have HB := Aside0.mk (Below.refl w.heap.size w)
 have H : (impl_UsedWords.l0 k ([] : List ByteArray) l0 (l0.length : Int) 0) = some r := h
 clear h
 have H' := Aside0.mk H
 clear H
 go_enter Try.func53, Try.ntmps53
 go_wp2
 go_loopg [3, 8] k (fun kq v3 v8 w' => ∃ (x3_1 : List ByteArray) (x8_1 : Int), v8 = .int .i64 x8_1 ∧ Aside0 (impl_UsedWords.l0 kq x3_1 l0 (l0.length : Int) x8_1 = some r) ∧ Aside0 (kq ≤ k) ∧ Aside0 (Kd.R Kd.string 9 w' w.heap.size (fun _ => True) v3 x3_1) ∧ Aside0 (Below w.heap.size w w'))
 case atStart => exact ⟨(([] : List ByteArray)), (0), EQ, H', ⟨Nat.le_refl _⟩, ⟨by first | exact Kd.R_nil _ _ _ _ _ | exact Kd.N_nil _ _ _ _ _ | exact Kd.V_nil _ _ _ _ _ | exact Kd.Q_nil _ _ _ _ _ | exact Kd.S_nil _ _ _ _ _⟩, ⟨BL⟩⟩
 case round =>
  clear H'
  obtain ⟨x3_1, x8_1, rfl, HA, HK1, HO_3, HB⟩ := hrel
  cases gk with
  | zero => exact absurd HA.out (by simp [impl_UsedWords.l0])
  | succ k1 =>
   have H := HA.out
   clear HA
   simp only [impl_UsedWords.l0] at H
   by_cases c2 : x8_1 < (l0.length : Int)
   ·rw [if_pos c2] at H
    have c2b0 : decide (x8_1 < (l0.length : Int)) = true := decide_eq_true c2
    clear c2
    by_cases c3 : 0 ≤ x8_1
    ·rw [if_pos c3] at H
     have c3b0 : decide (0 ≤ x8_1) = true := decide_eq_true c3
     clear c3
     by_cases c4 : x8_1 < (l0.length : Int)
     ·rw [if_pos c4] at H
      have c4b0 : decide (x8_1 < (l0.length : Int)) = true := decide_eq_true c4
      clear c4
      by_cases c5 : ((rd_T73 l0 x8_1).f0) = 1
      ·rw [if_pos c5] at H
       have c5b0 : (((rd_T73 l0 x8_1).f0) == 1) = true := beq_iff_eq.mpr c5
       have c5b1 : (((rd_T73 l0 x8_1).f0) != 1) = false := bne_eq_false_iff_eq.mpr c5
       clear c5
       by_cases c6 : x3_1.length < 8796093022208
       ·rw [if_pos c6] at H
        have LMc6 := Aside0.mk c6
        clear c6
        obtain ⟨y311, hy311⟩ : ∃ y_ : List ByteArray, y_ = (x3_1 ++ [(rd_T73 l0 x8_1).f1]) := ⟨_, rfl⟩
        replace H : (impl_UsedWords.l0 k1 y311 l0 (l0.length : Int) (wrap64 (x8_1 + 1))) = some r := by first | (rw [hy311]; with_reducible exact H) | (have H2_ := (Option.bind_some _ _).symm.trans H; rw [hy311]; with_reducible exact H2_) | (have H2_ := (Option.bind_some _ _).symm.trans H; with_reducible exact H2_) | with_reducible exact H | (rw [hy311]; exact H) | exact H
        have Ny311 := Aside0.mk hy311
        clear hy311
        have H' := Aside0.mk H
        clear H
        have p309 : 0 ≤ (x8_1 : Int) := OD
        have q309 : x8_1 < (l0.length : Int) := OD
        obtain ⟨ad309, e309, hx309_0, hx309_1, hx309_2, hx309_3⟩ := at_T73 HR0.out x8_1 p309 q309
        cases e309
        replace hx309_0 := (HB.out.cell (World.block_lt_of_cell? w _ hx309_0)).trans hx309_0
        replace hx309_1 := (HB.out.cell (World.block_lt_of_cell? w _ hx309_1)).trans hx309_1
        replace hx309_2 := (HB.out.cell (World.block_lt_of_cell? w _ hx309_2)).trans hx309_2
        replace hx309_3 := (HB.out.cell (World.block_lt_of_cell? w _ hx309_3)).trans hx309_3
        replace p309 := eq_true p309
        replace q309 := eq_true q309
        go_wp2_with (first | ((with_reducible refine gate_dst (N := 5) rfl ?_); refine box_ev (N := 5) (cs := #[.int .i64 0, .string (⟨#[]⟩ : ByteArray), .int .i64 0, .int .i64 0]) (t := 73) ?_; intro gb310 hg w7 hbox hb; have n0_ := RB HO_3 hb; have n1_ := BS (w := w) hb; have n2_ := Aside0.mk (hbox); have n3_ := SZ (w := w) hg; have n4_ := SZ (w := w) hg; clear HO_3 HB; have HO_3 := n0_; have HB := n1_; have BK310 := n2_; have GW310 := n3_; have GE310 := n4_; clear n0_ n1_ n2_ n3_ n4_; clear hb hbox hg; obtain ⟨hcz8_0, hcz8_1, hcz8_2, hcz8_3, hfz8_0, hfz8_1, hfz8_2, hfz8_3⟩ := cz4 BK310.out) | ((with_reducible refine gate_builtin (b := .append) (xs := #[.tmp 15, .tmp 18]) rfl ?_); at_builtin; refine Kd.R_append Kd.string (w0 := w) w.heap.size rfl (.tmp 15) (.tmp 18) 26 9 (.string ⟨#[]⟩) 16 rfl Try.underlying26 info9 rfl (by decide) (by omega) u3 x3_1 ((rd_T73 l0 x8_1).f1) [.string ((rd_T73 l0 x8_1).f1)] (fun _ => True) (fun _ => False) rfl (by first | (go_simp; done) | (go_simp; rfl)) ?aP (fun _ hk => hk.elim) ?aF ?aO ?aB ?aS ?aL ?_; (case aP => exact rfl); (case aB => exact BL); (case aF => exact (fun _ _ => trivial)); (case aO => exact (by (with_reducible repeat (first | apply Kd.R_alloc | apply Kd.R_drewN | apply Kd.R_drew)); exact Kd.R_mono (Kd.R_far (p := ⟨gb310, 3, none⟩) (Kd.R_far (p := ⟨gb310, 2, none⟩) (Kd.R_far (p := ⟨gb310, 1, none⟩) (Kd.R_far (p := ⟨gb310, 0, none⟩) (Kd.R_types HO_3.out BK310.out (by decide)) (fun _ hk => hk.2) (.int .i64 ((rd_T73 l0 x8_1).f0))) (fun _ hk => hk.2) (.string ((rd_T73 l0 x8_1).f1))) (fun _ hk => hk.2) (.int .i64 ((rd_T73 l0 x8_1).f2))) (fun _ hk => hk.2) (.int .i64 ((rd_T73 l0 x8_1).f3))) (fun _ hk => trivial))); (case aS => exact (below_size BL)); (case aL => have := LMc6.out; omega); intro v312 w9 ho hb hg hat; rw [← Ny311.out] at ho; have n0_ := Aside0.mk (blk_grown (g := gb310) (o := .cells #[.int .i64 ((rd_T73 l0 x8_1).f0), .string ((rd_T73 l0 x8_1).f1), .int .i64 ((rd_T73 l0 x8_1).f2), .int .i64 ((rd_T73 l0 x8_1).f3)] 73 (0, 0)) (by (with_reducible repeat (first | refine blk_drewN ?_ _ | refine blk_drew ?_ | refine blk_alloc ?_ _)); refine blk_put (cs := #[.int .i64 ((rd_T73 l0 x8_1).f0), .string ((rd_T73 l0 x8_1).f1), .int .i64 ((rd_T73 l0 x8_1).f2), .int .i64 0]) ?_ 3 _ rfl; (with_reducible repeat (first | refine blk_drewN ?_ _ | refine blk_drew ?_ | refine blk_alloc ?_ _)); refine blk_put (cs := #[.int .i64 ((rd_T73 l0 x8_1).f0), .string ((rd_T73 l0 x8_1).f1), .int .i64 0, .int .i64 0]) ?_ 2 _ rfl; (with_reducible repeat (first | refine blk_drewN ?_ _ | refine blk_drew ?_ | refine blk_alloc ?_ _)); refine blk_put (cs := #[.int .i64 ((rd_T73 l0 x8_1).f0), .string (⟨#[]⟩ : ByteArray), .int .i64 0, .int .i64 0]) ?_ 1 _ rfl; (with_reducible repeat (first | refine blk_drewN ?_ _ | refine blk_drew ?_ | refine blk_alloc ?_ _)); refine blk_put (cs := #[.int .i64 0, .string (⟨#[]⟩ : ByteArray), .int .i64 0, .int .i64 0]) ?_ 0 _ rfl; (with_reducible repeat (first | refine blk_drewN ?_ _ | refine blk_drew ?_ | refine blk_alloc ?_ _)); exact BK310.out) hg (Kd.R_ne HO_3.out BK310.out (by decide))); have n1_ := Aside0.mk (hb); have n2_ := Aside0.mk (ho); clear BK310 HB HO_3; have BK310 := n0_; have HB := n1_; have HO313 := n2_; clear n0_ n1_ n2_; clear ho hb hg hat))
        go_roundg k1
        case measure => have := HK1.out; omega
        case rel => exact ⟨(y311), (wrap64 (x8_1 + 1)), EQ, H', ⟨by have := HK1.out; omega⟩, ⟨(RR HO313)⟩, ⟨BL⟩⟩
       ·rw [if_neg c6] at H
        exact absurd H (by simp)
      ·rw [if_neg c5] at H
       have c5b0 : (((rd_T73 l0 x8_1).f0) == 1) = false := beq_eq_false_iff_ne.mpr c5
       have c5b1 : (((rd_T73 l0 x8_1).f0) != 1) = true := bne_iff_ne.mpr c5
       have H' := Aside0.mk H
       clear H
       have p309 : 0 ≤ (x8_1 : Int) := OD
       have q309 : x8_1 < (l0.length : Int) := OD
       obtain ⟨ad309, e309, hx309_0, hx309_1, hx309_2, hx309_3⟩ := at_T73 HR0.out x8_1 p309 q309
       cases e309
       replace hx309_0 := (HB.out.cell (World.block_lt_of_cell? w _ hx309_0)).trans hx309_0
       replace hx309_1 := (HB.out.cell (World.block_lt_of_cell? w _ hx309_1)).trans hx309_1
       replace hx309_2 := (HB.out.cell (World.block_lt_of_cell? w _ hx309_2)).trans hx309_2
       replace hx309_3 := (HB.out.cell (World.block_lt_of_cell? w _ hx309_3)).trans hx309_3
       replace p309 := eq_true p309
       replace q309 := eq_true q309
       go_wp2_with (first | ((with_reducible refine gate_dst (N := 5) rfl ?_); refine box_ev (N := 5) (cs := #[.int .i64 0, .string (⟨#[]⟩ : ByteArray), .int .i64 0, .int .i64 0]) (t := 73) ?_; intro gb310 hg w10 hbox hb; have n0_ := RB HO_3 hb; have n1_ := BS (w := w) hb; have n2_ := Aside0.mk (hbox); have n3_ := SZ (w := w) hg; have n4_ := SZ (w := w) hg; clear HO_3 HB; have HO_3 := n0_; have HB := n1_; have BK310 := n2_; have GW310 := n3_; have GE310 := n4_; clear n0_ n1_ n2_ n3_ n4_; clear hb hbox hg; obtain ⟨hcz11_0, hcz11_1, hcz11_2, hcz11_3, hfz11_0, hfz11_1, hfz11_2, hfz11_3⟩ := cz4 BK310.out))
       go_roundg k1
       case measure => have := HK1.out; omega
       case rel => exact ⟨(x3_1), (wrap64 (x8_1 + 1)), EQ, H', ⟨by have := HK1.out; omega⟩, ⟨by (with_reducible repeat (first | apply Kd.R_alloc | apply Kd.R_drewN | apply Kd.R_drew)); exact Kd.R_mono (Kd.R_far (p := ⟨gb310, 3, none⟩) (Kd.R_far (p := ⟨gb310, 2, none⟩) (Kd.R_far (p := ⟨gb310, 1, none⟩) (Kd.R_far (p := ⟨gb310, 0, none⟩) (Kd.R_types HO_3.out BK310.out (by decide)) (fun _ hk => hk.2) (.int .i64 ((rd_T73 l0 x8_1).f0))) (fun _ hk => hk.2) (.string ((rd_T73 l0 x8_1).f1))) (fun _ hk => hk.2) (.int .i64 ((rd_T73 l0 x8_1).f2))) (fun _ hk => hk.2) (.int .i64 ((rd_T73 l0 x8_1).f3))) (fun _ hk => trivial)⟩, ⟨BL⟩⟩
     ·rw [if_neg c4] at H
      exact absurd H (by simp)
    ·rw [if_neg c3] at H
     exact absurd H (by simp)
   ·rw [if_neg c2] at H
    have c2b0 : decide (x8_1 < (l0.length : Int)) = false := decide_eq_false c2
    clear c2
    obtain rfl := Option.some.inj H
    go_wp2
    go_ret
    exact ⟨_, EWW, (RR HO_3), BL⟩
def slices_Equal_string_string.l0 : Nat → List ByteArray → List ByteArray → Int → Int → Option (Bool)
 | 0, _, _, _, _ => none
 | k + 1, x0, x1, x12, x13 => if x13 < x12 then (if 0 ≤ x13 then (if x13 < (x0.length : Int) then (if x13 < (x1.length : Int) then (if (rdOf ByteArray.empty x0 x13).toList = (rdOf ByteArray.empty x1 x13).toList then (slices_Equal_string_string.l0 k x0 x1 x12 (wrap64 (x13 + 1))) else (some false)) else (none)) else (none)) else (none)) else (some true)
def slices_Equal_string_string.f (k : Nat) (l0 : List ByteArray) (l1 : List ByteArray) : Option (Bool) := if (l0.length : Int) = (l1.length : Int) then (slices_Equal_string_string.l0 k l0 l1 (l0.length : Int) 0) else (some false)
set_option maxHeartbeats 8000000 in
set_option maxRecDepth 100000 in
theorem slices_Equal_string_string.calls (k : Nat) (A0 : Option Addr) (c0 : Nat) (l0 : List ByteArray) (A1 : Option Addr) (c1 : Nat) (l1 : List ByteArray) (r : Bool) (w : World) (hr0 : Kd.C Kd.string w A0 l0.length l0) (hc0 : l0.length ≤ c0) (hr1 : Kd.C Kd.string w A1 l1.length l1) (hc1 : l1.length ≤ c1) (h : slices_Equal_string_string.f k l0 l1 = some r) :
  Calls Try.prog 54 #[.slice A0 l0.length c0, .slice A1 l1.length c1] w fun e w' => e = .returned (.bool r) ∧ Drawn0 w w' := by
 have HR0 := Aside0.mk hr0
 have HC0 := Aside0.mk hc0
 clear hr0 hc0
 have HR1 := Aside0.mk hr1
 have HC1 := Aside0.mk hc1
 clear hr1 hc1
 have H : (if (l0.length : Int) = (l1.length : Int) then (slices_Equal_string_string.l0 k l0 l1 (l0.length : Int) 0) else (some false)) = some r := h
 clear h
 by_cases c3 : (l0.length : Int) = (l1.length : Int)
 ·rw [if_pos c3] at H
  have c3b0 : ((l0.length : Int) == (l1.length : Int)) = true := beq_iff_eq.mpr c3
  have c3b1 : ((l0.length : Int) != (l1.length : Int)) = false := bne_eq_false_iff_eq.mpr c3
  have c3b2 : (l0.length == l1.length) = true := by first | simpa using c3 | (simp at c3 ⊢; omega)
  clear c3
  have H' := Aside0.mk H
  clear H
  go_enter Try.func54, Try.ntmps54
  go_wp2
  repeat (go_quiet (fail); try go_wp2)
  go_loopg [13] k (fun kq v13 w' => ∃ (x13_1 : Int), v13 = .int .i64 x13_1 ∧ Aside0 (slices_Equal_string_string.l0 kq l0 l1 (l0.length : Int) x13_1 = some r) ∧ Aside0 (kq ≤ k) ∧ Drawn0 w w')
  case atStart => exact ⟨(0), EQ, H', ⟨Nat.le_refl _⟩, by repeat (first | exact Drawn0.refl _ | apply Drawn0.step)⟩
  case round =>
   clear H'
   try clear c1
   try clear c3
   try clear c3b0
   try clear c3b1
   try clear c3b2
   obtain ⟨x13_1, rfl, HA, HK1, ⟨m1, rfl⟩⟩ := hrel
   cases gk with
   | zero => exact absurd HA.out (by simp [slices_Equal_string_string.l0])
   | succ k1 =>
    have H := HA.out
    clear HA
    simp only [slices_Equal_string_string.l0] at H
    by_cases c4 : x13_1 < (l0.length : Int)
    ·rw [if_pos c4] at H
     have c4b0 : decide (x13_1 < (l0.length : Int)) = true := decide_eq_true c4
     clear c4
     by_cases c5 : 0 ≤ x13_1
     ·rw [if_pos c5] at H
      have c5b0 : decide (0 ≤ x13_1) = true := decide_eq_true c5
      clear c5
      by_cases c6 : x13_1 < (l0.length : Int)
      ·rw [if_pos c6] at H
       have c6b0 : decide (x13_1 < (l0.length : Int)) = true := decide_eq_true c6
       clear c6
       by_cases c7 : x13_1 < (l1.length : Int)
       ·rw [if_pos c7] at H
        have c7b0 : decide (x13_1 < (l1.length : Int)) = true := decide_eq_true c7
        clear c7
        by_cases c8 : (rdOf ByteArray.empty l0 x13_1).toList = (rdOf ByteArray.empty l1 x13_1).toList
        ·rw [if_pos c8] at H
         have c8b0 : ((rdOf ByteArray.empty l0 x13_1).toList == (rdOf ByteArray.empty l1 x13_1).toList) = true := beq_iff_eq.mpr c8
         have c8b1 : ((rdOf ByteArray.empty l0 x13_1).toList != (rdOf ByteArray.empty l1 x13_1).toList) = false := bne_eq_false_iff_eq.mpr c8
         clear c8
         have H' := Aside0.mk H
         clear H
         have p314 : 0 ≤ (x13_1 : Int) := OD
         have q314 : x13_1 < (l0.length : Int) := OD
         obtain ⟨ad314, e314, hx314_0⟩ := Kd.at_string HR0.out x13_1 p314 q314
         cases e314
         replace p314 := eq_true p314
         replace q314 := eq_true q314
         have p315 : 0 ≤ (x13_1 : Int) := OD
         have q315 : x13_1 < (l1.length : Int) := OD
         obtain ⟨ad315, e315, hx315_0⟩ := Kd.at_string HR1.out x13_1 p315 q315
         cases e315
         replace p315 := eq_true p315
         replace q315 := eq_true q315
         go_wp2
         repeat (go_quiet (fail); try go_wp2)
         go_roundg k1
         case measure => have := HK1.out; omega
         case rel => exact ⟨(wrap64 (x13_1 + 1)), EQ, H', ⟨by have := HK1.out; omega⟩, by repeat (first | exact Drawn0.refl _ | apply Drawn0.step)⟩
        ·rw [if_neg c8] at H
         have c8b0 : ((rdOf ByteArray.empty l0 x13_1).toList == (rdOf ByteArray.empty l1 x13_1).toList) = false := beq_eq_false_iff_ne.mpr c8
         have c8b1 : ((rdOf ByteArray.empty l0 x13_1).toList != (rdOf ByteArray.empty l1 x13_1).toList) = true := bne_iff_ne.mpr c8
         obtain rfl := Option.some.inj H
         have p314 : 0 ≤ (x13_1 : Int) := OD
         have q314 : x13_1 < (l0.length : Int) := OD
         obtain ⟨ad314, e314, hx314_0⟩ := Kd.at_string HR0.out x13_1 p314 q314
         cases e314
         replace p314 := eq_true p314
         replace q314 := eq_true q314
         have p315 : 0 ≤ (x13_1 : Int) := OD
         have q315 : x13_1 < (l1.length : Int) := OD
         obtain ⟨ad315, e315, hx315_0⟩ := Kd.at_string HR1.out x13_1 p315 q315
         cases e315
         replace p315 := eq_true p315
         replace q315 := eq_true q315
         go_wp2
         repeat (go_quiet (fail); try go_wp2)
         go_ret
         exact ⟨by first | rfl | (simp; done) | (simp [*]; done), by repeat (first | exact Drawn0.refl _ | apply Drawn0.step)⟩
       ·rw [if_neg c7] at H
        exact absurd H (by simp)
      ·rw [if_neg c6] at H
       exact absurd H (by simp)
     ·rw [if_neg c5] at H
      exact absurd H (by simp)
    ·rw [if_neg c4] at H
     have c4b0 : decide (x13_1 < (l0.length : Int)) = false := decide_eq_false c4
     clear c4
     obtain rfl := Option.some.inj H
     go_wp2
     repeat (go_quiet (fail); try go_wp2)
     go_ret
     exact ⟨by first | rfl | (simp; done) | (simp [*]; done), by repeat (first | exact Drawn0.refl _ | apply Drawn0.step)⟩
 ·rw [if_neg c3] at H
  have c3b0 : ((l0.length : Int) == (l1.length : Int)) = false := beq_eq_false_iff_ne.mpr c3
  have c3b1 : ((l0.length : Int) != (l1.length : Int)) = true := bne_iff_ne.mpr c3
  have c3b2 : (l0.length == l1.length) = false := by first | simpa using c3 | (simp at c3 ⊢; omega)
  obtain rfl := Option.some.inj H
  go_enter Try.func54, Try.ntmps54
  go_wp2
  repeat (go_quiet (fail); try go_wp2)
  go_ret
  exact ⟨by first | rfl | (simp; done) | (simp [*]; done), by repeat (first | exact Drawn0.refl _ | apply Drawn0.step)⟩
def impl_FairCode.f (k : Nat) (a0_0 : Int) (l0_1 : List (S73)) (l1 : List (S54)) (l2 : List ByteArray) (a3 : ByteArray) : Option (Int) := (impl_IsClue.f k a0_0 l0_1).bind fun t317 => (if t317 = true then ((impl_HasSense.f k l1 a3 a0_0).bind fun t318 => (if t318 = true then ((impl_Makes.f k l0_1 a3).bind fun t319 => (if t319 = true then ((impl_UsedWords.f k l0_1).bind fun t320 => ((slices_Contains_string_string.f k t320 a3).bind fun t323 => (if t323 = true then (some 4) else ((impl_AnswersTo.f k a0_0 l0_1 l1 l2).bind fun t324 => ((slices_Equal_string_string.f k t324 (([a3] : List ByteArray))).bind fun t330 => (if t330 = true then (some 0) else (some 5))))))) else (some 3))) else (some 2))) else (some 1))
set_option maxHeartbeats 8000000 in
set_option maxRecDepth 100000 in
theorem impl_FairCode.calls (k : Nat) (a0_0 : Int) (A0_1 : Option Addr) (c0_1 : Nat) (l0_1 : List (S73)) (A1 : Option Addr) (c1 : Nat) (l1 : List (S54)) (A2 : Option Addr) (c2 : Nat) (l2 : List ByteArray) (a3 : ByteArray) (r : Int) (w : World) (hr0_1 : Kd.C k73 w A0_1 l0_1.length l0_1) (hc0_1 : l0_1.length ≤ c0_1) (hr1 : Kd.C k54 w A1 l1.length l1) (hc1 : l1.length ≤ c1) (hr2 : Kd.C Kd.string w A2 l2.length l2) (hc2 : l2.length ≤ c2) (h : impl_FairCode.f k a0_0 l0_1 l1 l2 a3 = some r) :
  Calls Try.prog 28 #[.agg #[.int .i64 a0_0, .slice A0_1 l0_1.length c0_1], .slice A1 l1.length c1, .slice A2 l2.length c2, .string a3] w fun e w' => e = .returned (.int .i64 r) ∧ Below w.heap.size w w' := by
 have hu33 := Try.underlying33
 have HR0_1 := Aside0.mk hr0_1
 have HC0_1 := Aside0.mk hc0_1
 clear hr0_1 hc0_1
 have HR1 := Aside0.mk hr1
 have HC1 := Aside0.mk hc1
 clear hr1 hc1
 have HR2 := Aside0.mk hr2
 have HC2 := Aside0.mk hc2
 clear hr2 hc2
 have HB := Aside0.mk (Below.refl w.heap.size w)
 have H : ((impl_IsClue.f k a0_0 l0_1).bind fun t317 => (if t317 = true then ((impl_HasSense.f k l1 a3 a0_0).bind fun t318 => (if t318 = true then ((impl_Makes.f k l0_1 a3).bind fun t319 => (if t319 = true then ((impl_UsedWords.f k l0_1).bind fun t320 => ((slices_Contains_string_string.f k t320 a3).bind fun t323 => (if t323 = true then (some 4) else ((impl_AnswersTo.f k a0_0 l0_1 l1 l2).bind fun t324 => ((slices_Equal_string_string.f k t324 (([a3] : List ByteArray))).bind fun t330 => (if t330 = true then (some 0) else (some 5))))))) else (some 3))) else (some 2))) else (some 1))) = some r := h
 clear h
 replace H := Option.bind_eq_some_iff.mp H
 obtain ⟨t317, A50, H⟩ := H
 replace H : (if t317 = true then ((impl_HasSense.f k l1 a3 a0_0).bind fun t318 => (if t318 = true then ((impl_Makes.f k l0_1 a3).bind fun t319 => (if t319 = true then ((impl_UsedWords.f k l0_1).bind fun t320 => ((slices_Contains_string_string.f k t320 a3).bind fun t323 => (if t323 = true then (some 4) else ((impl_AnswersTo.f k a0_0 l0_1 l1 l2).bind fun t324 => ((slices_Equal_string_string.f k t324 (([a3] : List ByteArray))).bind fun t330 => (if t330 = true then (some 0) else (some 5))))))) else (some 3))) else (some 2))) else (some 1)) = some r := H
 have A5 := Aside0.mk A50
 clear A50
 by_cases c6 : t317 = true
 ·subst c6
  have H1 : ((impl_HasSense.f k l1 a3 a0_0).bind fun t318 => (if t318 = true then ((impl_Makes.f k l0_1 a3).bind fun t319 => (if t319 = true then ((impl_UsedWords.f k l0_1).bind fun t320 => ((slices_Contains_string_string.f k t320 a3).bind fun t323 => (if t323 = true then (some 4) else ((impl_AnswersTo.f k a0_0 l0_1 l1 l2).bind fun t324 => ((slices_Equal_string_string.f k t324 (([a3] : List ByteArray))).bind fun t330 => (if t330 = true then (some 0) else (some 5))))))) else (some 3))) else (some 2))) = some r := by rw [if_pos rfl] at H; exact H
  clear H
  have H := H1
  clear H1
  replace H := Option.bind_eq_some_iff.mp H
  obtain ⟨t318, A70, H⟩ := H
  replace H : (if t318 = true then ((impl_Makes.f k l0_1 a3).bind fun t319 => (if t319 = true then ((impl_UsedWords.f k l0_1).bind fun t320 => ((slices_Contains_string_string.f k t320 a3).bind fun t323 => (if t323 = true then (some 4) else ((impl_AnswersTo.f k a0_0 l0_1 l1 l2).bind fun t324 => ((slices_Equal_string_string.f k t324 (([a3] : List ByteArray))).bind fun t330 => (if t330 = true then (some 0) else (some 5))))))) else (some 3))) else (some 2)) = some r := H
  have A7 := Aside0.mk A70
  clear A70
  by_cases c8 : t318 = true
  ·subst c8
   have H1 : ((impl_Makes.f k l0_1 a3).bind fun t319 => (if t319 = true then ((impl_UsedWords.f k l0_1).bind fun t320 => ((slices_Contains_string_string.f k t320 a3).bind fun t323 => (if t323 = true then (some 4) else ((impl_AnswersTo.f k a0_0 l0_1 l1 l2).bind fun t324 => ((slices_Equal_string_string.f k t324 (([a3] : List ByteArray))).bind fun t330 => (if t330 = true then (some 0) else (some 5))))))) else (some 3))) = some r := by rw [if_pos rfl] at H; exact H
   clear H
   have H := H1
   clear H1
   replace H := Option.bind_eq_some_iff.mp H
   obtain ⟨t319, A90, H⟩ := H
   replace H : (if t319 = true then ((impl_UsedWords.f k l0_1).bind fun t320 => ((slices_Contains_string_string.f k t320 a3).bind fun t323 => (if t323 = true then (some 4) else ((impl_AnswersTo.f k a0_0 l0_1 l1 l2).bind fun t324 => ((slices_Equal_string_string.f k t324 (([a3] : List ByteArray))).bind fun t330 => (if t330 = true then (some 0) else (some 5))))))) else (some 3)) = some r := H
   have A9 := Aside0.mk A90
   clear A90
   by_cases c10 : t319 = true
   ·subst c10
    have H1 : ((impl_UsedWords.f k l0_1).bind fun t320 => ((slices_Contains_string_string.f k t320 a3).bind fun t323 => (if t323 = true then (some 4) else ((impl_AnswersTo.f k a0_0 l0_1 l1 l2).bind fun t324 => ((slices_Equal_string_string.f k t324 (([a3] : List ByteArray))).bind fun t330 => (if t330 = true then (some 0) else (some 5))))))) = some r := by rw [if_pos rfl] at H; exact H
    clear H
    have H := H1
    clear H1
    replace H := Option.bind_eq_some_iff.mp H
    obtain ⟨t320, A110, H⟩ := H
    replace H : ((slices_Contains_string_string.f k t320 a3).bind fun t323 => (if t323 = true then (some 4) else ((impl_AnswersTo.f k a0_0 l0_1 l1 l2).bind fun t324 => ((slices_Equal_string_string.f k t324 (([a3] : List ByteArray))).bind fun t330 => (if t330 = true then (some 0) else (some 5)))))) = some r := H
    have A11 := Aside0.mk A110
    clear A110
    replace H := Option.bind_eq_some_iff.mp H
    obtain ⟨t323, A120, H⟩ := H
    replace H : (if t323 = true then (some 4) else ((impl_AnswersTo.f k a0_0 l0_1 l1 l2).bind fun t324 => ((slices_Equal_string_string.f k t324 (([a3] : List ByteArray))).bind fun t330 => (if t330 = true then (some 0) else (some 5))))) = some r := H
    have A12 := Aside0.mk A120
    clear A120
    by_cases c13 : t323 = true
    ·subst c13
     have H1 : (some 4) = some r := by rw [if_pos rfl] at H; exact H
     clear H
     have H := H1
     clear H1
     obtain rfl := Option.some.inj H
     go_enter Try.func28, Try.ntmps28
     go_wp2_with (first | ((with_reducible refine gate_dst (N := 4) rfl ?_); refine box_ev (N := 4) (cs := #[.int .i64 a0_0, .slice A0_1 l0_1.length c0_1]) (t := 33) ?_; intro gb316 hg w14 hbox hb; have n0_ := BS (w := w) hb; have n1_ := Aside0.mk (hbox); have n2_ := SZ (w := w) hg; have n3_ := SZ (w := w) hg; clear HB; have HB := n0_; have BK316 := n1_; have GW316 := n2_; have GE316 := n3_; clear n0_ n1_ n2_ n3_; clear hb hbox hg; obtain ⟨hcz15_0, hcz15_1, hfz15_0, hfz15_1⟩ := cz2 BK316.out) | ((with_reducible refine gate_callee (f := 49) rfl ?_); refine goesS (some 11) Try.func49 #[.agg #[.int .i64 a0_0, .slice A0_1 l0_1.length c0_1]] ?_; (with_reducible refine (impl_IsClue.calls k a0_0 _ _ l0_1 true _ ?side1 ?side2 A5.out).mono ?_); (case side1 => exact CB HR0_1); (case side2 => exact HC0_1.out); rintro e w16 ⟨rfl, hb⟩; refine ⟨_, rfl, ?_⟩; have n0_ := KB BK316 hb; have n1_ := BS (w := w) hb; clear BK316 HB; have BK316 := n0_; have HB := n1_; clear n0_ n1_; (try clear hb); obtain ⟨hcz17_0, hcz17_1, hfz17_0, hfz17_1⟩ := cz2 BK316.out) | ((with_reducible refine gate_callee (f := 50) rfl ?_); refine goesS (some 18) Try.func50 #[.slice A1 l1.length c1, .string a3, .int .i64 a0_0] ?_; (with_reducible refine (impl_HasSense.calls k _ _ l1 a3 a0_0 true _ ?side1 ?side2 A7.out).mono ?_); (case side1 => exact CB HR1); (case side2 => exact HC1.out); rintro e w18 ⟨rfl, hb⟩; refine ⟨_, rfl, ?_⟩; have n0_ := KB BK316 hb; have n1_ := BS (w := w) hb; clear BK316 HB; have BK316 := n0_; have HB := n1_; clear n0_ n1_; (try clear hb); obtain ⟨hcz19_0, hcz19_1, hfz19_0, hfz19_1⟩ := cz2 BK316.out) | ((with_reducible refine gate_callee (f := 51) rfl ?_); refine goesS (some 24) Try.func51 #[.slice A0_1 l0_1.length c0_1, .string a3] ?_; (with_reducible refine (impl_Makes.calls k _ _ l0_1 a3 true _ ?side1 ?side2 A9.out).mono ?_); (case side1 => exact CB HR0_1); (case side2 => exact HC0_1.out); rintro e w20 ⟨rfl, hb⟩; refine ⟨_, rfl, ?_⟩; have n0_ := KB BK316 hb; have n1_ := BS (w := w) hb; clear BK316 HB; have BK316 := n0_; have HB := n1_; clear n0_ n1_; (try clear hb); obtain ⟨hcz21_0, hcz21_1, hfz21_0, hfz21_1⟩ := cz2 BK316.out) | ((with_reducible refine gate_callee (f := 53) rfl ?_); refine goesS (some 29) Try.func53 #[.slice A0_1 l0_1.length c0_1] ?_; (with_reducible refine (impl_UsedWords.calls k _ _ l0_1 t320 _ ?side1 ?side2 A11.out).mono ?_); (case side1 => exact CB HR0_1); (case side2 => exact HC0_1.out); rintro e w22 ⟨v321, rfl, ho0, hb⟩; refine ⟨_, rfl, ?_⟩; have n0_ := Aside0.mk (Kd.R_lower ho0 (below_size BL)); have n1_ := KB BK316 hb; have n2_ := BS (w := w) hb; clear BK316 HB; have HO322 := n0_; have BK316 := n1_; have HB := n2_; clear n0_ n1_ n2_; (try clear hb); (try clear ho0); obtain ⟨Ao23, co23, eo23⟩ := Kd.R_slice HO322.out; subst eo23) | ((with_reducible refine gate_callee (f := 52) rfl ?_); refine goesS (some 31) Try.func52 #[.slice Ao23 t320.length co23, .string a3] ?_; (with_reducible refine (slices_Contains_string_string.calls k _ _ t320 a3 true _ ?side1 ?side2 A12.out).mono ?_); (case side1 => exact CR2 HO322); (case side2 => exact (Kd.R_reads' HO322.out).2.1); rintro e w' ⟨rfl, ⟨nd, rfl⟩⟩; refine ⟨_, rfl, ?_⟩))
     go_ret
     exact ⟨EWW, BL⟩
    ·replace c13 := Bool.eq_false_iff.mpr c13
     subst c13
     have H1 : ((impl_AnswersTo.f k a0_0 l0_1 l1 l2).bind fun t324 => ((slices_Equal_string_string.f k t324 (([a3] : List ByteArray))).bind fun t330 => (if t330 = true then (some 0) else (some 5)))) = some r := by rw [if_neg (show ¬ (false = true) by decide)] at H; exact H
     clear H
     have H := H1
     clear H1
     replace H := Option.bind_eq_some_iff.mp H
     obtain ⟨t324, A240, H⟩ := H
     replace H : ((slices_Equal_string_string.f k t324 (([a3] : List ByteArray))).bind fun t330 => (if t330 = true then (some 0) else (some 5))) = some r := H
     have A24 := Aside0.mk A240
     clear A240
     obtain ⟨y327, hy327⟩ : ∃ y_ : List ByteArray, y_ = (([a3] : List ByteArray)) := ⟨_, rfl⟩
     replace H : ((slices_Equal_string_string.f k t324 y327).bind fun t330 => (if t330 = true then (some 0) else (some 5))) = some r := by first | (rw [hy327]; with_reducible exact H) | (have H2_ := (Option.bind_some _ _).symm.trans H; rw [hy327]; with_reducible exact H2_) | (have H2_ := (Option.bind_some _ _).symm.trans H; with_reducible exact H2_) | with_reducible exact H | (rw [hy327]; exact H) | exact H
     have Ny327 := Aside0.mk hy327
     clear hy327
     replace H := Option.bind_eq_some_iff.mp H
     obtain ⟨t330, A250, H⟩ := H
     replace H : (if t330 = true then (some 0) else (some 5)) = some r := H
     have A25 := Aside0.mk A250
     clear A250
     by_cases c26 : t330 = true
     ·subst c26
      have H1 : (some 0) = some r := by rw [if_pos rfl] at H; exact H
      clear H
      have H := H1
      clear H1
      obtain rfl := Option.some.inj H
      go_enter Try.func28, Try.ntmps28
      go_wp2_with (first | ((with_reducible refine gate_dst (N := 4) rfl ?_); refine box_ev (N := 4) (cs := #[.int .i64 a0_0, .slice A0_1 l0_1.length c0_1]) (t := 33) ?_; intro gb316 hg w27 hbox hb; have n0_ := BS (w := w) hb; have n1_ := Aside0.mk (hbox); have n2_ := SZ (w := w) hg; have n3_ := SZ (w := w) hg; clear HB; have HB := n0_; have BK316 := n1_; have GW316 := n2_; have GE316 := n3_; clear n0_ n1_ n2_ n3_; clear hb hbox hg; obtain ⟨hcz28_0, hcz28_1, hfz28_0, hfz28_1⟩ := cz2 BK316.out) | ((with_reducible refine gate_callee (f := 49) rfl ?_); refine goesS (some 11) Try.func49 #[.agg #[.int .i64 a0_0, .slice A0_1 l0_1.length c0_1]] ?_; (with_reducible refine (impl_IsClue.calls k a0_0 _ _ l0_1 true _ ?side1 ?side2 A5.out).mono ?_); (case side1 => exact CB HR0_1); (case side2 => exact HC0_1.out); rintro e w29 ⟨rfl, hb⟩; refine ⟨_, rfl, ?_⟩; have n0_ := KB BK316 hb; have n1_ := BS (w := w) hb; clear BK316 HB; have BK316 := n0_; have HB := n1_; clear n0_ n1_; (try clear hb); obtain ⟨hcz30_0, hcz30_1, hfz30_0, hfz30_1⟩ := cz2 BK316.out) | ((with_reducible refine gate_callee (f := 50) rfl ?_); refine goesS (some 18) Try.func50 #[.slice A1 l1.length c1, .string a3, .int .i64 a0_0] ?_; (with_reducible refine (impl_HasSense.calls k _ _ l1 a3 a0_0 true _ ?side1 ?side2 A7.out).mono ?_); (case side1 => exact CB HR1); (case side2 => exact HC1.out); rintro e w31 ⟨rfl, hb⟩; refine ⟨_, rfl, ?_⟩; have n0_ := KB BK316 hb; have n1_ := BS (w := w) hb; clear BK316 HB; have BK316 := n0_; have HB := n1_; clear n0_ n1_; (try clear hb); obtain ⟨hcz32_0, hcz32_1, hfz32_0, hfz32_1⟩ := cz2 BK316.out) | ((with_reducible refine gate_callee (f := 51) rfl ?_); refine goesS (some 24) Try.func51 #[.slice A0_1 l0_1.length c0_1, .string a3] ?_; (with_reducible refine (impl_Makes.calls k _ _ l0_1 a3 true _ ?side1 ?side2 A9.out).mono ?_); (case side1 => exact CB HR0_1); (case side2 => exact HC0_1.out); rintro e w33 ⟨rfl, hb⟩; refine ⟨_, rfl, ?_⟩; have n0_ := KB BK316 hb; have n1_ := BS (w := w) hb; clear BK316 HB; have BK316 := n0_; have HB := n1_; clear n0_ n1_; (try clear hb); obtain ⟨hcz34_0, hcz34_1, hfz34_0, hfz34_1⟩ := cz2 BK316.out) | ((with_reducible refine gate_callee (f := 53) rfl ?_); refine goesS (some 29) Try.func53 #[.slice A0_1 l0_1.length c0_1] ?_; (with_reducible refine (impl_UsedWords.calls k _ _ l0_1 t320 _ ?side1 ?side2 A11.out).mono ?_); (case side1 => exact CB HR0_1); (case side2 => exact HC0_1.out); rintro e w35 ⟨v321, rfl, ho0, hb⟩; refine ⟨_, rfl, ?_⟩; have n0_ := Aside0.mk (Kd.R_lower ho0 (below_size BL)); have n1_ := KB BK316 hb; have n2_ := BS (w := w) hb; clear BK316 HB; have HO322 := n0_; have BK316 := n1_; have HB := n2_; clear n0_ n1_ n2_; (try clear hb); (try clear ho0); obtain ⟨Ao36, co36, eo36⟩ := Kd.R_slice HO322.out; subst eo36) | ((with_reducible refine gate_callee (f := 52) rfl ?_); refine goesS (some 31) Try.func52 #[.slice Ao36 t320.length co36, .string a3] ?_; (with_reducible refine (slices_Contains_string_string.calls k _ _ t320 a3 false _ ?side1 ?side2 A12.out).mono ?_); (case side1 => exact CR2 HO322); (case side2 => exact (Kd.R_reads' HO322.out).2.1); rintro e w' ⟨rfl, ⟨nd, rfl⟩⟩; refine ⟨_, rfl, ?_⟩; obtain ⟨hcz37_0, hcz37_1, hfz37_0, hfz37_1⟩ := cz2 BK316.out) | ((with_reducible refine gate_callee (f := 22) rfl ?_); refine goesS (some 36) Try.func22 #[.agg #[.int .i64 a0_0, .slice A0_1 l0_1.length c0_1], .slice A1 l1.length c1, .slice A2 l2.length c2] ?_; (with_reducible refine (impl_AnswersTo.calls k a0_0 _ _ l0_1 _ _ l1 _ _ l2 t324 _ ?side1 ?side2 ?side3 ?side4 ?side5 ?side6 A24.out).mono ?_); (case side1 => repeat (first | exact (Kd.C_below HR0_1.out BL) | (with_reducible refine Kd.C_alloc ?_ _) | (with_reducible refine Kd.C_drewN ?_ _) | (with_reducible refine Kd.C_drew ?_))); (case side2 => exact HC0_1.out); (case side3 => repeat (first | exact (Kd.C_below HR1.out BL) | (with_reducible refine Kd.C_alloc ?_ _) | (with_reducible refine Kd.C_drewN ?_ _) | (with_reducible refine Kd.C_drew ?_))); (case side4 => exact HC1.out); (case side5 => repeat (first | exact (Kd.C_below HR2.out BL) | (with_reducible refine Kd.C_alloc ?_ _) | (with_reducible refine Kd.C_drewN ?_ _) | (with_reducible refine Kd.C_drew ?_))); (case side6 => exact HC2.out); rintro e w38 ⟨v325, rfl, ho0, hb⟩; refine ⟨_, rfl, ?_⟩; have n0_ := Aside0.mk (Kd.R_elder' (RR HO322) (Kd.R_base ho0) hb); have n1_ := Aside0.mk (Kd.R_lower (Kd.R_new' ho0 (Kd.R_lt (RR HO322))) (below_size BL)); have n2_ := KB BK316 hb; have n3_ := BS (w := w) hb; clear HO322 BK316 HB; have HO322 := n0_; have HO326 := n1_; have BK316 := n2_; have HB := n3_; clear n0_ n1_ n2_ n3_; (try clear hb); (try clear ho0)) | ((with_reducible refine gate_dst (N := 38) rfl ?_); refine Kd.R_lit Kd.string _ 9 ?hg (N := 38) ?hd (xs := ([a3] : List ByteArray)) (inner := [.string a3]) (ok := fun _ => True) (okp := fun _ => True) ?hr ?hp (fun _ hk => hk) trivial (Below.refl _ _) (Nat.le_refl _) (by simp) ?_; (case hd => rfl); (case hg => rfl); (case hr => first | (go_simp; done) | (go_simp; rfl)); (case hp => exact (Reps.one (show Kd.M Kd.string _ _ _ a3 [.string a3] from rfl) (Reps.none _ _))); intro v328 w39 ho40 hb hg_ hnew_; clear hg_ hnew_; (first | rw [← Ny327.out] at ho40 | (simp only [Int.reduceToNat] at ho40; rw [← Ny327.out] at ho40)); have n0_ := Aside0.mk (Kd.R_elder' (RR HO322) (Kd.R_base ho40) hb); have n1_ := Aside0.mk (Kd.R_elder' (RR HO326) (Kd.R_base ho40) hb); have n2_ := Aside0.mk (Kd.R_lower (Kd.R_new' (Kd.R_new' ho40 (Kd.R_lt (RR HO322))) (Kd.R_lt (RR HO326))) (below_size BL)); have n3_ := KB BK316 hb; have n4_ := BS (w := w) hb; clear HO322 HO326 BK316 HB; have HO322 := n0_; have HO326 := n1_; have HO329 := n2_; have BK316 := n3_; have HB := n4_; clear n0_ n1_ n2_ n3_ n4_; clear hb ho40; obtain ⟨Ao41, co41, eo41⟩ := Kd.R_slice HO326.out; subst eo41; obtain ⟨Ao42, co42, eo42⟩ := Kd.R_slice HO329.out; subst eo42) | ((with_reducible refine gate_callee (f := 54) rfl ?_); refine goesS (some 39) Try.func54 #[.slice Ao41 t324.length co41, .slice Ao42 y327.length co42] ?_; (with_reducible refine (slices_Equal_string_string.calls k _ _ t324 _ _ y327 true _ ?side1 ?side2 ?side3 ?side4 A25.out).mono ?_); (case side1 => exact CR2 HO326); (case side2 => exact (Kd.R_reads' HO326.out).2.1); (case side3 => exact CR2 HO329); (case side4 => exact (Kd.R_reads' HO329.out).2.1); rintro e w' ⟨rfl, ⟨nd, rfl⟩⟩; refine ⟨_, rfl, ?_⟩))
      go_ret
      exact ⟨EWW, BL⟩
     ·replace c26 := Bool.eq_false_iff.mpr c26
      subst c26
      have H1 : (some 5) = some r := by rw [if_neg (show ¬ (false = true) by decide)] at H; exact H
      clear H
      have H := H1
      clear H1
      obtain rfl := Option.some.inj H
      go_enter Try.func28, Try.ntmps28
      go_wp2_with (first | ((with_reducible refine gate_dst (N := 4) rfl ?_); refine box_ev (N := 4) (cs := #[.int .i64 a0_0, .slice A0_1 l0_1.length c0_1]) (t := 33) ?_; intro gb316 hg w43 hbox hb; have n0_ := BS (w := w) hb; have n1_ := Aside0.mk (hbox); have n2_ := SZ (w := w) hg; have n3_ := SZ (w := w) hg; clear HB; have HB := n0_; have BK316 := n1_; have GW316 := n2_; have GE316 := n3_; clear n0_ n1_ n2_ n3_; clear hb hbox hg; obtain ⟨hcz44_0, hcz44_1, hfz44_0, hfz44_1⟩ := cz2 BK316.out) | ((with_reducible refine gate_callee (f := 49) rfl ?_); refine goesS (some 11) Try.func49 #[.agg #[.int .i64 a0_0, .slice A0_1 l0_1.length c0_1]] ?_; (with_reducible refine (impl_IsClue.calls k a0_0 _ _ l0_1 true _ ?side1 ?side2 A5.out).mono ?_); (case side1 => exact CB HR0_1); (case side2 => exact HC0_1.out); rintro e w45 ⟨rfl, hb⟩; refine ⟨_, rfl, ?_⟩; have n0_ := KB BK316 hb; have n1_ := BS (w := w) hb; clear BK316 HB; have BK316 := n0_; have HB := n1_; clear n0_ n1_; (try clear hb); obtain ⟨hcz46_0, hcz46_1, hfz46_0, hfz46_1⟩ := cz2 BK316.out) | ((with_reducible refine gate_callee (f := 50) rfl ?_); refine goesS (some 18) Try.func50 #[.slice A1 l1.length c1, .string a3, .int .i64 a0_0] ?_; (with_reducible refine (impl_HasSense.calls k _ _ l1 a3 a0_0 true _ ?side1 ?side2 A7.out).mono ?_); (case side1 => exact CB HR1); (case side2 => exact HC1.out); rintro e w47 ⟨rfl, hb⟩; refine ⟨_, rfl, ?_⟩; have n0_ := KB BK316 hb; have n1_ := BS (w := w) hb; clear BK316 HB; have BK316 := n0_; have HB := n1_; clear n0_ n1_; (try clear hb); obtain ⟨hcz48_0, hcz48_1, hfz48_0, hfz48_1⟩ := cz2 BK316.out) | ((with_reducible refine gate_callee (f := 51) rfl ?_); refine goesS (some 24) Try.func51 #[.slice A0_1 l0_1.length c0_1, .string a3] ?_; (with_reducible refine (impl_Makes.calls k _ _ l0_1 a3 true _ ?side1 ?side2 A9.out).mono ?_); (case side1 => exact CB HR0_1); (case side2 => exact HC0_1.out); rintro e w49 ⟨rfl, hb⟩; refine ⟨_, rfl, ?_⟩; have n0_ := KB BK316 hb; have n1_ := BS (w := w) hb; clear BK316 HB; have BK316 := n0_; have HB := n1_; clear n0_ n1_; (try clear hb); obtain ⟨hcz50_0, hcz50_1, hfz50_0, hfz50_1⟩ := cz2 BK316.out) | ((with_reducible refine gate_callee (f := 53) rfl ?_); refine goesS (some 29) Try.func53 #[.slice A0_1 l0_1.length c0_1] ?_; (with_reducible refine (impl_UsedWords.calls k _ _ l0_1 t320 _ ?side1 ?side2 A11.out).mono ?_); (case side1 => exact CB HR0_1); (case side2 => exact HC0_1.out); rintro e w51 ⟨v321, rfl, ho0, hb⟩; refine ⟨_, rfl, ?_⟩; have n0_ := Aside0.mk (Kd.R_lower ho0 (below_size BL)); have n1_ := KB BK316 hb; have n2_ := BS (w := w) hb; clear BK316 HB; have HO322 := n0_; have BK316 := n1_; have HB := n2_; clear n0_ n1_ n2_; (try clear hb); (try clear ho0); obtain ⟨Ao52, co52, eo52⟩ := Kd.R_slice HO322.out; subst eo52) | ((with_reducible refine gate_callee (f := 52) rfl ?_); refine goesS (some 31) Try.func52 #[.slice Ao52 t320.length co52, .string a3] ?_; (with_reducible refine (slices_Contains_string_string.calls k _ _ t320 a3 false _ ?side1 ?side2 A12.out).mono ?_); (case side1 => exact CR2 HO322); (case side2 => exact (Kd.R_reads' HO322.out).2.1); rintro e w' ⟨rfl, ⟨nd, rfl⟩⟩; refine ⟨_, rfl, ?_⟩; obtain ⟨hcz53_0, hcz53_1, hfz53_0, hfz53_1⟩ := cz2 BK316.out) | ((with_reducible refine gate_callee (f := 22) rfl ?_); refine goesS (some 36) Try.func22 #[.agg #[.int .i64 a0_0, .slice A0_1 l0_1.length c0_1], .slice A1 l1.length c1, .slice A2 l2.length c2] ?_; (with_reducible refine (impl_AnswersTo.calls k a0_0 _ _ l0_1 _ _ l1 _ _ l2 t324 _ ?side1 ?side2 ?side3 ?side4 ?side5 ?side6 A24.out).mono ?_); (case side1 => repeat (first | exact (Kd.C_below HR0_1.out BL) | (with_reducible refine Kd.C_alloc ?_ _) | (with_reducible refine Kd.C_drewN ?_ _) | (with_reducible refine Kd.C_drew ?_))); (case side2 => exact HC0_1.out); (case side3 => repeat (first | exact (Kd.C_below HR1.out BL) | (with_reducible refine Kd.C_alloc ?_ _) | (with_reducible refine Kd.C_drewN ?_ _) | (with_reducible refine Kd.C_drew ?_))); (case side4 => exact HC1.out); (case side5 => repeat (first | exact (Kd.C_below HR2.out BL) | (with_reducible refine Kd.C_alloc ?_ _) | (with_reducible refine Kd.C_drewN ?_ _) | (with_reducible refine Kd.C_drew ?_))); (case side6 => exact HC2.out); rintro e w54 ⟨v325, rfl, ho0, hb⟩; refine ⟨_, rfl, ?_⟩; have n0_ := Aside0.mk (Kd.R_elder' (RR HO322) (Kd.R_base ho0) hb); have n1_ := Aside0.mk (Kd.R_lower (Kd.R_new' ho0 (Kd.R_lt (RR HO322))) (below_size BL)); have n2_ := KB BK316 hb; have n3_ := BS (w := w) hb; clear HO322 BK316 HB; have HO322 := n0_; have HO326 := n1_; have BK316 := n2_; have HB := n3_; clear n0_ n1_ n2_ n3_; (try clear hb); (try clear ho0)) | ((with_reducible refine gate_dst (N := 38) rfl ?_); refine Kd.R_lit Kd.string _ 9 ?hg (N := 38) ?hd (xs := ([a3] : List ByteArray)) (inner := [.string a3]) (ok := fun _ => True) (okp := fun _ => True) ?hr ?hp (fun _ hk => hk) trivial (Below.refl _ _) (Nat.le_refl _) (by simp) ?_; (case hd => rfl); (case hg => rfl); (case hr => first | (go_simp; done) | (go_simp; rfl)); (case hp => exact (Reps.one (show Kd.M Kd.string _ _ _ a3 [.string a3] from rfl) (Reps.none _ _))); intro v328 w55 ho56 hb hg_ hnew_; clear hg_ hnew_; (first | rw [← Ny327.out] at ho56 | (simp only [Int.reduceToNat] at ho56; rw [← Ny327.out] at ho56)); have n0_ := Aside0.mk (Kd.R_elder' (RR HO322) (Kd.R_base ho56) hb); have n1_ := Aside0.mk (Kd.R_elder' (RR HO326) (Kd.R_base ho56) hb); have n2_ := Aside0.mk (Kd.R_lower (Kd.R_new' (Kd.R_new' ho56 (Kd.R_lt (RR HO322))) (Kd.R_lt (RR HO326))) (below_size BL)); have n3_ := KB BK316 hb; have n4_ := BS (w := w) hb; clear HO322 HO326 BK316 HB; have HO322 := n0_; have HO326 := n1_; have HO329 := n2_; have BK316 := n3_; have HB := n4_; clear n0_ n1_ n2_ n3_ n4_; clear hb ho56; obtain ⟨Ao57, co57, eo57⟩ := Kd.R_slice HO326.out; subst eo57; obtain ⟨Ao58, co58, eo58⟩ := Kd.R_slice HO329.out; subst eo58) | ((with_reducible refine gate_callee (f := 54) rfl ?_); refine goesS (some 39) Try.func54 #[.slice Ao57 t324.length co57, .slice Ao58 y327.length co58] ?_; (with_reducible refine (slices_Equal_string_string.calls k _ _ t324 _ _ y327 false _ ?side1 ?side2 ?side3 ?side4 A25.out).mono ?_); (case side1 => exact CR2 HO326); (case side2 => exact (Kd.R_reads' HO326.out).2.1); (case side3 => exact CR2 HO329); (case side4 => exact (Kd.R_reads' HO329.out).2.1); rintro e w' ⟨rfl, ⟨nd, rfl⟩⟩; refine ⟨_, rfl, ?_⟩))
      go_ret
      exact ⟨EWW, BL⟩
   ·replace c10 := Bool.eq_false_iff.mpr c10
    subst c10
    have H1 : (some 3) = some r := by rw [if_neg (show ¬ (false = true) by decide)] at H; exact H
    clear H
    have H := H1
    clear H1
    obtain rfl := Option.some.inj H
    go_enter Try.func28, Try.ntmps28
    go_wp2_with (first | ((with_reducible refine gate_dst (N := 4) rfl ?_); refine box_ev (N := 4) (cs := #[.int .i64 a0_0, .slice A0_1 l0_1.length c0_1]) (t := 33) ?_; intro gb316 hg w59 hbox hb; have n0_ := BS (w := w) hb; have n1_ := Aside0.mk (hbox); have n2_ := SZ (w := w) hg; have n3_ := SZ (w := w) hg; clear HB; have HB := n0_; have BK316 := n1_; have GW316 := n2_; have GE316 := n3_; clear n0_ n1_ n2_ n3_; clear hb hbox hg; obtain ⟨hcz60_0, hcz60_1, hfz60_0, hfz60_1⟩ := cz2 BK316.out) | ((with_reducible refine gate_callee (f := 49) rfl ?_); refine goesS (some 11) Try.func49 #[.agg #[.int .i64 a0_0, .slice A0_1 l0_1.length c0_1]] ?_; (with_reducible refine (impl_IsClue.calls k a0_0 _ _ l0_1 true _ ?side1 ?side2 A5.out).mono ?_); (case side1 => exact CB HR0_1); (case side2 => exact HC0_1.out); rintro e w61 ⟨rfl, hb⟩; refine ⟨_, rfl, ?_⟩; have n0_ := KB BK316 hb; have n1_ := BS (w := w) hb; clear BK316 HB; have BK316 := n0_; have HB := n1_; clear n0_ n1_; (try clear hb); obtain ⟨hcz62_0, hcz62_1, hfz62_0, hfz62_1⟩ := cz2 BK316.out) | ((with_reducible refine gate_callee (f := 50) rfl ?_); refine goesS (some 18) Try.func50 #[.slice A1 l1.length c1, .string a3, .int .i64 a0_0] ?_; (with_reducible refine (impl_HasSense.calls k _ _ l1 a3 a0_0 true _ ?side1 ?side2 A7.out).mono ?_); (case side1 => exact CB HR1); (case side2 => exact HC1.out); rintro e w63 ⟨rfl, hb⟩; refine ⟨_, rfl, ?_⟩; have n0_ := KB BK316 hb; have n1_ := BS (w := w) hb; clear BK316 HB; have BK316 := n0_; have HB := n1_; clear n0_ n1_; (try clear hb); obtain ⟨hcz64_0, hcz64_1, hfz64_0, hfz64_1⟩ := cz2 BK316.out) | ((with_reducible refine gate_callee (f := 51) rfl ?_); refine goesS (some 24) Try.func51 #[.slice A0_1 l0_1.length c0_1, .string a3] ?_; (with_reducible refine (impl_Makes.calls k _ _ l0_1 a3 false _ ?side1 ?side2 A9.out).mono ?_); (case side1 => exact CB HR0_1); (case side2 => exact HC0_1.out); rintro e w65 ⟨rfl, hb⟩; refine ⟨_, rfl, ?_⟩; have n0_ := KB BK316 hb; have n1_ := BS (w := w) hb; clear BK316 HB; have BK316 := n0_; have HB := n1_; clear n0_ n1_; (try clear hb)))
    go_ret
    exact ⟨EWW, BL⟩
  ·replace c8 := Bool.eq_false_iff.mpr c8
   subst c8
   have H1 : (some 2) = some r := by rw [if_neg (show ¬ (false = true) by decide)] at H; exact H
   clear H
   have H := H1
   clear H1
   obtain rfl := Option.some.inj H
   go_enter Try.func28, Try.ntmps28
   go_wp2_with (first | ((with_reducible refine gate_dst (N := 4) rfl ?_); refine box_ev (N := 4) (cs := #[.int .i64 a0_0, .slice A0_1 l0_1.length c0_1]) (t := 33) ?_; intro gb316 hg w66 hbox hb; have n0_ := BS (w := w) hb; have n1_ := Aside0.mk (hbox); have n2_ := SZ (w := w) hg; have n3_ := SZ (w := w) hg; clear HB; have HB := n0_; have BK316 := n1_; have GW316 := n2_; have GE316 := n3_; clear n0_ n1_ n2_ n3_; clear hb hbox hg; obtain ⟨hcz67_0, hcz67_1, hfz67_0, hfz67_1⟩ := cz2 BK316.out) | ((with_reducible refine gate_callee (f := 49) rfl ?_); refine goesS (some 11) Try.func49 #[.agg #[.int .i64 a0_0, .slice A0_1 l0_1.length c0_1]] ?_; (with_reducible refine (impl_IsClue.calls k a0_0 _ _ l0_1 true _ ?side1 ?side2 A5.out).mono ?_); (case side1 => exact CB HR0_1); (case side2 => exact HC0_1.out); rintro e w68 ⟨rfl, hb⟩; refine ⟨_, rfl, ?_⟩; have n0_ := KB BK316 hb; have n1_ := BS (w := w) hb; clear BK316 HB; have BK316 := n0_; have HB := n1_; clear n0_ n1_; (try clear hb); obtain ⟨hcz69_0, hcz69_1, hfz69_0, hfz69_1⟩ := cz2 BK316.out) | ((with_reducible refine gate_callee (f := 50) rfl ?_); refine goesS (some 18) Try.func50 #[.slice A1 l1.length c1, .string a3, .int .i64 a0_0] ?_; (with_reducible refine (impl_HasSense.calls k _ _ l1 a3 a0_0 false _ ?side1 ?side2 A7.out).mono ?_); (case side1 => exact CB HR1); (case side2 => exact HC1.out); rintro e w70 ⟨rfl, hb⟩; refine ⟨_, rfl, ?_⟩; have n0_ := KB BK316 hb; have n1_ := BS (w := w) hb; clear BK316 HB; have BK316 := n0_; have HB := n1_; clear n0_ n1_; (try clear hb)))
   go_ret
   exact ⟨EWW, BL⟩
 ·replace c6 := Bool.eq_false_iff.mpr c6
  subst c6
  have H1 : (some 1) = some r := by rw [if_neg (show ¬ (false = true) by decide)] at H; exact H
  clear H
  have H := H1
  clear H1
  obtain rfl := Option.some.inj H
  go_enter Try.func28, Try.ntmps28
  go_wp2_with (first | ((with_reducible refine gate_dst (N := 4) rfl ?_); refine box_ev (N := 4) (cs := #[.int .i64 a0_0, .slice A0_1 l0_1.length c0_1]) (t := 33) ?_; intro gb316 hg w71 hbox hb; have n0_ := BS (w := w) hb; have n1_ := Aside0.mk (hbox); have n2_ := SZ (w := w) hg; have n3_ := SZ (w := w) hg; clear HB; have HB := n0_; have BK316 := n1_; have GW316 := n2_; have GE316 := n3_; clear n0_ n1_ n2_ n3_; clear hb hbox hg; obtain ⟨hcz72_0, hcz72_1, hfz72_0, hfz72_1⟩ := cz2 BK316.out) | ((with_reducible refine gate_callee (f := 49) rfl ?_); refine goesS (some 11) Try.func49 #[.agg #[.int .i64 a0_0, .slice A0_1 l0_1.length c0_1]] ?_; (with_reducible refine (impl_IsClue.calls k a0_0 _ _ l0_1 false _ ?side1 ?side2 A5.out).mono ?_); (case side1 => exact CB HR0_1); (case side2 => exact HC0_1.out); rintro e w73 ⟨rfl, hb⟩; refine ⟨_, rfl, ?_⟩; have n0_ := KB BK316 hb; have n1_ := BS (w := w) hb; clear BK316 HB; have BK316 := n0_; have HB := n1_; clear n0_ n1_; (try clear hb)))
  go_ret
  exact ⟨EWW, BL⟩
end Go.Proofs.Ythincoghppaegaa.PFnExactFairCode
