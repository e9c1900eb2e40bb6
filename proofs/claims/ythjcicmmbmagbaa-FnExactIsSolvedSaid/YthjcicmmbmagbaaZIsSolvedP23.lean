/- Walks of functions: what each computes. -/
import Derived.Test.YthjcicmmbmagbaaZIsSolvedP0
import Derived.Test.YthjcicmmbmagbaaZIsSolvedP17
import Derived.Test.YthjcicmmbmagbaaZIsSolvedP18
import Derived.Test.YthjcicmmbmagbaaZIsSolvedP19
import Derived.Test.YthjcicmmbmagbaaZIsSolvedP20
import Derived.Test.YthjcicmmbmagbaaZIsSolvedP21
import Derived.Test.YthjcicmmbmagbaaZIsSolvedP22
import Derived.Test.YthjcicmmbmagbaaZIsSolvedW
import Derived.Test.YthjcicmmbmagbaaZIsSolvedShelf
import Derived.Test.YthjcicmmbmagbaaZIsSolvedHandSort
import Derived.Test.YthjcicmmbmagbaaZIsSolvedHandForm
import Derived.Test.YthjcicmmbmagbaaZIsSolvedHandAlone
import Derived.Test.YthjcicmmbmagbaaZIsSolvedHandReach
namespace Go.Proofs.Ythjcicmmbmagbaa.PFnExactIsSolved
open Go.RowKit Go.Proofs.YthjcicmmbmagbaaW.PrintWords Go.Proofs.YthjcicmmbmagbaaW.PrintLast Go.Proofs.YthjcicmmbmagbaaW.PrintMore Go.Proofs.Ythjcicmmbmagbaa.Sq
attribute [local go_sem] max2_int min2_int max_two min_two max_three min_three max_four min_four
set_option linter.unusedVariables false
set_option linter.unusedSimpArgs false
def impl_IsPuzzle.f (k : Nat) (a0_0 : Int) (a0_1 : Int) (a0_2 : ByteArray) (l0_3 : List (S116)) (l0_4 : List Int) (a0_5 : Int) : Option (Bool) := (impl_FormOf.f k a0_0 a0_1 a0_2).bind fun t521 => (if t521 = 0 then ((impl_SlotsOf.f k a0_0 a0_1 a0_2).bind fun t522 => (if (l0_3.length : Int) = (t522.length : Int) then (if (l0_4.length : Int) = (t522.length : Int) then ((impl_InRange.f a0_5 1 9999).bind fun t525 => (if t525 = true then ((impl_Clue_92.f k l0_3 (⟨#[70, 73, 88]⟩ : ByteArray)).bind fun t526 => (some (!t526))) else (some false))) else (some false)) else (some false))) else (some false))
set_option maxHeartbeats 8000000 in
set_option maxRecDepth 100000 in
theorem impl_IsPuzzle.calls (k : Nat) (a0_0 : Int) (a0_1 : Int) (a0_2 : ByteArray) (A0_3 : Option Addr) (c0_3 : Nat) (l0_3 : List (S116)) (A0_4 : Option Addr) (c0_4 : Nat) (l0_4 : List Int) (a0_5 : Int) (r : Bool) (w : World) (hr0_3 : Kd.C k116 w A0_3 l0_3.length l0_3) (hc0_3 : l0_3.length ≤ c0_3) (hr0_4 : Kd.C (Kd.int .i64) w A0_4 l0_4.length l0_4) (hc0_4 : l0_4.length ≤ c0_4) (h : impl_IsPuzzle.f k a0_0 a0_1 a0_2 l0_3 l0_4 a0_5 = some r) :
  Calls Try.prog 38 #[.agg #[.int .i64 a0_0, .int .i64 a0_1, .string a0_2, .slice A0_3 l0_3.length c0_3, .slice A0_4 l0_4.length c0_4, .int .i64 a0_5]] w fun e w' => e = .returned (.bool r) ∧ Below w.heap.size w w' := by
 have hu69 := Try.underlying69
 have hu66 := Try.underlying66
 have HR0_3 := Aside0.mk hr0_3
 have HC0_3 := Aside0.mk hc0_3
 clear hr0_3 hc0_3
 have HR0_4 := Aside0.mk hr0_4
 have HC0_4 := Aside0.mk hc0_4
 clear hr0_4 hc0_4
 have HB := Aside0.mk (Below.refl w.heap.size w)
 have H : ((impl_FormOf.f k a0_0 a0_1 a0_2).bind fun t521 => (if t521 = 0 then ((impl_SlotsOf.f k a0_0 a0_1 a0_2).bind fun t522 => (if (l0_3.length : Int) = (t522.length : Int) then (if (l0_4.length : Int) = (t522.length : Int) then ((impl_InRange.f a0_5 1 9999).bind fun t525 => (if t525 = true then ((impl_Clue_92.f k l0_3 (⟨#[70, 73, 88]⟩ : ByteArray)).bind fun t526 => (some (!t526))) else (some false))) else (some false)) else (some false))) else (some false))) = some r := h
 clear h
 replace H := be H; obtain ⟨t521, A2, H⟩ := H
 replace H := Aside0.mk H
 go_enter Try.func38, Try.ntmps38
 go_wp2_with (first | ((with_reducible refine gate_dst (N := 1) rfl ?_); (try (refine gate_guard (by rfl) ?_; dsimp only)); refine box_ev (N := 1) (cs := #[.int .i64 a0_0, .int .i64 a0_1, .string a0_2, .slice A0_3 l0_3.length c0_3, .slice A0_4 l0_4.length c0_4, .int .i64 a0_5]) (t := 69) ?_; intro gb520 hg w9000 hbox hb; have n0_ := BS (w := w) hb; have n1_ := Aside0.mk (hbox); have n2_ := SZ (w := w) hg; have n3_ := SZ (w := w) hg; clear HB; have HB := n0_; have BK520 := n1_; have GW520 := n2_; have GE520 := n3_; clear n0_ n1_ n2_ n3_; clear hb hbox hg; obtain ⟨hcz9001_0, hcz9001_1, hcz9001_2, hcz9001_3, hcz9001_4, hcz9001_5, hfz9001_0, hfz9001_1, hfz9001_2, hfz9001_3, hfz9001_4, hfz9001_5⟩ := cz6 BK520.out) | ((with_reducible refine gate_callee (f := 90) rfl ?_); refine goesS (some 6) Try.func90 #[.agg #[.int .i64 a0_0, .int .i64 a0_1, .string a0_2]] ?_; (with_reducible refine (impl_FormOf.calls k a0_0 a0_1 a0_2 t521 _ A2.out).mono ?_); rintro e w9002 ⟨rfl, hb⟩; refine ⟨_, rfl, ?_⟩; replace BK520 := KB BK520 hb; replace HB := BS (w := w) hb; (try clear hb); obtain ⟨hcz9003_0, hcz9003_1, hcz9003_2, hcz9003_3, hcz9003_4, hcz9003_5, hfz9003_0, hfz9003_1, hfz9003_2, hfz9003_3, hfz9003_4, hfz9003_5⟩ := cz6 BK520.out; refine stop_ ?_))
 refine Hide.mk ?_
 replace H := H.out
 replace H := ifE H; rcases H with ⟨c3b0, c3b1, H⟩ | ⟨c3, c3b0, c3b1, H⟩
 ·replace H := be H; obtain ⟨t522, A4, H⟩ := H
  replace H := Aside0.mk H
  go_wp2_with (first | ((with_reducible refine gate_callee (f := 91) rfl ?_); refine goesS (some 10) Try.func91 #[.agg #[.int .i64 a0_0, .int .i64 a0_1, .string a0_2]] ?_; (with_reducible refine (impl_SlotsOf.calls k a0_0 a0_1 a0_2 t522 _ A4.out).mono ?_); rintro e w9004 ⟨v523, rfl, ho0, hb⟩; refine ⟨_, rfl, ?_⟩; have n0_ := Aside0.mk (Kd.R_lower ho0 (below_size BL)); replace BK520 := KB BK520 hb; replace HB := BS (w := w) hb; have HO524 := n0_; clear n0_; (try clear hb); (try clear ho0); obtain ⟨Ao9005, co9005, eo9005⟩ := Kd.R_slice HO524.out; subst eo9005; obtain ⟨hcz9006_0, hcz9006_1, hcz9006_2, hcz9006_3, hcz9006_4, hcz9006_5, hfz9006_0, hfz9006_1, hfz9006_2, hfz9006_3, hfz9006_4, hfz9006_5⟩ := cz6 BK520.out; refine stop_ ?_))
  refine Hide.mk ?_
  replace H := H.out
  by_cases c5 : (l0_3.length : Int) = (t522.length : Int)
  ·rw [if_pos c5] at H
   have c5b0 : ((l0_3.length : Int) == (t522.length : Int)) = true := beq_iff_eq.mpr c5
   have c5b1 : ((l0_3.length : Int) != (t522.length : Int)) = false := bne_eq_false_iff_eq.mpr c5
   have c5b2 : (l0_3.length == t522.length) = true := by first | simpa using c5 | (simp at c5 ⊢; omega)
   clear c5
   by_cases c6 : (l0_4.length : Int) = (t522.length : Int)
   ·rw [if_pos c6] at H
    have c6b0 : ((l0_4.length : Int) == (t522.length : Int)) = true := beq_iff_eq.mpr c6
    have c6b1 : ((l0_4.length : Int) != (t522.length : Int)) = false := bne_eq_false_iff_eq.mpr c6
    have c6b2 : (l0_4.length == t522.length) = true := by first | simpa using c6 | (simp at c6 ⊢; omega)
    clear c6
    replace H := be H; obtain ⟨t525, A7, H⟩ := H
    replace H := Aside0.mk H
    go_wp2_with (first | (go_at_call 65; (with_reducible refine (impl_InRange.calls a0_5 1 9999 _ _ A7.out).mono ?_); rintro e w' ⟨rfl, ⟨nd, rfl⟩⟩; refine stop_ ?_))
    refine Hide.mk ?_
    replace H := H.out
    replace H := ifB H; rcases H with ⟨rfl, H⟩ | ⟨rfl, H⟩
    ·replace H := be H; obtain ⟨t526, A9, H⟩ := H
     obtain rfl := Option.some.inj H
     try go_wp2_with (first | (go_at_call 92; (with_reducible refine (impl_Clue_92.calls k _ _ l0_3 (⟨#[70, 73, 88]⟩ : ByteArray) t526 _ ?side1 ?side2 A9.out).mono ?_); (case side1 => repeat (first | exact (Kd.C_below HR0_3.out BL) | (with_reducible refine Kd.C_alloc ?_ _) | (with_reducible refine Kd.C_drewN ?_ _) | (with_reducible refine Kd.C_drew ?_))); (case side2 => exact HC0_3.out); rintro e w9007 ⟨rfl, hb⟩; replace HO524 := RB HO524 hb; replace BK520 := KB BK520 hb; replace HB := BS (w := w) hb; (try clear hb)))
     go_ret
     exact ⟨EWW, BL⟩
    ·obtain rfl := Option.some.inj H
     try go_wp2
     go_ret
     exact ⟨EWW, BL⟩
   ·rw [if_neg c6] at H
    have c6b0 : ((l0_4.length : Int) == (t522.length : Int)) = false := beq_eq_false_iff_ne.mpr c6
    have c6b1 : ((l0_4.length : Int) != (t522.length : Int)) = true := bne_iff_ne.mpr c6
    have c6b2 : (l0_4.length == t522.length) = false := by first | simpa using c6 | (simp at c6 ⊢; omega)
    obtain rfl := Option.some.inj H
    try go_wp2
    go_ret
    exact ⟨EWW, BL⟩
  ·rw [if_neg c5] at H
   have c5b0 : ((l0_3.length : Int) == (t522.length : Int)) = false := beq_eq_false_iff_ne.mpr c5
   have c5b1 : ((l0_3.length : Int) != (t522.length : Int)) = true := bne_iff_ne.mpr c5
   have c5b2 : (l0_3.length == t522.length) = false := by first | simpa using c5 | (simp at c5 ⊢; omega)
   obtain rfl := Option.some.inj H
   try go_wp2
   go_ret
   exact ⟨EWW, BL⟩
 ·obtain rfl := Option.some.inj H
  try go_wp2
  go_ret
  exact ⟨EWW, BL⟩
mutual
def impl_IsFill.j0 : Nat → ByteArray → Bool → Int → Int → ByteArray → Option (Bool)
 | 0, _, _, _, _, _ => none
 | k + 1, x1, x16, x528000, x528001, x528002 => if x16 = true then (some false) else (impl_IsFill.l0 k x1 (x1.size : Int) 0 x528000 x528001 x528002)
def impl_IsFill.l0 : Nat → ByteArray → Int → Int → Int → Int → ByteArray → Option (Bool)
 | 0, _, _, _, _, _, _ => none
 | k + 1, x1, x18, x19, x528000, x528001, x528002 => if x19 < x18 then (if 0 ≤ x19 then (if x19 < (x528002.size : Int) then (if x19 < (x1.size : Int) then (if (((bt x528002 x19) == 35) != ((bt x1 x19) == 35)) = true then (some false) else (if (bt x1 x19) = 35 then (impl_IsFill.l0 k x1 x18 (wrap64 (x19 + 1)) x528000 x528001 x528002) else (if (bt x1 x19) = 63 then (impl_IsFill.l0 k x1 x18 (wrap64 (x19 + 1)) x528000 x528001 x528002) else ((impl_isLetter.f (bt x1 x19)).bind fun t529 => (if t529 = true then (impl_IsFill.l0 k x1 x18 (wrap64 (x19 + 1)) x528000 x528001 x528002) else (some false)))))) else (none)) else (none)) else (none)) else (some true)
end
def impl_IsFill.f (k : Nat) (a0_0 : Int) (a0_1 : Int) (a0_2 : ByteArray) (a1 : ByteArray) : Option (Bool) := (impl_IsGrid.f k a0_0 a0_1 a0_2).bind fun t528 => (if t528 = true then (impl_IsFill.j0 k a1 ((a1.size : Int) != (a0_2.size : Int)) a0_0 a0_1 a0_2) else (impl_IsFill.j0 k a1 true a0_0 a0_1 a0_2))
set_option maxHeartbeats 8000000 in
set_option maxRecDepth 100000 in
theorem impl_IsFill.calls (k : Nat) (a0_0 : Int) (a0_1 : Int) (a0_2 : ByteArray) (a1 : ByteArray) (r : Bool) (w : World) (h : impl_IsFill.f k a0_0 a0_1 a0_2 a1 = some r) :
  Calls Try.prog 151 #[.agg #[.int .i64 a0_0, .int .i64 a0_1, .string a0_2], .string a1] w fun e w' => e = .returned (.bool r) ∧ Below w.heap.size w w' := by
 have hu66 := Try.underlying66
 have HB := Aside0.mk (Below.refl w.heap.size w)
 have H : ((impl_IsGrid.f k a0_0 a0_1 a0_2).bind fun t528 => (if t528 = true then (impl_IsFill.j0 k a1 ((a1.size : Int) != (a0_2.size : Int)) a0_0 a0_1 a0_2) else (impl_IsFill.j0 k a1 true a0_0 a0_1 a0_2))) = some r := h
 clear h
 have HC3 := Aside0.mk H
 clear H
 go_enter Try.func151, Try.ntmps151
 go_upto_region 1 with (first | ((with_reducible refine gate_dst (N := 2) rfl ?_); (try (refine gate_guard (by rfl) ?_; dsimp only)); refine box_ev (N := 2) (cs := #[.int .i64 a0_0, .int .i64 a0_1, .string a0_2]) (t := 66) ?_; intro gb527 hg w4 hbox hb; have n0_ := BS (w := w) hb; have n1_ := Aside0.mk (hbox); have n2_ := SZ (w := w) hg; have n3_ := SZ (w := w) hg; clear HB; have HB := n0_; have BK527 := n1_; have GW527 := n2_; have GE527 := n3_; clear n0_ n1_ n2_ n3_; clear hb hbox hg))
 repeat (go_quiet (first | ((with_reducible refine gate_dst (N := 2) rfl ?_); (try (refine gate_guard (by rfl) ?_; dsimp only)); refine box_ev (N := 2) (cs := #[.int .i64 a0_0, .int .i64 a0_1, .string a0_2]) (t := 66) ?_; intro gb527 hg w4 hbox hb; have n0_ := BS (w := w) hb; have n1_ := Aside0.mk (hbox); have n2_ := SZ (w := w) hg; have n3_ := SZ (w := w) hg; clear HB; have HB := n0_; have BK527 := n1_; have GW527 := n2_; have GE527 := n3_; clear n0_ n1_ n2_ n3_; clear hb hbox hg)); go_upto_region 1 with (first | ((with_reducible refine gate_dst (N := 2) rfl ?_); (try (refine gate_guard (by rfl) ?_; dsimp only)); refine box_ev (N := 2) (cs := #[.int .i64 a0_0, .int .i64 a0_1, .string a0_2]) (t := 66) ?_; intro gb527 hg w4 hbox hb; have n0_ := BS (w := w) hb; have n1_ := Aside0.mk (hbox); have n2_ := SZ (w := w) hg; have n3_ := SZ (w := w) hg; clear HB; have HB := n0_; have BK527 := n1_; have GW527 := n2_; have GE527 := n3_; clear n0_ n1_ n2_ n3_; clear hb hbox hg)))
 (try simp only [Act.put, List.setIfInBounds_toArray, List.set_cons_zero, List.set_cons_succ])
 go_cut [16] (fun v16 wc => ∃ (kq : Nat) (x16_2 : Bool), v16 = .bool x16_2 ∧ Aside0 (impl_IsFill.j0 kq a1 x16_2 a0_0 a0_1 a0_2 = some r) ∧ Aside0 (kq ≤ k) ∧ Aside0 (wc.heap[gb527]? = some (.cells #[.int .i64 a0_0, .int .i64 a0_1, .string a0_2] 66 (0, 0))) ∧ Aside0 (Below w.heap.size w wc))
 case first =>
  have H := HC3.out
  clear HC3
  replace H := be H; obtain ⟨t528, A5, H⟩ := H
  obtain ⟨hcz8000_0, hcz8000_1, hcz8000_2, hfz8000_0, hfz8000_1, hfz8000_2⟩ := cz3 BK527.out
  replace H := ifB H; rcases H with ⟨rfl, H⟩ | ⟨rfl, H⟩
  ·have H' := Aside0.mk H
   clear H
   go_wp2_with (first | (go_at_call 138; (with_reducible refine (impl_IsGrid.calls k a0_0 a0_1 a0_2 _ _ A5.out).mono ?_); rintro e w8001 ⟨rfl, hb⟩; replace BK527 := KB BK527 hb; replace HB := BS (w := w) hb; (try clear hb); (try clear hb2); (try clear hk); (try clear hi); obtain ⟨hcz8002_0, hcz8002_1, hcz8002_2, hfz8002_0, hfz8002_1, hfz8002_2⟩ := cz3 BK527.out))
   repeat (go_quiet (first | (go_at_call 138; (with_reducible refine (impl_IsGrid.calls k a0_0 a0_1 a0_2 _ _ A5.out).mono ?_); rintro e w8001 ⟨rfl, hb⟩; replace BK527 := KB BK527 hb; replace HB := BS (w := w) hb; (try clear hb); (try clear hb2); (try clear hk); (try clear hi); obtain ⟨hcz8002_0, hcz8002_1, hcz8002_2, hfz8002_0, hfz8002_1, hfz8002_2⟩ := cz3 BK527.out)); try go_wp2_with (first | (go_at_call 138; (with_reducible refine (impl_IsGrid.calls k a0_0 a0_1 a0_2 _ _ A5.out).mono ?_); rintro e w8001 ⟨rfl, hb⟩; replace BK527 := KB BK527 hb; replace HB := BS (w := w) hb; (try clear hb); (try clear hb2); (try clear hk); (try clear hi); obtain ⟨hcz8002_0, hcz8002_1, hcz8002_2, hfz8002_0, hfz8002_1, hfz8002_2⟩ := cz3 BK527.out)))
   go_meet
   case rel => exact ⟨_, (((a1.size : Int) != (a0_2.size : Int))), EQ, H', ⟨by first | omega | exact Nat.le_refl _⟩, ⟨BK⟩, ⟨BL⟩⟩
  ·have H' := Aside0.mk H
   clear H
   go_wp2_with (first | (go_at_call 138; (with_reducible refine (impl_IsGrid.calls k a0_0 a0_1 a0_2 _ _ A5.out).mono ?_); rintro e w8001 ⟨rfl, hb⟩; replace BK527 := KB BK527 hb; replace HB := BS (w := w) hb; (try clear hb); (try clear hb2); (try clear hk); (try clear hi)))
   repeat (go_quiet (first | (go_at_call 138; (with_reducible refine (impl_IsGrid.calls k a0_0 a0_1 a0_2 _ _ A5.out).mono ?_); rintro e w8001 ⟨rfl, hb⟩; replace BK527 := KB BK527 hb; replace HB := BS (w := w) hb; (try clear hb); (try clear hb2); (try clear hk); (try clear hi))); try go_wp2_with (first | (go_at_call 138; (with_reducible refine (impl_IsGrid.calls k a0_0 a0_1 a0_2 _ _ A5.out).mono ?_); rintro e w8001 ⟨rfl, hb⟩; replace BK527 := KB BK527 hb; replace HB := BS (w := w) hb; (try clear hb); (try clear hb2); (try clear hk); (try clear hi))))
   go_meet
   case rel => exact ⟨_, (true), EQ, H', ⟨by first | omega | exact Nat.le_refl _⟩, ⟨BK⟩, ⟨BL⟩⟩
 case rest =>
  clear HC3
  obtain ⟨kq, x16_2, rfl, HA, HJ2, BK527, HB⟩ := hcut
  cases kq with
  | zero => exact absurd HA.out (by simp [impl_IsFill.j0])
  | succ kj2 =>
   have H := HA.out
   clear HA
   simp only [impl_IsFill.j0] at H
   replace H := ifB H; rcases H with ⟨rfl, H⟩ | ⟨rfl, H⟩
   ·obtain rfl := Option.some.inj H
    go_wp2
    repeat (go_quiet (fail); try go_wp2)
    go_ret
    exact ⟨EWW, BL⟩
   ·have H' := Aside0.mk H
    clear H
    go_wp2
    repeat (go_quiet (fail); try go_wp2)
    go_loopg [19] kj2 (fun kq v19 w' => ∃ (x19_2 : Int), v19 = .int .i64 x19_2 ∧ Aside0 (impl_IsFill.l0 kq a1 (a1.size : Int) x19_2 a0_0 a0_1 a0_2 = some r) ∧ Aside0 (kq ≤ kj2) ∧ Aside0 (w'.heap[gb527]? = some (.cells #[.int .i64 a0_0, .int .i64 a0_1, .string a0_2] 66 (0, 0))) ∧ Aside0 (Below w.heap.size w w'))
    case atStart => exact ⟨(0), EQ, H', ⟨Nat.le_refl _⟩, ⟨BK⟩, ⟨BL⟩⟩
    case round =>
     clear H'
     try clear c12
     obtain ⟨x19_2, rfl, HA, HK2, BK527, HB⟩ := hrel
     cases gk with
     | zero => exact absurd HA.out (by simp [impl_IsFill.l0])
     | succ k2 =>
      have H := HA.out
      clear HA
      simp only [impl_IsFill.l0] at H
      replace H := ifD H; rcases H with ⟨c13b0, H⟩ | ⟨c13b0, H⟩
      ·replace H := ifN H; obtain ⟨c14b0, H⟩ := H
       replace H := ifN H; obtain ⟨c15b0, H⟩ := H
       replace H := ifN H; obtain ⟨c17b0, H⟩ := H
       obtain ⟨hcz7000_0, hcz7000_1, hcz7000_2, hfz7000_0, hfz7000_1, hfz7000_2⟩ := cz3 BK527.out
       have p16 : (0 ≤ (x19_2 : Int)) = True := OT
       have q16 : (x19_2 < (a0_2.size : Int)) = True := OT
       have hx16 := bt_at a0_2 x19_2
       have p18 : (0 ≤ (x19_2 : Int)) = True := OT
       have q18 : (x19_2 < (a1.size : Int)) = True := OT
       have hx18 := bt_at a1 x19_2
       by_cases c19 : (((bt a0_2 x19_2) == 35) != ((bt a1 x19_2) == 35)) = true
       ·rw [if_pos c19] at H
        have c19b0 : (((bt a0_2 x19_2) == 35) != ((bt a1 x19_2) == 35)) = true := c19
        (try (have c19b1 : decide (((bt a0_2 x19_2) == 35) = ((bt a1 x19_2) == 35)) = false := by simpa using c19))
        (try (have c19b2 : (((bt a0_2 x19_2) == 35) == ((bt a1 x19_2) == 35)) = false := by simpa using c19))
        (try (have c19b3 : ¬ (((bt a0_2 x19_2) == 35) = ((bt a1 x19_2) == 35)) := by simpa using c19))
        clear c19
        obtain rfl := Option.some.inj H
        go_wp2
        repeat (go_quiet (fail); try go_wp2)
        go_ret
        exact ⟨EWW, BL⟩
       ·rw [if_neg c19] at H
        have c19b0 : (((bt a0_2 x19_2) == 35) != ((bt a1 x19_2) == 35)) = false := by simpa using c19
        (try (have c19b1 : decide (((bt a0_2 x19_2) == 35) = ((bt a1 x19_2) == 35)) = true := by simpa using c19))
        (try (have c19b2 : (((bt a0_2 x19_2) == 35) == ((bt a1 x19_2) == 35)) = true := by simpa using c19))
        clear c19
        have p21 : (0 ≤ (x19_2 : Int)) = True := OT
        have q21 : (x19_2 < (a1.size : Int)) = True := OT
        have hx21 := bt_at a1 x19_2
        by_cases c22 : (bt a1 x19_2) = 35
        ·rw [if_pos c22] at H
         have c22b0 : ((bt a1 x19_2) == 35) = true := beq_iff_eq.mpr c22
         have cwc19_ : ((bt a0_2 x19_2) == 35) = true := (bne_eq_false_iff_eq.mp c19b0).trans c22b0
         have c22b1 : ((bt a1 x19_2) != 35) = false := bne_eq_false_iff_eq.mpr c22
         clear c22
         have H' := Aside0.mk H
         clear H
         go_wp2
         repeat (go_quiet (fail); try go_wp2)
         go_roundg k2
         case measure => have := HJ2.out; have := HK2.out; omega
         case rel => exact ⟨(wrap64 (x19_2 + 1)), EQ, H', ⟨by have := HJ2.out; have := HK2.out; omega⟩, ⟨BK⟩, ⟨BL⟩⟩
        ·rw [if_neg c22] at H
         have c22b0 : ((bt a1 x19_2) == 35) = false := beq_eq_false_iff_ne.mpr c22
         have cwc19_ : ((bt a0_2 x19_2) == 35) = false := (bne_eq_false_iff_eq.mp c19b0).trans c22b0
         have c22b1 : ((bt a1 x19_2) != 35) = true := bne_iff_ne.mpr c22
         have p24 : (0 ≤ (x19_2 : Int)) = True := OT
         have q24 : (x19_2 < (a1.size : Int)) = True := OT
         have hx24 := bt_at a1 x19_2
         replace H := ifE H; rcases H with ⟨c25b0, c25b1, H⟩ | ⟨c25, c25b0, c25b1, H⟩
         ·have H' := Aside0.mk H
          clear H
          go_wp2
          repeat (go_quiet (fail); try go_wp2)
          go_roundg k2
          case measure => have := HJ2.out; have := HK2.out; omega
          case rel => exact ⟨(wrap64 (x19_2 + 1)), EQ, H', ⟨by have := HJ2.out; have := HK2.out; omega⟩, ⟨BK⟩, ⟨BL⟩⟩
         ·replace H := be H; obtain ⟨t529, A28, H⟩ := H
          have p27 : (0 ≤ (x19_2 : Int)) = True := OT
          have q27 : (x19_2 < (a1.size : Int)) = True := OT
          have hx27 := bt_at a1 x19_2
          replace H := ifB H; rcases H with ⟨rfl, H⟩ | ⟨rfl, H⟩
          ·have H' := Aside0.mk H
           clear H
           go_wp2_with (first | (go_at_call 122; (with_reducible refine (impl_isLetter.calls (bt a1 x19_2) _ _ A28.out).mono ?_); rintro e w' ⟨rfl, ⟨nd, rfl⟩⟩; (try first | exact ⟨rfl, _, World.drewN_drewN _ _ _⟩ | exact ⟨rfl, _, Eq.trans (World.drewN_drewN _ _ _) (congrArg (World.drewN _) (Nat.add_assoc _ _ _))⟩)))
           repeat (go_quiet (first | (go_at_call 122; (with_reducible refine (impl_isLetter.calls (bt a1 x19_2) _ _ A28.out).mono ?_); rintro e w' ⟨rfl, ⟨nd, rfl⟩⟩; (try first | exact ⟨rfl, _, World.drewN_drewN _ _ _⟩ | exact ⟨rfl, _, Eq.trans (World.drewN_drewN _ _ _) (congrArg (World.drewN _) (Nat.add_assoc _ _ _))⟩))); try go_wp2_with (first | (go_at_call 122; (with_reducible refine (impl_isLetter.calls (bt a1 x19_2) _ _ A28.out).mono ?_); rintro e w' ⟨rfl, ⟨nd, rfl⟩⟩; (try first | exact ⟨rfl, _, World.drewN_drewN _ _ _⟩ | exact ⟨rfl, _, Eq.trans (World.drewN_drewN _ _ _) (congrArg (World.drewN _) (Nat.add_assoc _ _ _))⟩))))
           go_roundg k2
           case measure => have := HJ2.out; have := HK2.out; omega
           case rel => exact ⟨(wrap64 (x19_2 + 1)), EQ, H', ⟨by have := HJ2.out; have := HK2.out; omega⟩, ⟨BK⟩, ⟨BL⟩⟩
          ·obtain rfl := Option.some.inj H
           go_wp2_with (first | (go_at_call 122; (with_reducible refine (impl_isLetter.calls (bt a1 x19_2) _ _ A28.out).mono ?_); rintro e w' ⟨rfl, ⟨nd, rfl⟩⟩; (try first | exact ⟨rfl, _, World.drewN_drewN _ _ _⟩ | exact ⟨rfl, _, Eq.trans (World.drewN_drewN _ _ _) (congrArg (World.drewN _) (Nat.add_assoc _ _ _))⟩)))
           repeat (go_quiet (first | (go_at_call 122; (with_reducible refine (impl_isLetter.calls (bt a1 x19_2) _ _ A28.out).mono ?_); rintro e w' ⟨rfl, ⟨nd, rfl⟩⟩; (try first | exact ⟨rfl, _, World.drewN_drewN _ _ _⟩ | exact ⟨rfl, _, Eq.trans (World.drewN_drewN _ _ _) (congrArg (World.drewN _) (Nat.add_assoc _ _ _))⟩))); try go_wp2_with (first | (go_at_call 122; (with_reducible refine (impl_isLetter.calls (bt a1 x19_2) _ _ A28.out).mono ?_); rintro e w' ⟨rfl, ⟨nd, rfl⟩⟩; (try first | exact ⟨rfl, _, World.drewN_drewN _ _ _⟩ | exact ⟨rfl, _, Eq.trans (World.drewN_drewN _ _ _) (congrArg (World.drewN _) (Nat.add_assoc _ _ _))⟩))))
           go_ret
           exact ⟨EWW, BL⟩
      ·obtain rfl := Option.some.inj H
       go_wp2
       repeat (go_quiet (fail); try go_wp2)
       go_ret
       exact ⟨EWW, BL⟩
def impl_openIn.l0 : Nat → ByteArray → Int → Int → Int → Option (Int)
 | 0, _, _, _, _ => none
 | k + 1, x0, x3, x6, x7 => if x7 < x6 then (if 0 ≤ x7 then (if x7 < (x0.size : Int) then (if (bt x0 x7) = 63 then (impl_openIn.l0 k x0 (wrap64 (x3 + 1)) x6 (wrap64 (x7 + 1))) else (impl_openIn.l0 k x0 x3 x6 (wrap64 (x7 + 1)))) else (none)) else (none)) else (some x3)
def impl_openIn.f (k : Nat) (a0 : ByteArray) : Option (Int) := impl_openIn.l0 k a0 0 (a0.size : Int) 0
set_option maxHeartbeats 8000000 in
set_option maxRecDepth 100000 in
theorem impl_openIn.calls (k : Nat) (a0 : ByteArray) (r : Int) (w : World) (h : impl_openIn.f k a0 = some r) :
  Calls Try.prog 152 #[.string a0] w fun e w' => e = .returned (.int .i64 r) ∧ Drawn0 w w' := by
 have H : (impl_openIn.l0 k a0 0 (a0.size : Int) 0) = some r := h
 clear h
 have H' := Aside0.mk H
 clear H
 go_enter Try.func152, Try.ntmps152
 go_wp2
 go_loopg [3, 7] k (fun kq v3 v7 w' => ∃ (x3_1 : Int) (x7_1 : Int), v3 = .int .i64 x3_1 ∧ v7 = .int .i64 x7_1 ∧ Aside0 (impl_openIn.l0 kq a0 x3_1 (a0.size : Int) x7_1 = some r) ∧ Aside0 (kq ≤ k) ∧ Drawn0 w w')
 case atStart => exact ⟨(0), (0), EQ, EQ, H', ⟨Nat.le_refl _⟩, by repeat (first | exact Drawn0.refl _ | apply Drawn0.step)⟩
 case round =>
  clear H'
  obtain ⟨x3_1, x7_1, rfl, rfl, HA, HK1, ⟨m1, rfl⟩⟩ := hrel
  cases gk with
  | zero => exact absurd HA.out (by simp [impl_openIn.l0])
  | succ k1 =>
   have H := HA.out
   clear HA
   simp only [impl_openIn.l0] at H
   replace H := ifD H; rcases H with ⟨c2b0, H⟩ | ⟨c2b0, H⟩
   ·replace H := ifN H; obtain ⟨c3b0, H⟩ := H
    replace H := ifN H; obtain ⟨c4b0, H⟩ := H
    have p5 : (0 ≤ (x7_1 : Int)) = True := OT
    have q5 : (x7_1 < (a0.size : Int)) = True := OT
    have hx5 := bt_at a0 x7_1
    replace H := ifE H; rcases H with ⟨c6b0, c6b1, H⟩ | ⟨c6, c6b0, c6b1, H⟩
    ·have H' := Aside0.mk H
     clear H
     go_wp2
     go_roundg k1
     case measure => have := HK1.out; omega
     case rel => exact ⟨(wrap64 (x3_1 + 1)), (wrap64 (x7_1 + 1)), EQ, EQ, H', ⟨by have := HK1.out; omega⟩, by repeat (first | exact Drawn0.refl _ | apply Drawn0.step)⟩
    ·have H' := Aside0.mk H
     clear H
     go_wp2
     go_roundg k1
     case measure => have := HK1.out; omega
     case rel => exact ⟨(x3_1), (wrap64 (x7_1 + 1)), EQ, EQ, H', ⟨by have := HK1.out; omega⟩, by repeat (first | exact Drawn0.refl _ | apply Drawn0.step)⟩
   ·obtain rfl := Option.some.inj H
    go_wp2
    go_ret
    exact ⟨by first | rfl | (simp; done) | (simp [*]; done), by repeat (first | exact Drawn0.refl _ | apply Drawn0.step)⟩
def impl_IsFull.f (k : Nat) (a0_0 : Int) (a0_1 : Int) (a0_2 : ByteArray) (a1 : ByteArray) : Option (Bool) := (impl_IsFill.f k a0_0 a0_1 a0_2 a1).bind fun t531 => (if t531 = true then ((impl_openIn.f k a1).bind fun t532 => (some (t532 == 0))) else (some false))
set_option maxHeartbeats 8000000 in
set_option maxRecDepth 100000 in
theorem impl_IsFull.calls (k : Nat) (a0_0 : Int) (a0_1 : Int) (a0_2 : ByteArray) (a1 : ByteArray) (r : Bool) (w : World) (h : impl_IsFull.f k a0_0 a0_1 a0_2 a1 = some r) :
  Calls Try.prog 101 #[.agg #[.int .i64 a0_0, .int .i64 a0_1, .string a0_2], .string a1] w fun e w' => e = .returned (.bool r) ∧ Below w.heap.size w w' := by
 have hu66 := Try.underlying66
 have HB := Aside0.mk (Below.refl w.heap.size w)
 have H : ((impl_IsFill.f k a0_0 a0_1 a0_2 a1).bind fun t531 => (if t531 = true then ((impl_openIn.f k a1).bind fun t532 => (some (t532 == 0))) else (some false))) = some r := h
 clear h
 replace H := be H; obtain ⟨t531, A3, H⟩ := H
 replace H := Aside0.mk H
 go_enter Try.func101, Try.ntmps101
 go_wp2_with (first | ((with_reducible refine gate_dst (N := 2) rfl ?_); refine box_ev (N := 2) (cs := #[.int .i64 a0_0, .int .i64 a0_1, .string a0_2]) (t := 66) ?_; intro gb530 hg w9000 hbox hb; have n0_ := BS (w := w) hb; have n1_ := Aside0.mk (hbox); have n2_ := SZ (w := w) hg; have n3_ := SZ (w := w) hg; clear HB; have HB := n0_; have BK530 := n1_; have GW530 := n2_; have GE530 := n3_; clear n0_ n1_ n2_ n3_; clear hb hbox hg; obtain ⟨hcz9001_0, hcz9001_1, hcz9001_2, hfz9001_0, hfz9001_1, hfz9001_2⟩ := cz3 BK530.out) | ((with_reducible refine gate_callee (f := 151) rfl ?_); refine goesS (some 7) Try.func151 #[.agg #[.int .i64 a0_0, .int .i64 a0_1, .string a0_2], .string a1] ?_; (with_reducible refine (impl_IsFill.calls k a0_0 a0_1 a0_2 a1 _ _ A3.out).mono ?_); rintro e w9002 ⟨rfl, hb⟩; refine ⟨_, rfl, ?_⟩; replace BK530 := KB BK530 hb; replace HB := BS (w := w) hb; (try clear hb); refine stop_ ?_))
 refine Hide.mk ?_
 replace H := H.out
 replace H := ifB H; rcases H with ⟨rfl, H⟩ | ⟨rfl, H⟩
 ·replace H := be H; obtain ⟨t532, A5, H⟩ := H
  obtain rfl := Option.some.inj H
  try go_wp2_with (first | (go_at_call 152; (with_reducible refine (impl_openIn.calls k a1 t532 _ A5.out).mono ?_); rintro e w' ⟨rfl, ⟨nd, rfl⟩⟩))
  go_ret
  exact ⟨EWW, BL⟩
 ·obtain rfl := Option.some.inj H
  try go_wp2
  go_ret
  exact ⟨EWW, BL⟩
def impl_readCells.l0 : Nat → ByteArray → List Int → List Int → Int → Int → Option (ByteArray)
 | 0, _, _, _, _, _ => none
 | k + 1, x0, x5, x8, x9, x10 => if x10 < x9 then (if 0 ≤ x10 then (if x10 < (x8.length : Int) then (if 0 ≤ (rd x8 x10) then (if (rd x8 x10) < (x0.size : Int) then (if x5.length < 140737488355328 then (impl_readCells.l0 k x0 (x5 ++ [bt x0 (rd x8 x10)]) x8 x9 (wrap64 (x10 + 1))) else (none)) else (none)) else (none)) else (none)) else (none)) else (some (strOfNums x5))
def impl_readCells.f (k : Nat) (a0 : ByteArray) (l1 : List Int) : Option (ByteArray) := impl_readCells.l0 k a0 ([] : List Int) l1 (l1.length : Int) 0
set_option maxHeartbeats 8000000 in
set_option maxRecDepth 100000 in
theorem impl_readCells.calls (k : Nat) (a0 : ByteArray) (A1 : Option Addr) (c1 : Nat) (l1 : List Int) (r : ByteArray) (w : World) (hr1 : Kd.C (Kd.int .i64) w A1 l1.length l1) (hc1 : l1.length ≤ c1) (h : impl_readCells.f k a0 l1 = some r) :
  Calls Try.prog 182 #[.string a0, .slice A1 l1.length c1] w fun e w' => e = .returned (.string r) ∧ Below w.heap.size w w' := by
 have HR1 := Aside0.mk hr1
 have HC1 := Aside0.mk hc1
 clear hr1 hc1
 have HB := Aside0.mk (Below.refl w.heap.size w)
 have H : (impl_readCells.l0 k a0 ([] : List Int) l1 (l1.length : Int) 0) = some r := h
 clear h
 have H' := Aside0.mk H
 clear H
 go_enter Try.func182, Try.ntmps182
 go_wp2
 go_loopg [5, 10] k (fun kq v5 v10 w' => ∃ (x5_1 : List Int) (x10_1 : Int), v10 = .int .i64 x10_1 ∧ Aside0 (impl_readCells.l0 kq a0 x5_1 l1 (l1.length : Int) x10_1 = some r) ∧ Aside0 (kq ≤ k) ∧ Aside0 (Kd.R (Kd.int .u8) 5 w' w.heap.size (fun _ => True) v5 x5_1) ∧ Aside0 (Below w.heap.size w w'))
 case atStart => exact ⟨(([] : List Int)), (0), EQ, H', ⟨Nat.le_refl _⟩, ⟨by first | exact Kd.R_nil _ _ _ _ _ | exact Kd.N_nil _ _ _ _ _ | exact Kd.V_nil _ _ _ _ _ | exact Kd.Q_nil _ _ _ _ _ | exact Kd.S_nil _ _ _ _ _⟩, ⟨BL⟩⟩
 case round =>
  clear H'
  try clear c1
  obtain ⟨x5_1, x10_1, rfl, HA, HK1, HO_5, HB⟩ := hrel
  cases gk with
  | zero => exact absurd HA.out (by simp [impl_readCells.l0])
  | succ k1 =>
   have H := HA.out
   clear HA
   simp only [impl_readCells.l0] at H
   replace H := ifD H; rcases H with ⟨c3b0, H⟩ | ⟨c3b0, H⟩
   ·replace H := ifN H; obtain ⟨c4b0, H⟩ := H
    replace H := ifN H; obtain ⟨c5b0, H⟩ := H
    replace H := ifN H; obtain ⟨c6b0, H⟩ := H
    replace H := ifN H; obtain ⟨c7b0, H⟩ := H
    replace H := ifP H; obtain ⟨c9, H⟩ := H
    have LMc9 := Aside0.mk c9
    clear c9
    obtain ⟨y534, hy534⟩ : ∃ y_ : List Int, y_ = (x5_1 ++ [bt a0 (rd l1 x10_1)]) := ⟨_, rfl⟩
    replace H : (impl_readCells.l0 k1 a0 y534 l1 (l1.length : Int) (wrap64 (x10_1 + 1))) = some r := by first | (rw [hy534]; with_reducible exact H) | (have H2_ := (Option.bind_some _ _).symm.trans H; rw [hy534]; with_reducible exact H2_) | (have H2_ := (Option.bind_some _ _).symm.trans H; with_reducible exact H2_) | with_reducible exact H | (rw [hy534]; exact H) | exact H
    have Ny534 := Aside0.mk hy534
    clear hy534
    have H' := Aside0.mk H
    clear H
    have p533 : 0 ≤ (x10_1 : Int) := OD
    have q533 : x10_1 < (l1.length : Int) := OD
    obtain ⟨ad533, e533, hx533_0⟩ := Kd.at_int HR1.out x10_1 p533 q533
    cases e533
    try replace hx533_0 := (HB.out.cell (World.block_lt_of_cell? w _ hx533_0)).trans hx533_0
    replace p533 := eq_true p533
    replace q533 := eq_true q533
    have p8 : (0 ≤ ((rd l1 x10_1) : Int)) = True := OT
    have q8 : ((rd l1 x10_1) < (a0.size : Int)) = True := OT
    have hx8 := bt_at a0 (rd l1 x10_1)
    go_wp2_with (first | ((with_reducible refine gate_builtin (b := .append) (xs := #[.tmp 14, .tmp 18]) rfl ?_); at_builtin; refine Kd.R_append (Kd.int .u8) (w0 := w) w.heap.size rfl (.tmp 14) (.tmp 18) 36 5 (.int .u8 0) 1 rfl Try.underlying36 info5 rfl (by decide) (by omega) u5 x5_1 (bt a0 (rd l1 x10_1)) [.int .u8 (bt a0 (rd l1 x10_1))] (fun _ => True) (fun _ => False) rfl rfl ?aP (fun _ hk => hk.elim) ?aF ?aO ?aB ?aS ?aL ?_; (case aP => exact rfl); (case aB => exact BL); (case aF => exact (fun _ _ => trivial)); (case aO => exact (RR HO_5)); (case aS => exact (below_size BL)); (case aL => have := LMc9.out; omega); intro v535 w7000 ho hb hg hat; rw [← Ny534.out] at ho; have n0_ := Aside0.mk (hb); have n1_ := Aside0.mk (ho); clear HB HO_5; have HB := n0_; have HO536 := n1_; clear n0_ n1_; clear ho hb hg hat))
    go_roundg k1
    case measure => have := HK1.out; omega
    case rel => exact ⟨(y534), (wrap64 (x10_1 + 1)), EQ, H', ⟨by have := HK1.out; omega⟩, ⟨(RR HO536)⟩, ⟨BL⟩⟩
   ·obtain rfl := Option.some.inj H
    have hcv11 := own_string (P := Try.prog) Try.underlying36 Try.underlying5 Try.underlying9 (Kd.own_of_R HO_5.out)
    go_wp2
    go_ret
    exact ⟨EWW, BL⟩
def impl_patterns.l0 : Nat → ByteArray → List ByteArray → List (List Int) → Int → Int → Option (List ByteArray)
 | 0, _, _, _, _, _ => none
 | k + 1, x1, x5, x13, x14, x15 => if x15 < x14 then (if 0 ≤ x15 then (if x15 < (x13.length : Int) then ((impl_readCells.f k x1 (rd_L10 x13 x15)).bind fun t543 => (if x5.length < 8796093022208 then (impl_patterns.l0 k x1 (x5 ++ [t543]) x13 x14 (wrap64 (x15 + 1))) else (none))) else (none)) else (none)) else (some x5)
def impl_patterns.f (k : Nat) (a0_0 : Int) (a0_1 : Int) (a0_2 : ByteArray) (a1 : ByteArray) : Option (List ByteArray) := (impl_IsFill.f k a0_0 a0_1 a0_2 a1).bind fun t538 => (if t538 = true then ((impl_layout.f k a0_0 a0_1 a0_2).bind fun t539 => (impl_patterns.l0 k a1 ([] : List ByteArray) t539 (t539.length : Int) 0)) else (some ([] : List ByteArray)))
set_option maxHeartbeats 8000000 in
set_option maxRecDepth 100000 in
theorem impl_patterns.calls (k : Nat) (a0_0 : Int) (a0_1 : Int) (a0_2 : ByteArray) (a1 : ByteArray) (r : List ByteArray) (w : World) (h : impl_patterns.f k a0_0 a0_1 a0_2 a1 = some r) :
  Calls Try.prog 153 #[.agg #[.int .i64 a0_0, .int .i64 a0_1, .string a0_2], .string a1] w fun e w' => ∃ v0_ : Value, e = .returned (v0_) ∧ Kd.R Kd.string 9 w' w.heap.size (fun _ => True) v0_ r ∧ Below w.heap.size w w' := by
 have hu66 := Try.underlying66
 have HB := Aside0.mk (Below.refl w.heap.size w)
 have H : ((impl_IsFill.f k a0_0 a0_1 a0_2 a1).bind fun t538 => (if t538 = true then ((impl_layout.f k a0_0 a0_1 a0_2).bind fun t539 => (impl_patterns.l0 k a1 ([] : List ByteArray) t539 (t539.length : Int) 0)) else (some ([] : List ByteArray)))) = some r := h
 clear h
 replace H := be H; obtain ⟨t538, A3, H⟩ := H
 replace H := Aside0.mk H
 go_enter Try.func153, Try.ntmps153
 go_wp2_with (first | ((with_reducible refine gate_dst (N := 2) rfl ?_); refine box_ev (N := 2) (cs := #[.int .i64 a0_0, .int .i64 a0_1, .string a0_2]) (t := 66) ?_; intro gb537 hg w9000 hbox hb; have n0_ := BS (w := w) hb; have n1_ := Aside0.mk (hbox); have n2_ := SZ (w := w) hg; have n3_ := SZ (w := w) hg; clear HB; have HB := n0_; have BK537 := n1_; have GW537 := n2_; have GE537 := n3_; clear n0_ n1_ n2_ n3_; clear hb hbox hg; obtain ⟨hcz9001_0, hcz9001_1, hcz9001_2, hfz9001_0, hfz9001_1, hfz9001_2⟩ := cz3 BK537.out) | ((with_reducible refine gate_callee (f := 151) rfl ?_); refine goesS (some 10) Try.func151 #[.agg #[.int .i64 a0_0, .int .i64 a0_1, .string a0_2], .string a1] ?_; (with_reducible refine (impl_IsFill.calls k a0_0 a0_1 a0_2 a1 _ _ A3.out).mono ?_); rintro e w9002 ⟨rfl, hb⟩; refine ⟨_, rfl, ?_⟩; replace BK537 := KB BK537 hb; replace HB := BS (w := w) hb; (try clear hb); obtain ⟨hcz9003_0, hcz9003_1, hcz9003_2, hfz9003_0, hfz9003_1, hfz9003_2⟩ := cz3 BK537.out; refine stop_ ?_))
 refine Hide.mk ?_
 replace H := H.out
 replace H := ifB H; rcases H with ⟨rfl, H⟩ | ⟨rfl, H⟩
 ·replace H := be H; obtain ⟨t539, A5, H⟩ := H
  have H' := Aside0.mk H
  clear H
  try go_wp2_with (first | ((with_reducible refine gate_callee (f := 178) rfl ?_); refine goesS (some 13) Try.func178 #[.agg #[.int .i64 a0_0, .int .i64 a0_1, .string a0_2]] ?_; (with_reducible refine (impl_layout.calls k a0_0 a0_1 a0_2 t539 _ A5.out).mono ?_); rintro e w9004 ⟨v540, rfl, ho0, hb⟩; refine ⟨_, rfl, ?_⟩; have n0_ := Aside0.mk (Kd.S_lower ho0 (below_size BL)); replace BK537 := KB BK537 hb; replace HB := BS (w := w) hb; have HO541 := n0_; clear n0_; (try clear hb); (try clear ho0); obtain ⟨Ao9005, co9005, eo9005⟩ := Kd.S_slice HO541.out; subst eo9005))
  go_loopg [5, 15] k (fun kq v5 v15 w' => ∃ (x5_1 : List ByteArray) (x15_1 : Int), v15 = .int .i64 x15_1 ∧ Aside0 (impl_patterns.l0 kq a1 x5_1 t539 (t539.length : Int) x15_1 = some r) ∧ Aside0 (kq ≤ k) ∧ Aside0 (Kd.R Kd.string 9 w' w.heap.size (fun _ => True) v5 x5_1) ∧ Aside0 (Kd.S (Kd.slice 3 (Kd.int .i64)) 45 w' w.heap.size (fun _ => True) (.slice Ao9005 t539.length co9005) t539) ∧ Aside0 (w'.heap[gb537]? = some (.cells #[.int .i64 a0_0, .int .i64 a0_1, .string a0_2] 66 (0, 0))) ∧ Aside0 (Below w.heap.size w w'))
  case atStart => exact ⟨(([] : List ByteArray)), (0), EQ, H', ⟨Nat.le_refl _⟩, ⟨by first | exact Kd.R_nil _ _ _ _ _ | exact Kd.N_nil _ _ _ _ _ | exact Kd.V_nil _ _ _ _ _ | exact Kd.Q_nil _ _ _ _ _ | exact Kd.S_nil _ _ _ _ _⟩, ⟨(SR HO541)⟩, ⟨BK⟩, ⟨BL⟩⟩
  case round =>
   clear H'
   try clear c1
   try clear c4
   try clear hcz9001_0
   try clear hcz9001_1
   try clear hcz9001_2
   try clear hcz9003_0
   try clear hcz9003_1
   try clear hcz9003_2
   try clear hfz9001_0
   try clear hfz9001_1
   try clear hfz9001_2
   try clear hfz9003_0
   try clear hfz9003_1
   try clear hfz9003_2
   obtain ⟨x5_1, x15_1, rfl, HA, HK1, HO_5, HO_13, BK537, HB⟩ := hrel
   cases gk with
   | zero => exact absurd HA.out (by simp [impl_patterns.l0])
   | succ k1 =>
    have H := HA.out
    clear HA
    simp only [impl_patterns.l0] at H
    replace H := ifD H; rcases H with ⟨c12b0, H⟩ | ⟨c12b0, H⟩
    ·replace H := ifN H; obtain ⟨c13b0, H⟩ := H
     replace H := ifN H; obtain ⟨c14b0, H⟩ := H
     replace H := be H; obtain ⟨t543, A15, H⟩ := H
     replace H := ifP H; obtain ⟨c16, H⟩ := H
     have LMc16 := Aside0.mk c16
     clear c16
     obtain ⟨y544, hy544⟩ : ∃ y_ : List ByteArray, y_ = (x5_1 ++ [t543]) := ⟨_, rfl⟩
     replace H : (impl_patterns.l0 k1 a1 y544 t539 (t539.length : Int) (wrap64 (x15_1 + 1))) = some r := by first | (rw [hy544]; with_reducible exact H) | (have H2_ := (Option.bind_some _ _).symm.trans H; rw [hy544]; with_reducible exact H2_) | (have H2_ := (Option.bind_some _ _).symm.trans H; with_reducible exact H2_) | with_reducible exact H | (rw [hy544]; exact H) | exact H
     have Ny544 := Aside0.mk hy544
     clear hy544
     have H' := Aside0.mk H
     clear H
     have p542 : 0 ≤ (x15_1 : Int) := OD
     have q542 : x15_1 < (t539.length : Int) := OD
     obtain ⟨ad542, A542_0, c542_0, e542, hx542_0, hl542_0, hi542_0⟩ := at_L10 (Kd.S_reads' HO_13.out).2.2 x15_1 p542 q542
     cases e542
     obtain ⟨ce542, hce542, hMe542, hcc542⟩ := Kd.S_get HO_13.out [] x15_1 p542 (by first | exact q542 | exact OD | (have e_ := (Kd.S_reads' HO_13.out).1; omega))
     obtain ⟨ve542_0, rfl, ge542_0⟩ := hMe542
     have hv542_0 := hcc542 0 _ rfl
     rw [Nat.add_zero, show ((Kd.slice 3 (Kd.int .i64))).sz = 1 from rfl, Nat.mul_one] at hv542_0
     replace hv542_0 := Option.some.inj (hv542_0.symm.trans hx542_0)
     rw [hv542_0] at ge542_0
     have HL542_0 := Aside0.mk (show Kd.R (Kd.int .i64) 3 _ _ _ _ (rd_L10 t539 x15_1) from ge542_0)
     clear hv542_0 ge542_0
     clear hcc542 hce542
     have HR542_0 := Aside0.mk hi542_0
     have HC542_0 := Aside0.mk hl542_0
     clear hi542_0 hl542_0
     replace p542 := eq_true p542
     replace q542 := eq_true q542
     go_wp2_with (first | ((with_reducible refine gate_callee (f := 182) rfl ?_); refine goesS (some 22) Try.func182 #[.string a1, .slice A542_0 (rd_L10 t539 x15_1).length c542_0] ?_; (with_reducible refine (impl_readCells.calls k1 a1 _ _ (rd_L10 t539 x15_1) t543 _ ?side1 ?side2 A15.out).mono ?_); (case side1 => repeat (first | exact (by repeat (first | (with_reducible exact HR542_0.out) | (with_reducible refine Kd.C_alloc ?_ _) | (with_reducible refine Kd.C_drewN ?_ _) | (with_reducible refine Kd.C_drew ?_) | exact HR542_0.out)) | (with_reducible refine Kd.C_alloc ?_ _) | (with_reducible refine Kd.C_drewN ?_ _) | (with_reducible refine Kd.C_drew ?_))); (case side2 => exact HC542_0.out); rintro e w9006 ⟨rfl, hb⟩; refine ⟨_, rfl, ?_⟩; have n0_ := RB HO_5 hb; have n1_ := Aside0.mk (Kd.S_below (SR HO_13) hb); have n2_ := Aside0.mk (Kd.R_below (by (with_reducible repeat (first | apply Kd.R_alloc | apply Kd.R_drewN | apply Kd.R_drew)); exact HL542_0.out) hb); have n3_ := KB BK537 hb; have n4_ := Aside0.mk (Kd.C_below (by repeat (first | (with_reducible exact HR542_0.out) | (with_reducible refine Kd.C_alloc ?_ _) | (with_reducible refine Kd.C_drewN ?_ _) | (with_reducible refine Kd.C_drew ?_) | exact HR542_0.out)) hb); have n5_ := BS (w := w) hb; clear HO_5 HO_13 HL542_0 BK537 HR542_0 HB; have HO_5 := n0_; have HO_13 := n1_; have HL542_0 := n2_; have BK537 := n3_; have HR542_0 := n4_; have HB := n5_; clear n0_ n1_ n2_ n3_ n4_ n5_; (try clear hb)) | ((with_reducible refine gate_builtin (b := .append) (xs := #[.tmp 19, .tmp 23]) rfl ?_); at_builtin; refine Kd.R_append Kd.string (w0 := w) w.heap.size rfl (.tmp 19) (.tmp 23) 47 9 (.string ⟨#[]⟩) 16 rfl Try.underlying47 info9 rfl (by decide) (by omega) u5 x5_1 t543 [.string t543] (fun _ => True) (fun _ => False) rfl rfl ?aP (fun _ hk => hk.elim) ?aF ?aO ?aB ?aS ?aL ?_; (case aP => exact rfl); (case aB => exact BL); (case aF => exact (fun _ _ => trivial)); (case aO => exact (RR HO_5)); (case aS => exact (below_size BL)); (case aL => have := LMc16.out; omega); intro v545 w9007 ho hb hg hat; rw [← Ny544.out] at ho; have n0_ := Aside0.mk (Kd.S_over' (SR HO_13) (Kd.R_typed (RR HO_5)) (by decide) hg); have n1_ := Aside0.mk (blk_grown (g := gb537) (o := .cells #[.int .i64 a0_0, .int .i64 a0_1, .string a0_2] 66 (0, 0)) BK hg (Kd.R_ne HO_5.out BK537.out (by decide))); have n2_ := Aside0.mk (Kd.R_over' (by (with_reducible repeat (first | apply Kd.R_alloc | apply Kd.R_drewN | apply Kd.R_drew)); exact HL542_0.out) (Kd.R_typed (RR HO_5)) (by decide) hg); have n3_ := Aside0.mk (hb); have n4_ := Aside0.mk (ho); clear HO_13 BK537 HL542_0 HB HO_5; have HO_13 := n0_; have BK537 := n1_; have HL542_0 := n2_; have HB := n3_; have HO546 := n4_; clear n0_ n1_ n2_ n3_ n4_; clear ho hb hg hat))
     go_roundg k1
     case measure => have := HK1.out; omega
     case rel => exact ⟨(y544), (wrap64 (x15_1 + 1)), EQ, H', ⟨by have := HK1.out; omega⟩, ⟨(RR HO546)⟩, ⟨(SR HO_13)⟩, ⟨BK⟩, ⟨BL⟩⟩
    ·obtain rfl := Option.some.inj H
     go_wp2
     go_ret
     exact ⟨_, EWW, (RR HO_5), BL⟩
 ·obtain rfl := Option.some.inj H
  try go_wp2
  go_ret
  exact ⟨_, EWW, by first | exact Kd.R_nil _ _ _ _ _ | exact Kd.N_nil _ _ _ _ _ | exact Kd.V_nil _ _ _ _ _ | exact Kd.Q_nil _ _ _ _ _ | exact Kd.S_nil _ _ _ _ _, BL⟩
def impl_Mod.f (a0 : Int) (a1 : Int) : Option (Int) := (impl_InRange.f a1 1 1000000000000).bind fun t547 => (if t547 = true then (if a1 = 0 then (none) else (some (Int.tmod (wrap64 ((Int.tmod a0 a1) + a1)) a1))) else (some 0))
set_option maxHeartbeats 8000000 in
set_option maxRecDepth 100000 in
theorem impl_Mod.calls (a0 : Int) (a1 : Int) (r : Int) (w : World) (h : impl_Mod.f a0 a1 = some r) :
  Calls Try.prog 212 #[.int .i64 a0, .int .i64 a1] w fun e w' => e = .returned (.int .i64 r) ∧ Drawn0 w w' := by
 have H : ((impl_InRange.f a1 1 1000000000000).bind fun t547 => (if t547 = true then (if a1 = 0 then (none) else (some (Int.tmod (wrap64 ((Int.tmod a0 a1) + a1)) a1))) else (some 0))) = some r := h
 clear h
 replace H := be H; obtain ⟨t547, A3, H⟩ := H
 replace H := Aside0.mk H
 go_enter Try.func212, Try.ntmps212
 go_wp2_with (first | ((with_reducible refine gate_callee (f := 65) rfl ?_); refine goesS (some 6) Try.func65 #[.int .i64 a1, .int .i64 1, .int .i64 1000000000000] ?_; (with_reducible refine (impl_InRange.calls a1 1 1000000000000 _ _ A3.out).mono ?_); rintro e w' ⟨rfl, ⟨nd, rfl⟩⟩; refine ⟨_, rfl, ?_⟩; refine stop_ ?_))
 refine Hide.mk ?_
 replace H := H.out
 replace H := ifB H; rcases H with ⟨rfl, H⟩ | ⟨rfl, H⟩
 ·by_cases c5 : a1 = 0
  ·rw [if_pos c5] at H
   exact absurd H (by simp)
  ·rw [if_neg c5] at H
   have c5b0 : (a1 == 0) = false := beq_eq_false_iff_ne.mpr c5
   have c5b1 : (a1 != 0) = true := bne_iff_ne.mpr c5
   obtain rfl := Option.some.inj H
   try go_wp2
   go_ret
   exact ⟨by first | rfl | (simp; done) | (simp [*]; done), by repeat (first | exact Drawn0.refl _ | apply Drawn0.step)⟩
 ·obtain rfl := Option.some.inj H
  try go_wp2
  go_ret
  exact ⟨by first | rfl | (simp; done) | (simp [*]; done), by repeat (first | exact Drawn0.refl _ | apply Drawn0.step)⟩
end Go.Proofs.Ythjcicmmbmagbaa.PFnExactIsSolved
