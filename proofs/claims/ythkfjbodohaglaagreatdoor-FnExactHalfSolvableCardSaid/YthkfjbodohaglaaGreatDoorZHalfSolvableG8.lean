/- Walks of functions: what each computes. -/
import Derived.Test.YthkfjbodohaglaaGreatDoorZHalfSolvableG0
import Derived.Test.YthkfjbodohaglaaGreatDoorZHalfSolvableG6
import Derived.Test.YthkfjbodohaglaaGreatDoorZHalfSolvableG7
import Derived.Test.YthkfjbodohaglaaGreatDoorZHalfSolvableW
import Derived.Test.YthkfjbodohaglaaGreatDoorZHalfSolvableShelf
import Derived.Test.YthkfjbodohaglaaGreatDoorZHalfSolvableHandSort
import Derived.Test.YthkfjbodohaglaaGreatDoorZHalfSolvableHandForm
import Derived.Test.YthkfjbodohaglaaGreatDoorZHalfSolvableHandAlone
import Derived.Test.YthkfjbodohaglaaGreatDoorZHalfSolvableHandReach
import Derived.Test.YthkfjbodohaglaaGreatDoorZHalfSolvableHandRepl
namespace Go.Proofs.YthkfjbodohaglaaGreatDoor.PFnExactHalfSolvable
open Go.RowKit Go.Proofs.YthkfjbodohaglaaGreatDoorW.PrintWords Go.Proofs.YthkfjbodohaglaaGreatDoorW.PrintLast Go.Proofs.YthkfjbodohaglaaGreatDoorW.PrintMore Go.Proofs.YthkfjbodohaglaaGreatDoor.Sq
attribute [local go_sem] kH kJ lY lZ jG jH kI kK
set_option maxHeartbeats 8000000
set_option maxRecDepth 100000
set_option linter.unusedVariables false
set_option linter.unusedSimpArgs false
def kP.f (k : Nat) (l0 : List (S72)) (a1 : ByteArray) : Option (Bool) := (gq.f k l0 a1).bind fun t569 => (some (decide (t569 ≥ 0)))
theorem kP.calls (k : Nat) (o : Option Addr) (u : Nat) (l0 : List (S72)) (z : ByteArray) (r : Bool) (w : World) (a : Kd.C k72 w o l0.length l0) (l : l0.length ≤ u) (h : kP.f k l0 z = some r) :
  Calls Tryz.prog 61 #[.slice o l0.length u, .func (.func 62) #[] #[]] w fun e w' => e = .returned (.bool r) ∧ Below w.heap.size w w' := by
 have x := ah.mk a;have y := ah.mk l;clear a l;have HB := ah.mk (Below.refl w.heap.size w);unfold kP.f at h;have H := h;clear h;replace H := be H; obtain ⟨m, A, H⟩ := H;obtain rfl := Option.some.inj H;go_enter Tryz.func61, Tryz.ntmps61;go_wp2_with (first | ((with_reducible refine ay (f := 101) rfl ?_); refine bg (some 7) Tryz.func101 #[.slice o l0.length u, .func (.func 62) #[] #[]] ?_; (with_reducible refine (gq.calls k _ _ l0 z m _ ?side1 ?side2 A.out).mono ?_); (case side1 => repeat (first | exact x.out | (with_reducible refine Kd.gV ?_ _) | (with_reducible refine Kd.gW ?_ _) | (with_reducible refine Kd.iT ?_))); (case side2 => exact y.out); rintro e D ⟨rfl, hb⟩; refine ⟨_, rfl, ?_⟩; replace HB := BS (w := w) hb; (try clear hb)));go_ret;exact ⟨EWW, BL⟩
def jX.f (k : Nat) (LU LV : Int) (LW : ByteArray) (LX : List (S72)) (LY : List Int) (LZ : Int) : Option (Bool) := (dI.f k LU LV LW).bind fun t571 => (if t571 = 0 then ((aY.f k LU LV LW).bind fun t572 => (if (LX.length : Int) = (t572.length : Int) then (if (LY.length : Int) = (t572.length : Int) then ((dx.f LZ 1 9999).bind fun t575 => (if t575 = true then ((kP.f k LX (⟨#[70, 73, 88]⟩ : ByteArray)).bind fun t576 => (some (!t576))) else (some false))) else (some false)) else (some false))) else (some false))
theorem jX.calls (k : Nat) (LU LV : Int) (LW : ByteArray) (A0_3 : Option Addr) (c0_3 : Nat) (LX : List (S72)) (A0_4 : Option Addr) (c0_4 : Nat) (LY : List Int) (LZ : Int) (r : Bool) (w : World) (hr0_3 : Kd.C k72 w A0_3 LX.length LX) (hc0_3 : LX.length ≤ c0_3) (hr0_4 : Kd.C (Kd.int .i64) w A0_4 LY.length LY) (hc0_4 : LY.length ≤ c0_4) (h : jX.f k LU LV LW LX LY LZ = some r) :
  Calls Tryz.prog 36 #[.agg #[.int .i64 LU, .int .i64 LV, .string LW, .slice A0_3 LX.length c0_3, .slice A0_4 LY.length c0_4, .int .i64 LZ]] w fun e w' => e = .returned (.bool r) ∧ Below w.heap.size w w' := by
 have xQ := Tryz.underlying37;have xR := Tryz.underlying34;have u := ah.mk hr0_3;have x := ah.mk hc0_3;clear hr0_3 hc0_3;have xI := ah.mk hr0_4;have xJ := ah.mk hc0_4;clear hr0_4 hc0_4;have HB := ah.mk (Below.refl w.heap.size w);unfold jX.f at h;have H := h;clear h;replace H := be H; obtain ⟨xv, A2, H⟩ := H;replace H := ah.mk H;go_enter Tryz.func36, Tryz.ntmps36;go_wp2_with (first | ((with_reducible refine aJ (N := 1) rfl ?_); (try (refine jI (by rfl) ?_; dsimp only)); refine bf (N := 1) (cs := #[.int .i64 LU, .int .i64 LV, .string LW, .slice A0_3 LX.length c0_3, .slice A0_4 LY.length c0_4, .int .i64 LZ]) (t := 37) ?_; intro xK hg xL hbox hb; have l := ah.mk hbox; have y := SZ (w := w) hg; have xM := y; replace HB := BS (w := w) hb; clear hb hbox hg; obtain ⟨z, A, D, E, G, I, J, K, L, M, O, P⟩ := cz6 l.out) | ((with_reducible refine ay (f := 58) rfl ?_); refine bg (some 6) Tryz.func58 #[.agg #[.int .i64 LU, .int .i64 LV, .string LW]] ?_; (with_reducible refine (dI.calls k LU LV LW xv _ A2.out).mono ?_); rintro e xN ⟨rfl, hb⟩; refine ⟨_, rfl, ?_⟩; replace l := KB l hb; replace HB := BS (w := w) hb; (try clear hb); obtain ⟨U, Y, Z, xa, xb, xc, xd, xe, xf, xg, xh, xi⟩ := cz6 l.out; refine cB ?_));refine Hide.mk ?_;replace H := H.out;replace H := ifE H; rcases H with ⟨xw, xx, H⟩ | ⟨c3, xw, xx, H⟩
 ·replace H := be H; obtain ⟨a, A4, H⟩ := H;replace H := ah.mk H;go_wp2_with (first | ((with_reducible refine ay (f := 59) rfl ?_); refine bg (some 10) Tryz.func59 #[.agg #[.int .i64 LU, .int .i64 LV, .string LW]] ?_; (with_reducible refine (aY.calls k LU LV LW a _ A4.out).mono ?_); rintro e xO ⟨xS, rfl, xy, hb⟩; refine ⟨_, rfl, ?_⟩; replace l := KB l hb; have m := ah.mk (Kd.bV xy (aK BL)); replace HB := BS (w := w) hb; (try clear hb); (try clear xy); obtain ⟨xG, xH, o⟩ := Kd.dw m.out; subst o; obtain ⟨xj, xk, xl, xm, xn, xo, xp, xq, xr, xs, xt, xu⟩ := cz6 l.out; refine cB ?_));refine Hide.mk ?_;replace H := H.out;by_cases c5 : (LX.length : Int) = (a.length : Int)
  ·rw [if_pos c5] at H;have xz : ((LX.length : Int) == (a.length : Int)) = true := beq_iff_eq.mpr c5;have xA : ((LX.length : Int) != (a.length : Int)) = false := bne_eq_false_iff_eq.mpr c5;have xB : (LX.length == a.length) = true := by first | simpa using c5 | (simp at c5 ⊢; omega)
   clear c5;by_cases c6 : (LY.length : Int) = (a.length : Int)
   ·rw [if_pos c6] at H;have xC : ((LY.length : Int) == (a.length : Int)) = true := beq_iff_eq.mpr c6;have xD : ((LY.length : Int) != (a.length : Int)) = false := bne_eq_false_iff_eq.mpr c6;have xE : (LY.length == a.length) = true := by first | simpa using c6 | (simp at c6 ⊢; omega)
    clear c6;replace H := be H; obtain ⟨xT, A7, H⟩ := H;replace H := ah.mk H;go_wp2_with (first | (go_at_call 60; (with_reducible refine (dx.calls LZ 1 9999 _ _ A7.out).mono ?_); rintro e w' ⟨rfl, ⟨nd, rfl⟩⟩; refine cB ?_));refine Hide.mk ?_;replace H := H.out;replace H := ifB H; rcases H with ⟨rfl, H⟩ | ⟨rfl, H⟩
    ·replace H := be H; obtain ⟨xF, A9, H⟩ := H;obtain rfl := Option.some.inj H;(try go_wp2_with (first | (go_at_call 61; (with_reducible refine (kP.calls k _ _ LX (⟨#[70, 73, 88]⟩ : ByteArray) xF _ ?side1 ?side2 A9.out).mono ?_); (case side1 => repeat (first | exact (Kd.fB u.out BL) | (with_reducible refine Kd.gV ?_ _) | (with_reducible refine Kd.gW ?_ _) | (with_reducible refine Kd.iT ?_))); (case side2 => exact x.out); rintro e xP ⟨rfl, hb⟩; replace m := RB m hb; replace l := KB l hb; replace HB := BS (w := w) hb; (try clear hb))));go_ret;exact ⟨EWW, BL⟩
    ·obtain rfl := Option.some.inj H;(try go_wp2);go_ret;exact ⟨EWW, BL⟩
   ·rw [if_neg c6] at H;have xC : ((LY.length : Int) == (a.length : Int)) = false := beq_eq_false_iff_ne.mpr c6;have xD : ((LY.length : Int) != (a.length : Int)) = true := bne_iff_ne.mpr c6;have xE : (LY.length == a.length) = false := by first | simpa using c6 | (simp at c6 ⊢; omega)
    obtain rfl := Option.some.inj H;(try go_wp2);go_ret;exact ⟨EWW, BL⟩
  ·rw [if_neg c5] at H;have xz : ((LX.length : Int) == (a.length : Int)) = false := beq_eq_false_iff_ne.mpr c5;have xA : ((LX.length : Int) != (a.length : Int)) = true := bne_iff_ne.mpr c5;have xB : (LX.length == a.length) = false := by first | simpa using c5 | (simp at c5 ⊢; omega)
   obtain rfl := Option.some.inj H;(try go_wp2);go_ret;exact ⟨EWW, BL⟩
 ·obtain rfl := Option.some.inj H;(try go_wp2);go_ret;exact ⟨EWW, BL⟩
mutual
def dG.j0 : Nat → ByteArray → Bool → Int → Int → ByteArray → Option (Bool)
 | 0, _, _, _, _, _ => none
 | k + 1, a, b, c, d, e => if b = true then (some false) else (dG.l0 k a (a.size : Int) 0 c d e)
def dG.l0 : Nat → ByteArray → Int → Int → Int → Int → ByteArray → Option (Bool)
 | 0, _, _, _, _, _, _ => none
 | k + 1, a, b, c, d, e, f => if c < b then (if 0 ≤ c then (if c < (f.size : Int) then (if c < (a.size : Int) then (if (((bt f c) == 35) != ((bt a c) == 35)) = true then (some false) else (if (bt a c) = 35 then (dG.l0 k a b (wrap64 (c + 1)) d e f) else (if (bt a c) = 63 then (dG.l0 k a b (wrap64 (c + 1)) d e f) else ((eP.f (bt a c)).bind fun g => (if g = true then (dG.l0 k a b (wrap64 (c + 1)) d e f) else (some false)))))) else (none)) else (none)) else (none)) else (some true)
end
def dG.f (k : Nat) (LU LV : Int) (LW a1 : ByteArray) : Option (Bool) := (bB.f k LU LV LW).bind fun t578 => (if t578 = true then (dG.j0 k a1 ((a1.size : Int) != (LW.size : Int)) LU LV LW) else (dG.j0 k a1 true LU LV LW))
theorem dG.calls (k : Nat) (LU LV : Int) (LW m : ByteArray) (r : Bool) (w : World) (h : dG.f k LU LV LW m = some r) :
  Calls Tryz.prog 72 #[.agg #[.int .i64 LU, .int .i64 LV, .string LW], .string m] w fun e w' => e = .returned (.bool r) ∧ Below w.heap.size w w' := by
 have xA := Tryz.underlying34;have HB := ah.mk (Below.refl w.heap.size w);unfold dG.f at h;have H := h;clear h;have Z := ah.mk H;clear H;go_enter Tryz.func72, Tryz.ntmps72;go_upto_region 1 with (first | ((with_reducible refine aJ (N := 2) rfl ?_); (try (refine jI (by rfl) ?_; dsimp only)); refine bf (N := 2) (cs := #[.int .i64 LU, .int .i64 LV, .string LW]) (t := 34) ?_; intro I hg w4 hbox hb; have l := ah.mk hbox; have o := SZ (w := w) hg; have Y := o; replace HB := BS (w := w) hb; clear hb hbox hg))
 repeat (go_quiet (first | ((with_reducible refine aJ (N := 2) rfl ?_); (try (refine jI (by rfl) ?_; dsimp only)); refine bf (N := 2) (cs := #[.int .i64 LU, .int .i64 LV, .string LW]) (t := 34) ?_; intro I hg w4 hbox hb; have l := ah.mk hbox; have o := SZ (w := w) hg; have Y := o; replace HB := BS (w := w) hb; clear hb hbox hg)); go_upto_region 1 with (first | ((with_reducible refine aJ (N := 2) rfl ?_); (try (refine jI (by rfl) ?_; dsimp only)); refine bf (N := 2) (cs := #[.int .i64 LU, .int .i64 LV, .string LW]) (t := 34) ?_; intro I hg w4 hbox hb; have l := ah.mk hbox; have o := SZ (w := w) hg; have Y := o; replace HB := BS (w := w) hb; clear hb hbox hg)))
 (try simp only [Act.put, List.setIfInBounds_toArray, List.set_cons_zero, List.set_cons_succ])
 go_cut [16] (fun xu wc => ∃ (kq : Nat) (J : Bool), xu = .bool J ∧ ah (dG.j0 kq m J LU LV LW = some r) ∧ ah (kq ≤ k) ∧ ah (wc.heap[I]? = some (.cells #[.int .i64 LU, .int .i64 LV, .string LW] 34 (0, 0))) ∧ ah (Below w.heap.size w wc))
 case first =>
  have H := Z.out;clear Z;replace H := be H; obtain ⟨xC, A5, H⟩ := H;obtain ⟨xa, xb, xc, xd, xe, xf⟩ := cz3 l.out;replace H := ifB H; rcases H with ⟨rfl, H⟩ | ⟨rfl, H⟩
  ·have H' := ah.mk H;clear H
   repeat (go_wp2_with (first | (go_at_call 75; (with_reducible refine (bB.calls k LU LV LW _ _ A5.out).mono ?_); rintro e u ⟨rfl, hb⟩; replace l := KB l hb; replace HB := BS (w := w) hb; (try clear hb); (try clear hb2); (try clear hk); (try clear hi); obtain ⟨x, y, z, A, D, E⟩ := cz3 l.out)); go_quiet (first | (go_at_call 75; (with_reducible refine (bB.calls k LU LV LW _ _ A5.out).mono ?_); rintro e u ⟨rfl, hb⟩; replace l := KB l hb; replace HB := BS (w := w) hb; (try clear hb); (try clear hb2); (try clear hk); (try clear hi); obtain ⟨x, y, z, A, D, E⟩ := cz3 l.out)))
   go_wp2_with (first | (go_at_call 75; (with_reducible refine (bB.calls k LU LV LW _ _ A5.out).mono ?_); rintro e u ⟨rfl, hb⟩; replace l := KB l hb; replace HB := BS (w := w) hb; (try clear hb); (try clear hb2); (try clear hk); (try clear hi); obtain ⟨x, y, z, A, D, E⟩ := cz3 l.out));go_meet;case rel => exact ⟨_, _, EQ, H', ⟨by first | omega | exact Nat.le_refl _⟩, ⟨BK⟩, ⟨BL⟩⟩
  ·have H' := ah.mk H;clear H
   repeat (go_wp2_with (first | (go_at_call 75; (with_reducible refine (bB.calls k LU LV LW _ _ A5.out).mono ?_); rintro e u ⟨rfl, hb⟩; replace l := KB l hb; replace HB := BS (w := w) hb; (try clear hb); (try clear hb2); (try clear hk); (try clear hi))); go_quiet (first | (go_at_call 75; (with_reducible refine (bB.calls k LU LV LW _ _ A5.out).mono ?_); rintro e u ⟨rfl, hb⟩; replace l := KB l hb; replace HB := BS (w := w) hb; (try clear hb); (try clear hb2); (try clear hk); (try clear hi))))
   go_wp2_with (first | (go_at_call 75; (with_reducible refine (bB.calls k LU LV LW _ _ A5.out).mono ?_); rintro e u ⟨rfl, hb⟩; replace l := KB l hb; replace HB := BS (w := w) hb; (try clear hb); (try clear hb2); (try clear hk); (try clear hi)));go_meet;case rel => exact ⟨_, _, EQ, H', ⟨by first | omega | exact Nat.le_refl _⟩, ⟨BK⟩, ⟨BL⟩⟩
 case rest =>
  clear Z;obtain ⟨kq, J, rfl, HA, O, l, HB⟩ := hcut
  cases kq with
  | zero => exact absurd HA.out (by simp [dG.j0])
  | succ xt =>
   have H := HA.out;clear HA;simp only [dG.j0] at H;replace H := ifB H; rcases H with ⟨rfl, H⟩ | ⟨rfl, H⟩
   ·obtain rfl := Option.some.inj H;go_wp2
    repeat (go_quiet (fail); try go_wp2)
    go_ret;exact ⟨EWW, BL⟩
   ·have H' := ah.mk H;clear H;go_wp2
    repeat (go_quiet (fail); try go_wp2)
    go_loopg [19] xt (fun kq xv w' => ∃ (a : Int), xv = .int .i64 a ∧ ah (dG.l0 kq m (m.size : Int) a LU LV LW = some r) ∧ ah (kq ≤ xt) ∧ ah (w'.heap[I]? = some (.cells #[.int .i64 LU, .int .i64 LV, .string LW] 34 (0, 0))) ∧ ah (Below w.heap.size w w'))
    case atStart => exact ⟨_, EQ, H', ⟨Nat.le_refl _⟩, ⟨BK⟩, ⟨BL⟩⟩
    case round =>
     clear H';(try clear xE);obtain ⟨a, rfl, HA, P, l, HB⟩ := hrel
     cases gk with
     | zero => exact absurd HA.out (by simp [dG.l0])
     | succ k2 =>
      have H := HA.out;clear HA;simp only [dG.l0] at H;replace H := ifD H; rcases H with ⟨xg, H⟩ | ⟨xg, H⟩
      ·replace H := ifN H; obtain ⟨xw, H⟩ := H;replace H := ifN H; obtain ⟨xx, H⟩ := H;replace H := ifN H; obtain ⟨xy, H⟩ := H;obtain ⟨xh, xi, xj, xk, xl, xm⟩ := cz3 l.out;have xF : (0 ≤ (a : Int)) = True := OT;have xG : (a < (LW.size : Int)) = True := OT;have hx16 := gF LW a;have xH : (0 ≤ (a : Int)) = True := OT;have xI : (a < (m.size : Int)) = True := OT;have hx18 := gF m a;by_cases G : (((bt LW a) == 35) != ((bt m a) == 35)) = true
       ·rw [if_pos G] at H;have K : (((bt LW a) == 35) != ((bt m a) == 35)) = true := G;(try (have xn : decide (((bt LW a) == 35) = ((bt m a) == 35)) = false := by simpa using G));(try (have xo : (((bt LW a) == 35) == ((bt m a) == 35)) = false := by simpa using G));(try (have xz : ¬ (((bt LW a) == 35) = ((bt m a) == 35)) := by simpa using G));clear G;obtain rfl := Option.some.inj H;go_wp2
        repeat (go_quiet (fail); try go_wp2)
        go_ret;exact ⟨EWW, BL⟩
       ·rw [if_neg G] at H;have K : (((bt LW a) == 35) != ((bt m a) == 35)) = false := by simpa using G
        (try (have xn : decide (((bt LW a) == 35) = ((bt m a) == 35)) = true := by simpa using G));(try (have xo : (((bt LW a) == 35) == ((bt m a) == 35)) = true := by simpa using G));clear G;have xJ : (0 ≤ (a : Int)) = True := OT;have xK : (a < (m.size : Int)) = True := OT;have hx21 := gF m a;by_cases L : (bt m a) = 35
        ·rw [if_pos L] at H;have M : ((bt m a) == 35) = true := beq_iff_eq.mpr L;have cwc19_ : ((bt LW a) == 35) = true := (bne_eq_false_iff_eq.mp K).trans M;have xp : ((bt m a) != 35) = false := bne_eq_false_iff_eq.mpr L;clear L;have H' := ah.mk H;clear H;go_wp2
         repeat (go_quiet (fail); try go_wp2)
         go_roundg k2;case measure => have := O.out; have := P.out; omega
         case rel => exact ⟨_, EQ, H', ⟨by have := O.out; have := P.out; omega⟩, ⟨BK⟩, ⟨BL⟩⟩
        ·rw [if_neg L] at H;have M : ((bt m a) == 35) = false := beq_eq_false_iff_ne.mpr L;have cwc19_ : ((bt LW a) == 35) = false := (bne_eq_false_iff_eq.mp K).trans M;have xp : ((bt m a) != 35) = true := bne_iff_ne.mpr L;have xL : (0 ≤ (a : Int)) = True := OT;have xM : (a < (m.size : Int)) = True := OT;have hx24 := gF m a;replace H := ifE H; rcases H with ⟨xq, xr, H⟩ | ⟨xN, xq, xr, H⟩
         ·have H' := ah.mk H;clear H;go_wp2
          repeat (go_quiet (fail); try go_wp2)
          go_roundg k2;case measure => have := O.out; have := P.out; omega
          case rel => exact ⟨_, EQ, H', ⟨by have := O.out; have := P.out; omega⟩, ⟨BK⟩, ⟨BL⟩⟩
         ·replace H := be H; obtain ⟨xD, U, H⟩ := H;have xO : (0 ≤ (a : Int)) = True := OT;have xP : (a < (m.size : Int)) = True := OT;have hx27 := gF m a;replace H := ifB H; rcases H with ⟨rfl, H⟩ | ⟨rfl, H⟩
          ·have H' := ah.mk H;clear H
           repeat (go_wp2_with (first | (go_at_call 107; (with_reducible refine (eP.calls (bt m a) _ _ U.out).mono ?_); rintro e w' ⟨rfl, ⟨nd, rfl⟩⟩; (try first | exact da | exact DD))); go_quiet (first | (go_at_call 107; (with_reducible refine (eP.calls (bt m a) _ _ U.out).mono ?_); rintro e w' ⟨rfl, ⟨nd, rfl⟩⟩; (try first | exact da | exact DD))))
           go_wp2_with (first | (go_at_call 107; (with_reducible refine (eP.calls (bt m a) _ _ U.out).mono ?_); rintro e w' ⟨rfl, ⟨nd, rfl⟩⟩; (try first | exact da | exact DD)));go_roundg k2;case measure => have := O.out; have := P.out; omega
           case rel => exact ⟨_, EQ, H', ⟨by have := O.out; have := P.out; omega⟩, ⟨BK⟩, ⟨BL⟩⟩
          ·obtain rfl := Option.some.inj H
           repeat (go_wp2_with (first | (go_at_call 107; (with_reducible refine (eP.calls (bt m a) _ _ U.out).mono ?_); rintro e w' ⟨rfl, ⟨nd, rfl⟩⟩; (try first | exact da | exact DD))); go_quiet (first | (go_at_call 107; (with_reducible refine (eP.calls (bt m a) _ _ U.out).mono ?_); rintro e w' ⟨rfl, ⟨nd, rfl⟩⟩; (try first | exact da | exact DD))))
           go_wp2_with (first | (go_at_call 107; (with_reducible refine (eP.calls (bt m a) _ _ U.out).mono ?_); rintro e w' ⟨rfl, ⟨nd, rfl⟩⟩; (try first | exact da | exact DD)));go_ret;exact ⟨EWW, BL⟩
      ·obtain rfl := Option.some.inj H;go_wp2
       repeat (go_quiet (fail); try go_wp2)
       go_ret;exact ⟨EWW, BL⟩
def eZ.l0 : Nat → ByteArray → List Int → List Int → Int → Int → Option (ByteArray)
 | 0, _, _, _, _, _ => none
 | k + 1, a, b, c, d, e => if e < d then (if 0 ≤ e then (if e < (c.length : Int) then (if 0 ≤ (rd c e) then (if (rd c e) < (a.size : Int) then (if b.length < 140737488355328 then (eZ.l0 k a (b ++ [bt a (rd c e)]) c d (wrap64 (e + 1))) else (none)) else (none)) else (none)) else (none)) else (none)) else (some (strOfNums b))
def eZ.f (k : Nat) (a0 : ByteArray) (l1 : List Int) : Option (ByteArray) := eZ.l0 k a0 ([] : List Int) l1 (l1.length : Int) 0
theorem eZ.calls (k : Nat) (z : ByteArray) (A1 : Option Addr) (c1 : Nat) (l1 : List Int) (r : ByteArray) (w : World) (hr1 : Kd.C (Kd.int .i64) w A1 l1.length l1) (hc1 : l1.length ≤ c1) (h : eZ.f k z l1 = some r) :
  Calls Tryz.prog 74 #[.string z, .slice A1 l1.length c1] w fun e w' => e = .returned (.string r) ∧ Below w.heap.size w w' := by
 have L := ah.mk hr1;have xd := ah.mk hc1;clear hr1 hc1;have HB := ah.mk (Below.refl w.heap.size w);unfold eZ.f at h;have H := h;clear h;have H' := ah.mk H;clear H;go_enter Tryz.func74, Tryz.ntmps74;go_wp2
 go_loopg [5, 10] k (fun kq v5 M w' => ∃ (o : List Int) (a : Int), M = .int .i64 a ∧ ah (eZ.l0 kq z o l1 (l1.length : Int) a = some r) ∧ ah (kq ≤ k) ∧ ah (Kd.R (Kd.int .u8) 5 w' w.heap.size (fun _ => True) v5 o) ∧ ah (Below w.heap.size w w'))
 case atStart => exact ⟨_, _, EQ, H', ⟨Nat.le_refl _⟩, ⟨by first | exact Kd.nO _ _ _ _ _ | exact Kd.qo _ _ _ _ _ | exact Kd.qx _ _ _ _ _ | exact Kd.qp _ _ _ _ _ | exact Kd.qw _ _ _ _ _⟩, ⟨BL⟩⟩
 case round =>
  clear H';(try clear c1);obtain ⟨o, a, rfl, HA, E, u, HB⟩ := hrel
  cases gk with
  | zero => exact absurd HA.out (by simp [eZ.l0])
  | succ k1 =>
   have H := HA.out;clear HA;simp only [eZ.l0] at H;replace H := ifD H; rcases H with ⟨G, H⟩ | ⟨G, H⟩
   ·replace H := ifN H; obtain ⟨Y, H⟩ := H;replace H := ifN H; obtain ⟨Z, H⟩ := H;replace H := ifN H; obtain ⟨xa, H⟩ := H;replace H := ifN H; obtain ⟨xb, H⟩ := H;replace H := ifP H; obtain ⟨c9, H⟩ := H;have I := ah.mk c9;clear c9;obtain ⟨J, l⟩ : ∃ y_ : List Int, y_ = (o ++ [bt z (rd l1 a)]) := ⟨_, rfl⟩;replace H : (eZ.l0 k1 z J l1 (l1.length : Int) (wrap64 (a + 1))) = some r := by first | (rw [l]; with_reducible exact H) | (have H2_ := (Option.bind_some _ _).symm.trans H; rw [l]; with_reducible exact H2_) | (have H2_ := (Option.bind_some _ _).symm.trans H; with_reducible exact H2_) | with_reducible exact H | (rw [l]; exact H) | exact H
    have A := ah.mk l;clear l;have H' := ah.mk H;clear H;have x : 0 ≤ (a : Int) := OD;have y : a < (l1.length : Int) := OD;obtain ⟨O, K, m⟩ := Kd.nU L.out a x y
    cases K
    (try replace m := (HB.out.cell (World.block_lt_of_cell? w _ m)).trans m);replace x := eq_true x;replace y := eq_true y;have p8 : (0 ≤ ((rd l1 a) : Int)) = True := OT;have q8 : ((rd l1 a) < (z.size : Int)) = True := OT;have hx8 := gF z (rd l1 a);go_wp2_with (first | ((with_reducible refine dO (b := .append) (xs := #[.tmp 14, .tmp 18]) rfl ?_); at_builtin; refine Kd.gT (Kd.int .u8) (w0 := w) w.heap.size rfl (.tmp 14) (.tmp 18) 105 5 (.int .u8 0) 1 rfl Tryz.underlying105 info5 rfl (by decide) (by omega) u5 o (bt z (rd l1 a)) [.int .u8 (bt z (rd l1 a))] (fun _ => True) (fun _ => False) rfl rfl ?aP (fun _ hk => hk.elim) ?aF ?aO ?aB ?aS ?aL ?_; (case aP => exact rfl); (case aB => exact BL); (case aF => exact (fun _ _ => trivial)); (case aO => exact (RR u)); (case aS => exact (aK BL)); (case aL => have := I.out; omega); intro xc U ho hb hg hat; rw [← A.out] at ho; replace HB := ah.mk (hb); have D := ah.mk (ho); clear u; clear ho hb hg hat));go_roundg k1;case measure => have := E.out; omega
    case rel => exact ⟨_, _, EQ, H', ks E, ⟨(RR D)⟩, ⟨BL⟩⟩
   ·obtain rfl := Option.some.inj H;have hcv11 := BU (P := Tryz.prog) Tryz.underlying105 Tryz.underlying5 Tryz.underlying9 (Kd.qU u.out);go_wp2;go_ret;exact ⟨EWW, BL⟩
def fK.l0 : Nat → ByteArray → List ByteArray → List (List Int) → Int → Int → Option (List ByteArray)
 | 0, _, _, _, _, _ => none
 | k + 1, a, b, c, d, e => if e < d then (if 0 ≤ e then (if e < (c.length : Int) then ((eZ.f k a (jB c e)).bind fun f => (if b.length < 8796093022208 then (fK.l0 k a (b ++ [f]) c d (wrap64 (e + 1))) else (none))) else (none)) else (none)) else (some b)
def fK.f (k : Nat) (LU LV : Int) (LW a1 : ByteArray) : Option (List ByteArray) := (dG.f k LU LV LW a1).bind fun t585 => (if t585 = true then ((eY.f k LU LV LW).bind fun t586 => (fK.l0 k a1 ([] : List ByteArray) t586 (t586.length : Int) 0)) else (some ([] : List ByteArray)))
theorem fK.calls (k : Nat) (LU LV : Int) (LW a1 : ByteArray) (r : List ByteArray) (w : World) (h : fK.f k LU LV LW a1 = some r) :
  Calls Tryz.prog 43 #[.agg #[.int .i64 LU, .int .i64 LV, .string LW], .string a1] w fun e w' => ∃ v0_ : Value, e = .returned (v0_) ∧ Kd.R Kd.string 9 w' w.heap.size (fun _ => True) v0_ r ∧ Below w.heap.size w w' := by
 have xI := Tryz.underlying34;have HB := ah.mk (Below.refl w.heap.size w);unfold fK.f at h;have H := h;clear h;replace H := be H; obtain ⟨xJ, A3, H⟩ := H;replace H := ah.mk H;go_enter Tryz.func43, Tryz.ntmps43;go_wp2_with (first | ((with_reducible refine aJ (N := 2) rfl ?_); refine bf (N := 2) (cs := #[.int .i64 LU, .int .i64 LV, .string LW]) (t := 34) ?_; intro xc hg xx hbox hb; have a := ah.mk hbox; have xm := SZ (w := w) hg; have xy := xm; replace HB := BS (w := w) hb; clear hb hbox hg; obtain ⟨D, E, G, I, J, K⟩ := cz3 a.out) | ((with_reducible refine ay (f := 72) rfl ?_); refine bg (some 10) Tryz.func72 #[.agg #[.int .i64 LU, .int .i64 LV, .string LW], .string a1] ?_; (with_reducible refine (dG.calls k LU LV LW a1 _ _ A3.out).mono ?_); rintro e xz ⟨rfl, hb⟩; refine ⟨_, rfl, ?_⟩; replace a := KB a hb; replace HB := BS (w := w) hb; (try clear hb); obtain ⟨L, M, O, P, U, Y⟩ := cz3 a.out; refine cB ?_));refine Hide.mk ?_;replace H := H.out;replace H := ifB H; rcases H with ⟨rfl, H⟩ | ⟨rfl, H⟩
 ·replace H := be H; obtain ⟨m, A5, H⟩ := H;have H' := ah.mk H;clear H;try go_wp2_with (first | ((with_reducible refine ay (f := 73) rfl ?_); refine bg (some 13) Tryz.func73 #[.agg #[.int .i64 LU, .int .i64 LV, .string LW]] ?_; (with_reducible refine (eY.calls k LU LV LW m _ A5.out).mono ?_); rintro e xA ⟨xK, rfl, xr, hb⟩; refine ⟨_, rfl, ?_⟩; replace a := KB a hb; have xd := ah.mk (Kd.oz xr (aK BL)); replace HB := BS (w := w) hb; (try clear hb); (try clear xr); obtain ⟨xg, xh, xi⟩ := Kd.ni xd.out; subst xi))
  go_loopg [5, 15] k (fun kq v5 xB w' => ∃ (A : List ByteArray) (l : Int), xB = .int .i64 l ∧ ah (fK.l0 kq a1 A m (m.length : Int) l = some r) ∧ ah (kq ≤ k) ∧ ah (Kd.R Kd.string 9 w' w.heap.size (fun _ => True) v5 A) ∧ ah (Kd.S (Kd.slice 3 (Kd.int .i64)) 25 w' w.heap.size (fun _ => True) (.slice xg m.length xh) m) ∧ ah (w'.heap[xc]? = some (.cells #[.int .i64 LU, .int .i64 LV, .string LW] 34 (0, 0))) ∧ ah (Below w.heap.size w w'))
  case atStart => exact ⟨_, _, EQ, H', ⟨Nat.le_refl _⟩, ⟨by first | exact Kd.nO _ _ _ _ _ | exact Kd.qo _ _ _ _ _ | exact Kd.qx _ _ _ _ _ | exact Kd.qp _ _ _ _ _ | exact Kd.qw _ _ _ _ _⟩, ⟨(SR xd)⟩, ⟨BK⟩, ⟨BL⟩⟩
  case round =>
   clear H';(try clear c4);(try clear D E G);(try clear L M O);(try clear I J K);(try clear P U Y);obtain ⟨A, l, rfl, HA, xt, y, u, a, HB⟩ := hrel
   cases gk with
   | zero => exact absurd HA.out (by simp [fK.l0])
   | succ k1 =>
    have H := HA.out;clear HA;simp only [fK.l0] at H;replace H := ifD H; rcases H with ⟨xn, H⟩ | ⟨xn, H⟩
    ·replace H := ifN H; obtain ⟨xC, H⟩ := H;replace H := ifN H; obtain ⟨xD, H⟩ := H;replace H := be H; obtain ⟨Z, xE, H⟩ := H;replace H := ifP H; obtain ⟨xu, H⟩ := H;have xo := ah.mk xu;clear xu;obtain ⟨xv, z⟩ : ∃ y_ : List ByteArray, y_ = (A ++ [Z]) := ⟨_, rfl⟩;replace H : (fK.l0 k1 a1 xv m (m.length : Int) (wrap64 (l + 1))) = some r := by first | (rw [z]; with_reducible exact H) | (have H2_ := (Option.bind_some _ _).symm.trans H; rw [z]; with_reducible exact H2_) | (have H2_ := (Option.bind_some _ _).symm.trans H; with_reducible exact H2_) | with_reducible exact H | (rw [z]; exact H) | exact H
     have xp := ah.mk z;clear z;have H' := ah.mk H;clear H;have xa : 0 ≤ (l : Int) := OD;have xb : l < (m.length : Int) := OD;obtain ⟨xF, xj, xk, xw, xe, hl589_0, hi589_0⟩ := Fx (Kd.iX u.out).2.2 l xa xb
     cases xw
     obtain ⟨ce589, hce589, hMe589, hcc589⟩ := Kd.Ga u.out [] l xa (by first | exact xb | exact OD | (have e_ := (Kd.iX u.out).1; omega));obtain ⟨ve589_0, rfl, ge589_0⟩ := hMe589;have hv589_0 := hcc589 0 _ rfl;rw [Nat.add_zero, show ((Kd.slice 3 (Kd.int .i64))).sz = 1 from rfl, Nat.mul_one] at hv589_0;replace hv589_0 := Option.some.inj (hv589_0.symm.trans xe);rw [hv589_0] at ge589_0;have HL589_0 := ah.mk (show Kd.R (Kd.int .i64) 3 _ _ _ _ (jB m l) from ge589_0);clear hv589_0 ge589_0;clear hcc589 hce589;have x := ah.mk hi589_0;have xf := ah.mk hl589_0;clear hi589_0 hl589_0;replace xa := eq_true xa;replace xb := eq_true xb;go_wp2_with (first | ((with_reducible refine ay (f := 74) rfl ?_); refine bg (some 22) Tryz.func74 #[.string a1, .slice xj (jB m l).length xk] ?_; (with_reducible refine (eZ.calls k1 a1 _ _ (jB m l) Z _ ?side1 ?side2 xE.out).mono ?_); (case side1 => repeat (first | exact (by repeat (first | (with_reducible exact x.out) | (with_reducible refine Kd.gV ?_ _) | (with_reducible refine Kd.gW ?_ _) | (with_reducible refine Kd.iT ?_) | exact x.out)) | (with_reducible refine Kd.gV ?_ _) | (with_reducible refine Kd.gW ?_ _) | (with_reducible refine Kd.iT ?_))); (case side2 => exact xf.out); rintro e xG ⟨rfl, hb⟩; refine ⟨_, rfl, ?_⟩; replace y := RB y hb; replace u := ah.mk (Kd.gu (SR u) hb); replace HL589_0 := ah.mk (Kd.kC (by (with_reducible repeat (first | apply Kd.eH | apply Kd.cZ | apply Kd.dN)); exact HL589_0.out) hb); replace x := ah.mk (Kd.fB (by repeat (first | (with_reducible exact x.out) | (with_reducible refine Kd.gV ?_ _) | (with_reducible refine Kd.gW ?_ _) | (with_reducible refine Kd.iT ?_) | exact x.out)) hb); replace a := KB a hb; replace HB := BS (w := w) hb; (try clear hb)) | ((with_reducible refine dO (b := .append) (xs := #[.tmp 19, .tmp 23]) rfl ?_); at_builtin; refine Kd.gT Kd.string (w0 := w) w.heap.size rfl (.tmp 19) (.tmp 23) 29 9 (.string ⟨#[]⟩) 16 rfl Tryz.underlying29 EJ rfl (by decide) (by omega) u5 A Z [.string Z] (fun _ => True) (fun _ => False) rfl rfl ?aP (fun _ hk => hk.elim) ?aF ?aO ?aB ?aS ?aL ?_; (case aP => exact rfl); (case aB => exact BL); (case aF => exact (fun _ _ => trivial)); (case aO => exact (RR y)); (case aS => exact (aK BL)); (case aL => have := xo.out; omega); intro xL xH ho hb hg hat; rw [← xp.out] at ho; replace u := ah.mk (Kd.Jw (SR u) (Kd.fT (RR y)) (by decide) hg); replace HL589_0 := ah.mk (Kd.lT (by (with_reducible repeat (first | apply Kd.eH | apply Kd.cZ | apply Kd.dN)); exact HL589_0.out) (Kd.fT (RR y)) (by decide) hg); replace a := ah.mk (dV (g := xc) (o := .cells #[.int .i64 LU, .int .i64 LV, .string LW] 34 (0, 0)) BK hg (Kd.kE y.out a.out (by decide))); replace HB := ah.mk (hb); have xq := ah.mk (ho); clear y; clear ho hb hg hat));go_roundg k1;case measure => have := xt.out; omega
     case rel => exact ⟨_, _, EQ, H', ks xt, ⟨(RR xq)⟩, ⟨by (with_reducible repeat (first | apply Kd.jo | apply Kd.gD | apply Kd.jR)); exact u.out⟩, ⟨BK⟩, ⟨BL⟩⟩
    ·obtain rfl := Option.some.inj H;go_wp2;go_ret;exact ⟨_, EWW, (RR y), BL⟩
 ·obtain rfl := Option.some.inj H;(try go_wp2);go_ret;exact ⟨_, EWW, by first | exact Kd.nO _ _ _ _ _ | exact Kd.qo _ _ _ _ _ | exact Kd.qx _ _ _ _ _ | exact Kd.qp _ _ _ _ _ | exact Kd.qw _ _ _ _ _, BL⟩
def strings_ReplaceAll.f (a0 a1 a2 : ByteArray) : Option (ByteArray) := if a1 = ⟨#[46]⟩ ∧ a2 = ⟨#[63]⟩ ∧ a0.size ≤ 1048576 then (some (⟨(Go.Proofs.YthkfjbodohaglaaGreatDoor.HandRepl.pE 46 63 a0.data.toList).toArray⟩ : ByteArray)) else (none)
theorem strings_ReplaceAll.calls (a l : ByteArray) (m r : ByteArray) (w : World) (h : strings_ReplaceAll.f a l m = some r) :
  Calls Tryz.prog 76 #[.string a, .string l, .string m] w fun e w' => e = .returned (.string r) ∧ Below w.heap.size w w' := by
 unfold strings_ReplaceAll.f at h;split at h
 ·rename_i hc;obtain ⟨rfl, rfl, o⟩ := hc;obtain rfl := Option.some.inj h;exact Go.Proofs.YthkfjbodohaglaaGreatDoor.HandRepl.Ei a w o
 ·exact absurd h (by simp)
def jJ.f (k : Nat) (LU LV : Int) (LW : ByteArray) : Option (ByteArray) := (bB.f k LU LV LW).bind fun t595 => (if t595 = true then ((strings_ReplaceAll.f LW (⟨#[46]⟩ : ByteArray) (⟨#[63]⟩ : ByteArray)).bind fun t596 => (some t596)) else (some (⟨#[]⟩ : ByteArray)))
theorem jJ.calls (k : Nat) (LU LV : Int) (LW r : ByteArray) (w : World) (h : jJ.f k LU LV LW = some r) :
  Calls Tryz.prog 44 #[.agg #[.int .i64 LU, .int .i64 LV, .string LW]] w fun e w' => e = .returned (.string r) ∧ Below w.heap.size w w' := by
 have Y := Tryz.underlying34;have HB := ah.mk (Below.refl w.heap.size w);unfold jJ.f at h;have H := h;clear h;replace H := be H; obtain ⟨Z, A2, H⟩ := H;replace H := ah.mk H;go_enter Tryz.func44, Tryz.ntmps44;go_wp2_with (first | ((with_reducible refine aJ (N := 1) rfl ?_); refine bf (N := 1) (cs := #[.int .i64 LU, .int .i64 LV, .string LW]) (t := 34) ?_; intro L hg M hbox hb; have a := ah.mk hbox; have l := SZ (w := w) hg; have O := l; replace HB := BS (w := w) hb; clear hb hbox hg; obtain ⟨m, o, u, x, y, z⟩ := cz3 a.out) | ((with_reducible refine ay (f := 75) rfl ?_); refine bg (some 4) Tryz.func75 #[.agg #[.int .i64 LU, .int .i64 LV, .string LW]] ?_; (with_reducible refine (bB.calls k LU LV LW _ _ A2.out).mono ?_); rintro e P ⟨rfl, hb⟩; refine ⟨_, rfl, ?_⟩; replace a := KB a hb; replace HB := BS (w := w) hb; (try clear hb); obtain ⟨A, D, E, G, I, J⟩ := cz3 a.out; refine cB ?_));refine Hide.mk ?_;replace H := H.out;replace H := ifB H; rcases H with ⟨rfl, H⟩ | ⟨rfl, H⟩
 ·replace H := be H; obtain ⟨K, A4, H⟩ := H;obtain rfl := Option.some.inj H;(try go_wp2_with (first | ((with_reducible refine ay (f := 76) rfl ?_); refine bg (some 8) Tryz.func76 #[.string LW, .string (⟨#[46]⟩ : ByteArray), .string (⟨#[63]⟩ : ByteArray)] ?_; (with_reducible refine (strings_ReplaceAll.calls LW (⟨#[46]⟩ : ByteArray) (⟨#[63]⟩ : ByteArray) K _ A4.out).mono ?_); rintro e U ⟨rfl, hb⟩; refine ⟨_, rfl, ?_⟩; replace a := KB a hb; replace HB := BS (w := w) hb; (try clear hb))));go_ret;exact ⟨EWW, BL⟩
 ·obtain rfl := Option.some.inj H;(try go_wp2);go_ret;exact ⟨EWW, BL⟩
def bJ.l0 : Nat → List ByteArray → ByteArray → Int → Int → Option (Int)
 | 0, _, _, _, _ => none
 | k + 1, a, b, c, d => if d < c then (if 0 ≤ d then (if d < (a.length : Int) then (if b.toList = (gJ ByteArray.empty a d).toList then (some d) else (bJ.l0 k a b c (wrap64 (d + 1)))) else (none)) else (none)) else (some (-1))
def bJ.f (k : Nat) (l0 : List ByteArray) (a1 : ByteArray) : Option (Int) := bJ.l0 k l0 a1 (l0.length : Int) 0
theorem bJ.calls (k : Nat) (K : Option Addr) (L : Nat) (l0 : List ByteArray) (G : ByteArray) (r : Int) (w : World) (o : Kd.C Kd.string w K l0.length l0) (u : l0.length ≤ L) (h : bJ.f k l0 G = some r) :
  Calls Tryz.prog 146 #[.slice K l0.length L, .string G] w fun e w' => e = .returned (.int .i64 r) ∧ dn w w' := by
 have I := ah.mk o;have P := ah.mk u;clear o u;unfold bJ.f at h;have H := h;clear h;have H' := ah.mk H;clear H;go_enter Tryz.func146, Tryz.ntmps146;go_wp2
 go_loopg [8] k (fun kq U w' => ∃ (a : Int), U = .int .i64 a ∧ ah (bJ.l0 kq l0 G (l0.length : Int) a = some r) ∧ ah (kq ≤ k) ∧ dn w w')
 case atStart => exact ⟨_, EQ, H', ⟨Nat.le_refl _⟩, DR⟩
 case round =>
  clear H';(try clear c1);obtain ⟨a, rfl, HA, x, ⟨m1, rfl⟩⟩ := hrel
  cases gk with
  | zero => exact absurd HA.out (by simp [bJ.l0])
  | succ k1 =>
   have H := HA.out;clear HA;simp only [bJ.l0] at H;replace H := ifD H; rcases H with ⟨y, H⟩ | ⟨y, H⟩
   ·replace H := ifN H; obtain ⟨M, H⟩ := H;replace H := ifN H; obtain ⟨O, H⟩ := H;have l : 0 ≤ (a : Int) := OD;have m : a < (l0.length : Int) := OD;obtain ⟨J, z, A⟩ := Kd.kU I.out a l m
    cases z
    replace l := eq_true l;replace m := eq_true m;replace H := ifE H; rcases H with ⟨D, E, H⟩ | ⟨c6, D, E, H⟩
    ·obtain rfl := Option.some.inj H;go_wp2;go_ret;exact ⟨EQ, DR⟩
    ·have H' := ah.mk H;clear H;go_wp2;go_roundg k1;case measure => have := x.out; omega
     case rel => exact ⟨_, EQ, H', ks x, DR⟩
   ·obtain rfl := Option.some.inj H;go_wp2;go_ret;exact ⟨EQ, DR⟩
def fu.f (k : Nat) (l0 : List ByteArray) (a1 : ByteArray) : Option (Bool) := (bJ.f k l0 a1).bind fun t598 => (some (decide (t598 ≥ 0)))
theorem fu.calls (k : Nat) (u : Option Addr) (x : Nat) (l0 : List ByteArray) (o : ByteArray) (r : Bool) (w : World) (a : Kd.C Kd.string w u l0.length l0) (l : l0.length ≤ x) (h : fu.f k l0 o = some r) :
  Calls Tryz.prog 110 #[.slice u l0.length x, .string o] w fun e w' => e = .returned (.bool r) ∧ dn w w' := by
 have y := ah.mk a;have z := ah.mk l;clear a l;unfold fu.f at h;have H := h;clear h;replace H := be H; obtain ⟨m, A, H⟩ := H;obtain rfl := Option.some.inj H;go_enter Tryz.func110, Tryz.ntmps110;go_wp2_with (first | ((with_reducible refine ay (f := 146) rfl ?_); refine bg (some 7) Tryz.func146 #[.slice u l0.length x, .string o] ?_; (with_reducible refine (bJ.calls k _ _ l0 o m _ ?side1 ?side2 A.out).mono ?_); (case side1 => repeat (first | exact y.out | (with_reducible refine Kd.gV ?_ _) | (with_reducible refine Kd.gW ?_ _) | (with_reducible refine Kd.iT ?_))); (case side2 => exact z.out); rintro e w' ⟨rfl, ⟨nd, rfl⟩⟩; refine ⟨_, rfl, ?_⟩));go_ret;exact ⟨EQ, DR⟩
theorem Lr (d : Nat) (w : World) (x0 a : ByteArray) (x1 e : Int) :
  (Op.equalIn (d + 2) 62 (.agg #[.string x0, .int .i64 x1]) (.agg #[.string a, .int .i64 e])).run Tryz.prog w = .ok (x0.toList == a.toList && (x1 == e)) w := by
 refine Fz Tryz.underlying62 (by kernel_rfl) ?_;refine pI (by rfl) (by go_simp; rfl) (by go_simp; rfl) (by go_simp) ?_;exact Bp (by rfl) (by go_simp; rfl) (by go_simp; rfl) (by go_simp)
attribute [local go_sem high] Lr
def ig.l0 : Nat → List ByteArray → List ByteArray → Int → Int → Option (List ByteArray)
 | 0, _, _, _, _ => none
 | k + 1, a, b, c, d => if d < c then (if 0 ≤ d then (if d < (b.length : Int) then ((fu.f k a (gJ ByteArray.empty b d)).bind fun e => (if e = true then (ig.l0 k a b c (wrap64 (d + 1))) else (if a.length < 8796093022208 then (ig.l0 k (a ++ [gJ ByteArray.empty b d]) b c (wrap64 (d + 1))) else (none)))) else (none)) else (none)) else (some a)
def ig.f (k : Nat) (l0 : List ByteArray) : Option (List ByteArray) := ig.l0 k ([] : List ByteArray) l0 (l0.length : Int) 0
theorem ig.calls (k : Nat) (A0 : Option Addr) (c0 : Nat) (l0 r : List ByteArray) (w : World) (J : Kd.C Kd.string w A0 l0.length l0) (K : l0.length ≤ c0) (h : ig.f k l0 = some r) :
  Calls Tryz.prog 77 #[.slice A0 l0.length c0] w fun e w' => ∃ v0_ : Value, e = .returned (v0_) ∧ Kd.R Kd.string 9 w' w.heap.size (fun _ => True) v0_ r ∧ Below w.heap.size w w' := by
 have U := ah.mk J;have xg := ah.mk K;clear J K;have HB := ah.mk (Below.refl w.heap.size w);unfold ig.f at h;have H := h;clear h;have H' := ah.mk H;clear H;go_enter Tryz.func77, Tryz.ntmps77;go_wp2
 go_loopg [3, 8] k (fun kq v3 v8 w' => ∃ (l : List ByteArray) (a : Int), v8 = .int .i64 a ∧ ah (ig.l0 kq l l0 (l0.length : Int) a = some r) ∧ ah (kq ≤ k) ∧ ah (Kd.R Kd.string 9 w' w.heap.size (fun _ => True) v3 l) ∧ ah (Below w.heap.size w w'))
 case atStart => exact ⟨_, _, EQ, H', ⟨Nat.le_refl _⟩, ⟨by first | exact Kd.nO _ _ _ _ _ | exact Kd.qo _ _ _ _ _ | exact Kd.qx _ _ _ _ _ | exact Kd.qp _ _ _ _ _ | exact Kd.qw _ _ _ _ _⟩, ⟨BL⟩⟩
 case round =>
  clear H';obtain ⟨l, a, rfl, HA, D, m, HB⟩ := hrel
  cases gk with
  | zero => exact absurd HA.out (by simp [ig.l0])
  | succ k1 =>
   have H := HA.out;clear HA;simp only [ig.l0] at H;replace H := ifD H; rcases H with ⟨L, H⟩ | ⟨L, H⟩
   ·replace H := ifN H; obtain ⟨xc, H⟩ := H;replace H := ifN H; obtain ⟨xd, H⟩ := H;replace H := be H; obtain ⟨xe, A5, H⟩ := H;have z : 0 ≤ (a : Int) := OD;have A : a < (l0.length : Int) := OD;obtain ⟨Y, M, o⟩ := Kd.kU U.out a z A
    cases M
    (try replace o := (HB.out.cell (World.block_lt_of_cell? w _ o)).trans o);replace z := eq_true z;replace A := eq_true A;obtain ⟨x, y, E⟩ := Kd.dw m.out;subst E;replace H := ah.mk H;go_wp2_with (first | ((with_reducible refine ay (f := 110) rfl ?_); refine bg (some 14) Tryz.func110 #[.slice x l.length y, .string (gJ ByteArray.empty l0 a)] ?_; (with_reducible refine (fu.calls k1 _ _ l (gJ ByteArray.empty l0 a) _ _ ?side1 ?side2 A5.out).mono ?_); (case side1 => exact CR2 m); (case side2 => exact (Kd.bq m.out).2.1); rintro e w' ⟨rfl, ⟨nd, rfl⟩⟩; refine ⟨_, rfl, ?_⟩; refine cB ?_));refine Hide.mk ?_;replace H := H.out;replace H := ifB H; rcases H with ⟨rfl, H⟩ | ⟨rfl, H⟩
    ·have H' := ah.mk H;clear H;(try go_wp2);go_roundg k1;case measure => have := D.out; omega
     case rel => exact ⟨_, _, EQ, H', ks D, ⟨(RR m)⟩, ⟨BL⟩⟩
    ·replace H := ifP H; obtain ⟨c8, H⟩ := H;have O := ah.mk c8;clear c8;obtain ⟨P, u⟩ : ∃ y_ : List ByteArray, y_ = (l ++ [gJ ByteArray.empty l0 a]) := ⟨_, rfl⟩;replace H : (ig.l0 k1 P l0 (l0.length : Int) (wrap64 (a + 1))) = some r := by first | (rw [u]; with_reducible exact H) | (have H2_ := (Option.bind_some _ _).symm.trans H; rw [u]; with_reducible exact H2_) | (have H2_ := (Option.bind_some _ _).symm.trans H; with_reducible exact H2_) | with_reducible exact H | (rw [u]; exact H) | exact H
     have G := ah.mk u;clear u;have H' := ah.mk H;clear H;(try go_wp2_with (first | ((with_reducible refine dO (b := .append) (xs := #[.tmp 16, .tmp 18]) rfl ?_); at_builtin; refine Kd.gT Kd.string (w0 := w) w.heap.size rfl (.tmp 16) (.tmp 18) 29 9 (.string ⟨#[]⟩) 16 rfl Tryz.underlying29 EJ rfl (by decide) (by omega) (.slice x l.length y) l (gJ ByteArray.empty l0 a) [.string (gJ ByteArray.empty l0 a)] (fun _ => True) (fun _ => False) rfl rfl ?aP (fun _ hk => hk.elim) ?aF ?aO ?aB ?aS ?aL ?_; (case aP => exact rfl); (case aB => exact BL); (case aF => exact (fun _ _ => trivial)); (case aO => exact (RR m)); (case aS => exact (aK BL)); (case aL => have := O.out; omega); intro xf Z ho hb hg hat; rw [← G.out] at ho; replace HB := ah.mk (hb); have I := ah.mk (ho); clear m; clear ho hb hg hat)));go_roundg k1;case measure => have := D.out; omega
     case rel => exact ⟨_, _, EQ, H', ks D, ⟨(RR I)⟩, ⟨BL⟩⟩
   ·obtain rfl := Option.some.inj H;go_wp2;go_ret;exact ⟨_, EWW, (RR m), BL⟩
def fJ.l0 : Nat → (Nat → ByteArray → Option Bool) → List ByteArray → List ByteArray → Int → Int → Option (List ByteArray)
 | 0, _, _, _, _, _ => none
 | k + 1, a, b, c, d, e => if e < d then (if 0 ≤ e then (if e < (c.length : Int) then ((a k (gJ ByteArray.empty c e)).bind fun f => (if f = true then (if b.length < 8796093022208 then (fJ.l0 k a (b ++ [gJ ByteArray.empty c e]) c d (wrap64 (e + 1))) else (none)) else (fJ.l0 k a b c d (wrap64 (e + 1))))) else (none)) else (none)) else (some b)
def fJ.f (k : Nat) (l0 : List ByteArray) (a1 : (Nat → ByteArray → Option Bool)) : Option (List ByteArray) := fJ.l0 k a1 ([] : List ByteArray) l0 (l0.length : Int) 0
theorem fJ.calls (k : Nat) (A0 : Option Addr) (c0 : Nat) (l0 : List ByteArray) (O : (Nat → ByteArray → Option Bool)) (r : List ByteArray) (w : World) (G : Kd.C Kd.string w A0 l0.length l0) (I : l0.length ≤ c0) (h : fJ.f k l0 O = some r) (g : FuncId) (lb : Array Value) (eg : ∀ args w, (callFunc g args).run Tryz.prog w = .ok (.enter g args) w) (hp : ∀ (j : Nat) (s : ByteArray) (b : Bool) (W : World), Below w.heap.size w W → O j s = some b → Calls Tryz.prog g (#[.string s] ++ lb) W fun e w' => e = .returned (.bool b) ∧ Below W.heap.size W w') :
  Calls Tryz.prog 78 #[.slice A0 l0.length c0, .func (.func g) #[] lb] w fun e w' => ∃ v0_ : Value, e = .returned (v0_) ∧ Kd.R Kd.string 9 w' w.heap.size (fun _ => True) v0_ r ∧ Below w.heap.size w w' := by
 have P := ah.mk G;have xh := ah.mk I;clear G I;have HB := ah.mk (Below.refl w.heap.size w);have HPP := ah.mk hp;clear hp;unfold fJ.f at h;have H := h;clear h;have H' := ah.mk H;clear H;go_enter Tryz.func78, Tryz.ntmps78;go_wp2
 go_loopg [5, 10] k (fun kq v5 U w' => ∃ (u : List ByteArray) (a : Int), U = .int .i64 a ∧ ah (fJ.l0 kq O u l0 (l0.length : Int) a = some r) ∧ ah (kq ≤ k) ∧ ah (Kd.R Kd.string 9 w' w.heap.size (fun _ => True) v5 u) ∧ ah (Below w.heap.size w w'))
 case atStart => exact ⟨_, _, EQ, H', ⟨Nat.le_refl _⟩, ⟨by first | exact Kd.nO _ _ _ _ _ | exact Kd.qo _ _ _ _ _ | exact Kd.qx _ _ _ _ _ | exact Kd.qp _ _ _ _ _ | exact Kd.qw _ _ _ _ _⟩, ⟨BL⟩⟩
 case round =>
  clear H';obtain ⟨u, a, rfl, HA, z, l, HB⟩ := hrel
  cases gk with
  | zero => exact absurd HA.out (by simp [fJ.l0])
  | succ k1 =>
   have H := HA.out;clear HA;simp only [fJ.l0] at H;replace H := ifD H; rcases H with ⟨J, H⟩ | ⟨J, H⟩
   ·replace H := ifN H; obtain ⟨xc, H⟩ := H;replace H := ifN H; obtain ⟨xd, H⟩ := H;replace H := be H; obtain ⟨xe, A6, H⟩ := H;have x : 0 ≤ (a : Int) := OD;have y : a < (l0.length : Int) := OD;obtain ⟨Y, K, m⟩ := Kd.kU P.out a x y
    cases K
    (try replace m := (HB.out.cell (World.block_lt_of_cell? w _ m)).trans m);replace x := eq_true x;replace y := eq_true y;replace H := ifB H; rcases H with ⟨rfl, H⟩ | ⟨rfl, H⟩
    ·replace H := ifP H; obtain ⟨c8, H⟩ := H;have L := ah.mk c8;clear c8;obtain ⟨M, o⟩ : ∃ y_ : List ByteArray, y_ = (u ++ [gJ ByteArray.empty l0 a]) := ⟨_, rfl⟩;replace H : (fJ.l0 k1 O M l0 (l0.length : Int) (wrap64 (a + 1))) = some r := by first | (rw [o]; with_reducible exact H) | (have H2_ := (Option.bind_some _ _).symm.trans H; rw [o]; with_reducible exact H2_) | (have H2_ := (Option.bind_some _ _).symm.trans H; with_reducible exact H2_) | with_reducible exact H | (rw [o]; exact H) | exact H
     have A := ah.mk o;clear o;have H' := ah.mk H;clear H;go_wp2_with (first | (refine (HPP.out k1 (gJ ByteArray.empty l0 a) true _ BL A6.out).mono ?_; rintro e D ⟨rfl, hb⟩; replace l := RB l hb; replace HB := BS (w := w) hb; (try clear hb)) | ((with_reducible refine dO (b := .append) (xs := #[.tmp 17, .tmp 19]) rfl ?_); at_builtin; refine Kd.gT Kd.string (w0 := w) w.heap.size rfl (.tmp 17) (.tmp 19) 29 9 (.string ⟨#[]⟩) 16 rfl Tryz.underlying29 EJ rfl (by decide) (by omega) u5 u (gJ ByteArray.empty l0 a) [.string (gJ ByteArray.empty l0 a)] (fun _ => True) (fun _ => False) rfl rfl ?aP (fun _ hk => hk.elim) ?aF ?aO ?aB ?aS ?aL ?_; (case aP => exact rfl); (case aB => exact BL); (case aF => exact (fun _ _ => trivial)); (case aO => exact (RR l)); (case aS => exact (aK BL)); (case aL => have := L.out; omega); intro xg Z ho hb hg hat; rw [← A.out] at ho; replace HB := ah.mk (hb); have E := ah.mk (ho); clear l; clear ho hb hg hat));go_roundg k1;case measure => have := z.out; omega
     case rel => exact ⟨_, _, EQ, H', ks z, ⟨(RR E)⟩, ⟨BL⟩⟩
    ·have H' := ah.mk H;clear H;go_wp2_with (first | (refine (HPP.out k1 (gJ ByteArray.empty l0 a) false _ BL A6.out).mono ?_; rintro e D ⟨rfl, hb⟩; replace l := RB l hb; replace HB := BS (w := w) hb; (try clear hb); (try clear hb2); (try clear hk); (try clear hi)));go_roundg k1;case measure => have := z.out; omega
     case rel => exact ⟨_, _, EQ, H', ks z, ⟨(RR l)⟩, ⟨BL⟩⟩
   ·obtain rfl := Option.some.inj H;go_wp2;go_ret;exact ⟨_, EWW, (RR l), BL⟩
def bX.l0 : Nat → ByteArray → Int → Int → Option (Bool)
 | 0, _, _, _ => none
 | k + 1, a, b, c => if c < b then (if 0 ≤ c then (if c < (a.size : Int) then (if (bt a c) = 63 then (bX.l0 k a b (wrap64 (c + 1))) else ((eP.f (bt a c)).bind fun d => (if d = true then (bX.l0 k a b (wrap64 (c + 1))) else (some false)))) else (none)) else (none)) else (some true)
def bX.f (k : Nat) (a0 : ByteArray) : Option (Bool) := (dx.f (a0.size : Int) 1 8).bind fun t609 => (if t609 = true then (bX.l0 k a0 (a0.size : Int) 0) else (some false))
theorem bX.calls (k : Nat) (l : ByteArray) (r : Bool) (w : World) (h : bX.f k l = some r) :
  Calls Tryz.prog 111 #[.string l] w fun e w' => e = .returned (.bool r) ∧ dn w w' := by
 unfold bX.f at h;have H := h;clear h;replace H := be H; obtain ⟨A, A2, H⟩ := H;replace H := ah.mk H;go_enter Tryz.func111, Tryz.ntmps111;go_wp2_with (first | ((with_reducible refine ay (f := 60) rfl ?_); refine bg (some 6) Tryz.func60 #[.int .i64 (l.size : Int), .int .i64 1, .int .i64 8] ?_; (with_reducible refine (dx.calls (l.size : Int) 1 8 _ _ A2.out).mono ?_); rintro e w' ⟨rfl, ⟨nd, rfl⟩⟩; refine ⟨_, rfl, ?_⟩; refine cB ?_));refine Hide.mk ?_;replace H := H.out;replace H := ifB H; rcases H with ⟨rfl, H⟩ | ⟨rfl, H⟩
 ·have H' := ah.mk H;clear H;try go_wp2
  go_loopg [10] k (fun kq y w' => ∃ (a : Int), y = .int .i64 a ∧ ah (bX.l0 kq l (l.size : Int) a = some r) ∧ ah (kq ≤ k) ∧ dn w w')
  case atStart => exact ⟨_, EQ, H', ⟨Nat.le_refl _⟩, DR⟩
  case round =>
   clear H';(try clear c3);obtain ⟨a, rfl, HA, m, ⟨m1, rfl⟩⟩ := hrel
   cases gk with
   | zero => exact absurd HA.out (by simp [bX.l0])
   | succ k1 =>
    have H := HA.out;clear HA;simp only [bX.l0] at H;replace H := ifD H; rcases H with ⟨o, H⟩ | ⟨o, H⟩
    ·replace H := ifN H; obtain ⟨D, H⟩ := H;replace H := ifN H; obtain ⟨E, H⟩ := H;have I : (0 ≤ (a : Int)) = True := OT;have J : (a < (l.size : Int)) = True := OT;have hx7 := gF l a;replace H := ifE H; rcases H with ⟨u, x, H⟩ | ⟨c8, u, x, H⟩
     ·have H' := ah.mk H;clear H;go_wp2;go_roundg k1;case measure => have := m.out; omega
      case rel => exact ⟨_, EQ, H', ks m, DR⟩
     ·replace H := be H; obtain ⟨G, z, H⟩ := H;have K : (0 ≤ (a : Int)) = True := OT;have L : (a < (l.size : Int)) = True := OT;have hx9 := gF l a;replace H := ah.mk H;go_wp2_with (first | (go_at_call 107; (with_reducible refine (eP.calls (bt l a) _ _ z.out).mono ?_); rintro e w' ⟨rfl, ⟨nd, rfl⟩⟩; refine cB ?_));refine Hide.mk ?_;replace H := H.out;replace H := ifB H; rcases H with ⟨rfl, H⟩ | ⟨rfl, H⟩
      ·have H' := ah.mk H;clear H;(try go_wp2);go_roundg k1;case measure => have := m.out; omega
       case rel => exact ⟨_, EQ, H', ks m, DR⟩
      ·obtain rfl := Option.some.inj H;(try go_wp2);go_ret;exact ⟨EQ, DR⟩
    ·obtain rfl := Option.some.inj H;go_wp2;go_ret;exact ⟨EQ, DR⟩
 ·obtain rfl := Option.some.inj H;(try go_wp2);go_ret;exact ⟨EQ, DR⟩
mutual
def aV.j0 : Nat → ByteArray → ByteArray → Bool → Option (Bool)
 | 0, _, _, _ => none
 | k + 1, a, b, c => if c = true then (some false) else (aV.l0 k a b (a.size : Int) 0)
def aV.l0 : Nat → ByteArray → ByteArray → Int → Int → Option (Bool)
 | 0, _, _, _, _ => none
 | k + 1, a, b, c, d => if d < c then (if 0 ≤ d then (if d < (a.size : Int) then (if (bt a d) = 63 then (aV.l0 k a b c (wrap64 (d + 1))) else (if d < (b.size : Int) then (if (bt a d) = (bt b d) then (aV.l0 k a b c (wrap64 (d + 1))) else (some false)) else (none))) else (none)) else (none)) else (some true)
end
def aV.f (k : Nat) (a0 a1 : ByteArray) : Option (Bool) := (bX.f k a0).bind fun t611 => (if t611 = true then ((bM.f k a1).bind fun t612 => (if t612 = true then (aV.j0 k a0 a1 ((a0.size : Int) != (a1.size : Int))) else (aV.j0 k a0 a1 true))) else (aV.j0 k a0 a1 true))
theorem aV.calls (k : Nat) (l o : ByteArray) (r : Bool) (w : World) (h : aV.f k l o = some r) :
  Calls Tryz.prog 80 #[.string l, .string o] w fun e w' => e = .returned (.bool r) ∧ dn w w' := by
 unfold aV.f at h;have H := h;clear h;have z := ah.mk H;clear H;go_enter Tryz.func80, Tryz.ntmps80;go_upto_region 1 with (fail)
 repeat (go_quiet (fail); go_upto_region 1 with (fail))
 go_cut [20] (fun L wc => ∃ (kq : Nat) (m : Bool), L = .bool m ∧ ah (aV.j0 kq l o m = some r) ∧ ah (kq ≤ k) ∧ dn w wc)
 case first =>
  have H := z.out;clear z;replace H := be H; obtain ⟨Y, u, H⟩ := H;replace H := ifB H; rcases H with ⟨rfl, H⟩ | ⟨rfl, H⟩
  ·replace H := be H; obtain ⟨Z, I, H⟩ := H;replace H := ifB H; rcases H with ⟨rfl, H⟩ | ⟨rfl, H⟩
   ·have H' := ah.mk H;clear H
    repeat (go_wp2_with (first | (go_at_call 111; (with_reducible refine (bX.calls k l _ _ u.out).mono ?_); rintro e w' ⟨rfl, ⟨nd, rfl⟩⟩; (try first | exact da | exact DD)) | (go_at_call 112; (with_reducible refine (bM.calls k o _ _ I.out).mono ?_); rintro e w' ⟨rfl, ⟨nd, rfl⟩⟩; (try first | exact da | exact DD))); go_quiet (first | (go_at_call 111; (with_reducible refine (bX.calls k l _ _ u.out).mono ?_); rintro e w' ⟨rfl, ⟨nd, rfl⟩⟩; (try first | exact da | exact DD)) | (go_at_call 112; (with_reducible refine (bM.calls k o _ _ I.out).mono ?_); rintro e w' ⟨rfl, ⟨nd, rfl⟩⟩; (try first | exact da | exact DD))))
    go_wp2_with (first | (go_at_call 111; (with_reducible refine (bX.calls k l _ _ u.out).mono ?_); rintro e w' ⟨rfl, ⟨nd, rfl⟩⟩; (try first | exact da | exact DD)) | (go_at_call 112; (with_reducible refine (bM.calls k o _ _ I.out).mono ?_); rintro e w' ⟨rfl, ⟨nd, rfl⟩⟩; (try first | exact da | exact DD)));go_meet;case rel => exact ⟨_, _, EQ, H', ⟨by first | omega | exact Nat.le_refl _⟩, DR⟩
   ·have H' := ah.mk H;clear H
    repeat (go_wp2_with (first | (go_at_call 111; (with_reducible refine (bX.calls k l _ _ u.out).mono ?_); rintro e w' ⟨rfl, ⟨nd, rfl⟩⟩; (try first | exact da | exact DD)) | (go_at_call 112; (with_reducible refine (bM.calls k o _ _ I.out).mono ?_); rintro e w' ⟨rfl, ⟨nd, rfl⟩⟩; (try first | exact da | exact DD))); go_quiet (first | (go_at_call 111; (with_reducible refine (bX.calls k l _ _ u.out).mono ?_); rintro e w' ⟨rfl, ⟨nd, rfl⟩⟩; (try first | exact da | exact DD)) | (go_at_call 112; (with_reducible refine (bM.calls k o _ _ I.out).mono ?_); rintro e w' ⟨rfl, ⟨nd, rfl⟩⟩; (try first | exact da | exact DD))))
    go_wp2_with (first | (go_at_call 111; (with_reducible refine (bX.calls k l _ _ u.out).mono ?_); rintro e w' ⟨rfl, ⟨nd, rfl⟩⟩; (try first | exact da | exact DD)) | (go_at_call 112; (with_reducible refine (bM.calls k o _ _ I.out).mono ?_); rintro e w' ⟨rfl, ⟨nd, rfl⟩⟩; (try first | exact da | exact DD)));go_meet;case rel => exact ⟨_, _, EQ, H', ⟨by first | omega | exact Nat.le_refl _⟩, DR⟩
  ·have H' := ah.mk H;clear H
   repeat (go_wp2_with (first | (go_at_call 111; (with_reducible refine (bX.calls k l _ _ u.out).mono ?_); rintro e w' ⟨rfl, ⟨nd, rfl⟩⟩; (try first | exact da | exact DD))); go_quiet (first | (go_at_call 111; (with_reducible refine (bX.calls k l _ _ u.out).mono ?_); rintro e w' ⟨rfl, ⟨nd, rfl⟩⟩; (try first | exact da | exact DD))))
   go_wp2_with (first | (go_at_call 111; (with_reducible refine (bX.calls k l _ _ u.out).mono ?_); rintro e w' ⟨rfl, ⟨nd, rfl⟩⟩; (try first | exact da | exact DD)));go_meet;case rel => exact ⟨_, _, EQ, H', ⟨by first | omega | exact Nat.le_refl _⟩, DR⟩
 case rest =>
  clear z;obtain ⟨kq, m, rfl, HA, x, ⟨mc2, rfl⟩⟩ := hcut
  cases kq with
  | zero => exact absurd HA.out (by simp [aV.j0])
  | succ J =>
   have H := HA.out;clear HA;simp only [aV.j0] at H;replace H := ifB H; rcases H with ⟨rfl, H⟩ | ⟨rfl, H⟩
   ·obtain rfl := Option.some.inj H;go_wp2
    repeat (go_quiet (fail); try go_wp2)
    go_ret;exact ⟨EQ, DR⟩
   ·have H' := ah.mk H;clear H;go_wp2
    repeat (go_quiet (fail); try go_wp2)
    go_loopg [23] J (fun kq M w' => ∃ (a : Int), M = .int .i64 a ∧ ah (aV.l0 kq l o (l.size : Int) a = some r) ∧ ah (kq ≤ J) ∧ dn w w')
    case atStart => exact ⟨_, EQ, H', ⟨Nat.le_refl _⟩, DR⟩
    case round =>
     clear H';(try clear c8);obtain ⟨a, rfl, HA, y, ⟨m2, rfl⟩⟩ := hrel
     cases gk with
     | zero => exact absurd HA.out (by simp [aV.l0])
     | succ k2 =>
      have H := HA.out;clear HA;simp only [aV.l0] at H;replace H := ifD H; rcases H with ⟨K, H⟩ | ⟨K, H⟩
      ·replace H := ifN H; obtain ⟨O, H⟩ := H;replace H := ifN H; obtain ⟨P, H⟩ := H;have xa : (0 ≤ (a : Int)) = True := OT;have xb : (a < (l.size : Int)) = True := OT;have hx12 := gF l a;replace H := ifE H; rcases H with ⟨A, D, H⟩ | ⟨xc, A, D, H⟩
       ·have H' := ah.mk H;clear H;go_wp2
        repeat (go_quiet (fail); try go_wp2)
        go_roundg k2;case measure => have := x.out; have := y.out; omega
        case rel => exact ⟨_, EQ, H', ⟨by have := x.out; have := y.out; omega⟩, DR⟩
       ·replace H := ifN H; obtain ⟨U, H⟩ := H;have xd : (0 ≤ (a : Int)) = True := OT;have xe : (a < (l.size : Int)) = True := OT;have hx14 := gF l a;have xf : (0 ≤ (a : Int)) = True := OT;have xg : (a < (o.size : Int)) = True := OT;have hx16 := gF o a;replace H := ifE H; rcases H with ⟨E, G, H⟩ | ⟨xh, E, G, H⟩
        ·have H' := ah.mk H;clear H;go_wp2
         repeat (go_quiet (fail); try go_wp2)
         go_roundg k2;case measure => have := x.out; have := y.out; omega
         case rel => exact ⟨_, EQ, H', ⟨by have := x.out; have := y.out; omega⟩, DR⟩
        ·obtain rfl := Option.some.inj H;go_wp2
         repeat (go_quiet (fail); try go_wp2)
         go_ret;exact ⟨EQ, DR⟩
      ·obtain rfl := Option.some.inj H;go_wp2
       repeat (go_quiet (fail); try go_wp2)
       go_ret;exact ⟨EQ, DR⟩
def eD.l0 : Nat → List (S62) → Int → Int → ByteArray → Int → Option (Int)
 | 0, _, _, _, _, _ => none
 | k + 1, a, b, c, d, e => if c < b then (if 0 ≤ c then (if c < (a.length : Int) then (if (d.toList == (((eT a c).f0).toList) && (e == ((eT a c).f1))) = true then (some c) else (eD.l0 k a b (wrap64 (c + 1)) d e)) else (none)) else (none)) else (some (-1))
def eD.f (k : Nat) (l0 : List (S62)) (a1_0 : ByteArray) (a1_1 : Int) : Option (Int) := eD.l0 k l0 (l0.length : Int) 0 a1_0 a1_1
theorem eD.calls (k : Nat) (A0 : Option Addr) (c0 : Nat) (l0 : List (S62)) (a1_0 : ByteArray) (a1_1 r : Int) (w : World) (hr0 : Kd.C k62 w A0 l0.length l0) (hc0 : l0.length ≤ c0) (h : eD.f k l0 a1_0 a1_1 = some r) :
  Calls Tryz.prog 147 #[.slice A0 l0.length c0, .agg #[.string a1_0, .int .i64 a1_1]] w fun e w' => e = .returned (.int .i64 r) ∧ Below w.heap.size w w' := by
 have hu62 := Tryz.underlying62
 have HR0 := ah.mk hr0
 have HC0 := ah.mk hc0
 clear hr0 hc0
 have HB := ah.mk (Below.refl w.heap.size w)
 unfold eD.f at h
 have H := h
 clear h
 have H' := ah.mk H
 clear H
 go_enter Tryz.func147, Tryz.ntmps147
 repeat (go_wp2_with (first | ((with_reducible refine aJ (N := 3) rfl ?_); refine bf (N := 3) (cs := #[.string a1_0, .int .i64 a1_1]) (t := 62) ?_; intro gb613 hg w3 hbox hb; have BK613 := ah.mk hbox; have GW613 := SZ (w := w) hg; have GE613 := GW613; replace HB := BS (w := w) hb; clear hb hbox hg)); go_quiet (first | ((with_reducible refine aJ (N := 3) rfl ?_); refine bf (N := 3) (cs := #[.string a1_0, .int .i64 a1_1]) (t := 62) ?_; intro gb613 hg w3 hbox hb; have BK613 := ah.mk hbox; have GW613 := SZ (w := w) hg; have GE613 := GW613; replace HB := BS (w := w) hb; clear hb hbox hg)))
 go_wp2_with (first | ((with_reducible refine aJ (N := 3) rfl ?_); refine bf (N := 3) (cs := #[.string a1_0, .int .i64 a1_1]) (t := 62) ?_; intro gb613 hg w3 hbox hb; have BK613 := ah.mk hbox; have GW613 := SZ (w := w) hg; have GE613 := GW613; replace HB := BS (w := w) hb; clear hb hbox hg))
 go_loopg [8] k (fun kq v8 w' => ∃ (x8_1 : Int), v8 = .int .i64 x8_1 ∧ ah (eD.l0 kq l0 (l0.length : Int) x8_1 a1_0 a1_1 = some r) ∧ ah (kq ≤ k) ∧ ah (w'.heap[gb613]? = some (.cells #[.string a1_0, .int .i64 a1_1] 62 (0, 0))) ∧ ah (Below w.heap.size w w'))
 case atStart => exact ⟨(0), EQ, H', ⟨Nat.le_refl _⟩, ⟨BK⟩, ⟨BL⟩⟩
 case round =>
  clear H'
  obtain ⟨x8_1, rfl, HA, HK1, BK613, HB⟩ := hrel
  cases gk with
  | zero => exact absurd HA.out (by simp [eD.l0])
  | succ k1 =>
   have H := HA.out
   clear HA
   simp only [eD.l0] at H
   replace H := ifD H; rcases H with ⟨c4b0, H⟩ | ⟨c4b0, H⟩
   ·replace H := ifN H; obtain ⟨c5b0, H⟩ := H
    replace H := ifN H; obtain ⟨c6b0, H⟩ := H
    obtain ⟨hcz7000_0, hcz7000_1, hfz7000_0, hfz7000_1⟩ := cz2 BK613.out
    have p614 : 0 ≤ (x8_1 : Int) := OD
    have q614 : x8_1 < (l0.length : Int) := OD
    obtain ⟨ad614, e614, hx614_0, hx614_1⟩ := Bg HR0.out x8_1 p614 q614
    cases e614
    try replace hx614_0 := (HB.out.cell (World.block_lt_of_cell? w _ hx614_0)).trans hx614_0
    try replace hx614_1 := (HB.out.cell (World.block_lt_of_cell? w _ hx614_1)).trans hx614_1
    replace p614 := eq_true p614
    replace q614 := eq_true q614
    by_cases c7 : (a1_0.toList == (((eT l0 x8_1).f0).toList) && (a1_1 == ((eT l0 x8_1).f1))) = true
    ·rw [if_pos c7] at H
     have c7b0 : (a1_0.toList == (((eT l0 x8_1).f0).toList) && (a1_1 == ((eT l0 x8_1).f1))) = true := c7
     (try (have c7b1 : decide (a1_0.toList = (((eT l0 x8_1).f0).toList) && (a1_1 == ((eT l0 x8_1).f1))) = true := by simpa using c7))
     (try (have c7b2 : (a1_0.toList == (((eT l0 x8_1).f0).toList) && (a1_1 == ((eT l0 x8_1).f1))) = true := by simpa using c7))
     clear c7
     obtain rfl := Option.some.inj H
     go_wp2
     repeat (go_quiet (fail); try go_wp2)
     go_ret
     exact ⟨EWW, BL⟩
    ·rw [if_neg c7] at H
     have c7b0 : (a1_0.toList == (((eT l0 x8_1).f0).toList) && (a1_1 == ((eT l0 x8_1).f1))) = false := by simpa using c7
     (try (have c7b1 : decide (a1_0.toList = (((eT l0 x8_1).f0).toList) && (a1_1 == ((eT l0 x8_1).f1))) = false := by simpa using c7))
     (try (have c7b2 : (a1_0.toList == (((eT l0 x8_1).f0).toList) && (a1_1 == ((eT l0 x8_1).f1))) = false := by simpa using c7))
     (try (have c7b3 : ¬ (a1_0.toList = (((eT l0 x8_1).f0).toList) && (a1_1 == ((eT l0 x8_1).f1))) := by simpa using c7))
     clear c7
     have H' := ah.mk H
     clear H
     go_wp2
     repeat (go_quiet (fail); try go_wp2)
     go_roundg k1
     case measure => have := HK1.out; omega
     case rel => exact ⟨(wrap64 (x8_1 + 1)), EQ, H', ⟨by have := HK1.out; omega⟩, ⟨BK⟩, ⟨BL⟩⟩
   ·obtain rfl := Option.some.inj H
    go_wp2
    repeat (go_quiet (fail); try go_wp2)
    go_ret
    exact ⟨EWW, BL⟩
def jh.f (k : Nat) (l0 : List (S62)) (a1_0 : ByteArray) (a1_1 : Int) : Option (Bool) := (eD.f k l0 a1_0 a1_1).bind fun t616 => (some (decide (t616 ≥ 0)))
theorem jh.calls (k : Nat) (G : Option Addr) (I : Nat) (l0 : List (S62)) (a : ByteArray) (l : Int) (r : Bool) (w : World) (u : Kd.C k62 w G l0.length l0) (x : l0.length ≤ I) (h : jh.f k l0 a l = some r) :
  Calls Tryz.prog 113 #[.slice G l0.length I, .agg #[.string a, .int .i64 l]] w fun e w' => e = .returned (.bool r) ∧ Below w.heap.size w w' := by
 have O := Tryz.underlying62;have J := ah.mk u;have K := ah.mk x;clear u x;have HB := ah.mk (Below.refl w.heap.size w);unfold jh.f at h;have H := h;clear h;replace H := be H; obtain ⟨y, P, H⟩ := H;obtain rfl := Option.some.inj H;go_enter Tryz.func113, Tryz.ntmps113;go_wp2_with (first | ((with_reducible refine aJ (N := 3) rfl ?_); refine bf (N := 3) (cs := #[.string a, .int .i64 l]) (t := 62) ?_; intro L hg U hbox hb; have m := ah.mk hbox; have o := SZ (w := w) hg; have M := o; replace HB := BS (w := w) hb; clear hb hbox hg; obtain ⟨z, A, D, E⟩ := cz2 m.out) | ((with_reducible refine ay (f := 147) rfl ?_); refine bg (some 7) Tryz.func147 #[.slice G l0.length I, .agg #[.string a, .int .i64 l]] ?_; (with_reducible refine (eD.calls k _ _ l0 a l y _ ?side1 ?side2 P.out).mono ?_); (case side1 => exact CB J); (case side2 => exact K.out); rintro e Y ⟨rfl, hb⟩; refine ⟨_, rfl, ?_⟩; replace m := KB m hb; replace HB := BS (w := w) hb; (try clear hb)));go_ret;exact ⟨EWW, BL⟩
def gZ.f (k : Nat) (l0 : List (S62)) (a1 : ByteArray) (a2 : Int) : Option (Bool) := (jh.f k l0 a1 a2).bind fun t617 => (some t617)
theorem gZ.calls (k : Nat) (x : Option Addr) (y : Nat) (l0 : List (S62)) (o : ByteArray) (u : Int) (r : Bool) (w : World) (a : Kd.C k62 w x l0.length l0) (l : l0.length ≤ y) (h : gZ.f k l0 o u = some r) :
  Calls Tryz.prog 81 #[.slice x l0.length y, .string o, .int .i64 u] w fun e w' => e = .returned (.bool r) ∧ Below w.heap.size w w' := by
 have D := Tryz.underlying62;have z := ah.mk a;have A := ah.mk l;clear a l;have HB := ah.mk (Below.refl w.heap.size w);unfold gZ.f at h;have H := h;clear h;replace H := be H; obtain ⟨m, E, H⟩ := H;obtain rfl := Option.some.inj H;go_enter Tryz.func81, Tryz.ntmps81;go_wp2_with (first | ((with_reducible refine ay (f := 113) rfl ?_); refine bg (some 11) Tryz.func113 #[.slice x l0.length y, .agg #[.string o, .int .i64 u]] ?_; (with_reducible refine (jh.calls k _ _ l0 o u m _ ?side1 ?side2 E.out).mono ?_); (case side1 => repeat (first | exact z.out | (with_reducible refine Kd.gV ?_ _) | (with_reducible refine Kd.gW ?_ _) | (with_reducible refine Kd.iT ?_))); (case side2 => exact A.out); rintro e G ⟨rfl, hb⟩; refine ⟨_, rfl, ?_⟩; replace HB := BS (w := w) hb; (try clear hb)));go_ret;exact ⟨EWW, BL⟩
def iN.f (k : Nat) (a0 : ByteArray) : Option (ByteArray) := (bM.f k a0).bind fun t => (if t = true then (if a0.size ≤ 12 then (some (strOfNums (Go.Proofs.YthkfjbodohaglaaGreatDoor.HandSort.sorted a0))) else (none)) else (none))
theorem iN.calls (k : Nat) (a r : ByteArray) (w : World) (h : iN.f k a = some r) :
  Calls Tryz.prog 167 #[.string a] w fun e w' => e = .returned (.string r) ∧ Below w.heap.size w w' := by
 obtain ⟨t, h1, h2⟩ := Option.bind_eq_some_iff.mp h
 cases t with
 | false => simp at h2
 | true =>
  rw [if_pos rfl] at h2;by_cases h3 : a.size ≤ 12
  ·rw [if_pos h3] at h2;obtain rfl := Option.some.inj h2;exact Go.Proofs.YthkfjbodohaglaaGreatDoor.HandSort.Ch a w h3 ((bM.calls k a true w h1).mono fun e w' hq => ⟨hq.1, hq.2.out⟩)
  ·rw [if_neg h3] at h2
   cases h2
def iJ.f (k : Nat) (a0 a1 : ByteArray) : Option (Bool) := (bM.f k a0).bind fun t618 => (if t618 = true then ((bM.f k a1).bind fun t619 => (if t619 = true then (if a0.toList = a1.toList then (some false) else ((iN.f k a0).bind fun t620 => ((iN.f k a1).bind fun t621 => (some (t620.toList == t621.toList))))) else (some false))) else (some false))
theorem iJ.calls (k : Nat) (a x : ByteArray) (r : Bool) (w : World) (h : iJ.f k a x = some r) :
  Calls Tryz.prog 149 #[.string a, .string x] w fun e w' => e = .returned (.bool r) ∧ Below w.heap.size w w' := by
 have HB := ah.mk (Below.refl w.heap.size w);unfold iJ.f at h;have H := h;clear h;replace H := be H; obtain ⟨A, E, H⟩ := H;replace H := ah.mk H;go_enter Tryz.func149, Tryz.ntmps149;go_wp2_with (first | ((with_reducible refine ay (f := 112) rfl ?_); refine bg (some 6) Tryz.func112 #[.string a] ?_; (with_reducible refine (bM.calls k a _ _ E.out).mono ?_); rintro e w' ⟨rfl, ⟨nd, rfl⟩⟩; refine ⟨_, rfl, ?_⟩; refine cB ?_));refine Hide.mk ?_;replace H := H.out;replace H := ifB H; rcases H with ⟨rfl, H⟩ | ⟨rfl, H⟩
 ·replace H := be H; obtain ⟨D, G, H⟩ := H;replace H := ah.mk H;go_wp2_with (first | (go_at_call 112; (with_reducible refine (bM.calls k x _ _ G.out).mono ?_); rintro e w' ⟨rfl, ⟨nd, rfl⟩⟩; refine cB ?_));refine Hide.mk ?_;replace H := H.out;replace H := ifB H; rcases H with ⟨rfl, H⟩ | ⟨rfl, H⟩
  ·replace H := ifE H; rcases H with ⟨l, m, H⟩ | ⟨c7, l, m, H⟩
   ·obtain rfl := Option.some.inj H;(try go_wp2);go_ret;exact ⟨EWW, BL⟩
   ·replace H := be H; obtain ⟨o, I, H⟩ := H;replace H := be H; obtain ⟨u, J, H⟩ := H;obtain rfl := Option.some.inj H;(try go_wp2_with (first | (go_at_call 167; (with_reducible refine (iN.calls k a o _ I.out).mono ?_); rintro e y ⟨rfl, hb⟩; replace HB := BS (w := w) hb; (try clear hb)) | (go_at_call 167; (with_reducible refine (iN.calls k x u _ J.out).mono ?_); rintro e z ⟨rfl, hb⟩; replace HB := BS (w := w) hb; (try clear hb))));go_ret;exact ⟨EWW, BL⟩
  ·obtain rfl := Option.some.inj H;(try go_wp2);go_ret;exact ⟨EWW, BL⟩
 ·obtain rfl := Option.some.inj H;(try go_wp2);go_ret;exact ⟨EWW, BL⟩
def kL.f (k : Nat) (a0 : ByteArray) : Option (ByteArray) := (bM.f k a0).bind fun t622 => (if t622 = true then (if 0 ≤ 1 then (if 1 ≤ (a0.size : Int) then (some (a0.extract 0 1)) else (none)) else (none)) else (some (⟨#[]⟩ : ByteArray)))
theorem kL.calls (k : Nat) (a r : ByteArray) (w : World) (h : kL.f k a = some r) :
  Calls Tryz.prog 150 #[.string a] w fun e w' => e = .returned (.string r) ∧ dn w w' := by
 unfold kL.f at h;have H := h;clear h;replace H := be H; obtain ⟨l, A2, H⟩ := H;replace H := ah.mk H;go_enter Tryz.func150, Tryz.ntmps150;go_wp2_with (first | ((with_reducible refine ay (f := 112) rfl ?_); refine bg (some 4) Tryz.func112 #[.string a] ?_; (with_reducible refine (bM.calls k a _ _ A2.out).mono ?_); rintro e w' ⟨rfl, ⟨nd, rfl⟩⟩; refine ⟨_, rfl, ?_⟩; refine cB ?_));refine Hide.mk ?_;replace H := H.out;replace H := ifB H; rcases H with ⟨rfl, H⟩ | ⟨rfl, H⟩
 ·replace H := ifP H; obtain ⟨c4, H⟩ := H;have m := eq_true c4;have o : decide (0 ≤ 1) = true := decide_eq_true c4;clear c4;replace H := ifP H; obtain ⟨c5, H⟩ := H;have u := eq_true c5;have x : decide (1 ≤ (a.size : Int)) = true := decide_eq_true c5;clear c5;obtain rfl := Option.some.inj H;(try go_wp2);go_ret;exact ⟨EQ, DR⟩
 ·obtain rfl := Option.some.inj H;(try go_wp2);go_ret;exact ⟨EQ, DR⟩
def iO.f (k : Nat) (a0 : ByteArray) : Option (ByteArray) := (bM.f k a0).bind fun t623 => (if t623 = true then (if 1 ≤ (a0.size : Int) then (some (a0.extract 1 a0.size)) else (none)) else (some (⟨#[]⟩ : ByteArray)))
theorem iO.calls (k : Nat) (a r : ByteArray) (w : World) (h : iO.f k a = some r) :
  Calls Tryz.prog 151 #[.string a] w fun e w' => e = .returned (.string r) ∧ dn w w' := by
 unfold iO.f at h;have H := h;clear h;replace H := be H; obtain ⟨l, A2, H⟩ := H;replace H := ah.mk H;go_enter Tryz.func151, Tryz.ntmps151;go_wp2_with (first | ((with_reducible refine ay (f := 112) rfl ?_); refine bg (some 4) Tryz.func112 #[.string a] ?_; (with_reducible refine (bM.calls k a _ _ A2.out).mono ?_); rintro e w' ⟨rfl, ⟨nd, rfl⟩⟩; refine ⟨_, rfl, ?_⟩; refine cB ?_));refine Hide.mk ?_;replace H := H.out;replace H := ifB H; rcases H with ⟨rfl, H⟩ | ⟨rfl, H⟩
 ·replace H := ifP H; obtain ⟨c4, H⟩ := H;have m := eq_true c4;have o : decide (1 ≤ (a.size : Int)) = true := decide_eq_true c4;clear c4;obtain rfl := Option.some.inj H;(try go_wp2);go_ret;exact ⟨EQ, DR⟩
 ·obtain rfl := Option.some.inj H;(try go_wp2);go_ret;exact ⟨EQ, DR⟩
def iP.f (k : Nat) (a0 : ByteArray) : Option (ByteArray) := (bM.f k a0).bind fun t624 => (if t624 = true then (if 0 ≤ (wrap64 ((a0.size : Int) - 1)) then (if (wrap64 ((a0.size : Int) - 1)) ≤ (a0.size : Int) then (some (a0.extract 0 ((wrap64 ((a0.size : Int) - 1)) : Int).toNat)) else (none)) else (none)) else (some (⟨#[]⟩ : ByteArray)))
theorem iP.calls (k : Nat) (a r : ByteArray) (w : World) (h : iP.f k a = some r) :
  Calls Tryz.prog 152 #[.string a] w fun e w' => e = .returned (.string r) ∧ dn w w' := by
 unfold iP.f at h;have H := h;clear h;replace H := be H; obtain ⟨l, A2, H⟩ := H;replace H := ah.mk H;go_enter Tryz.func152, Tryz.ntmps152;go_wp2_with (first | ((with_reducible refine ay (f := 112) rfl ?_); refine bg (some 4) Tryz.func112 #[.string a] ?_; (with_reducible refine (bM.calls k a _ _ A2.out).mono ?_); rintro e w' ⟨rfl, ⟨nd, rfl⟩⟩; refine ⟨_, rfl, ?_⟩; refine cB ?_));refine Hide.mk ?_;replace H := H.out;replace H := ifB H; rcases H with ⟨rfl, H⟩ | ⟨rfl, H⟩
 ·obtain ⟨ji4, hji4⟩ : ∃ j_ : Int, (wrap64 ((a.size : Int) - 1)) = j_ := ⟨_, rfl⟩;replace H : (if 0 ≤ (ji4) then (if (ji4) ≤ (a.size : Int) then (some (a.extract 0 ((ji4) : Int).toNat)) else (none)) else (none)) = some r := by first | (rw [hji4] at H; exact H) | (simp only [hji4] at H ⊢; exact H)
  (try rw [hji4] at A2);have hji4w : (IntKind.i64.wrap ((a.size : Int) - 1)) = ji4 := (iB _).trans hji4;replace H := ifP H; obtain ⟨c5, H⟩ := H;have m := eq_true c5;have o : decide (0 ≤ (ji4)) = true := decide_eq_true c5;clear c5;replace H := ifP H; obtain ⟨c6, H⟩ := H;have u := eq_true c6;have x : decide ((ji4) ≤ (a.size : Int)) = true := decide_eq_true c6;clear c6;obtain rfl := Option.some.inj H;(try go_wp2);go_ret;exact ⟨by first | rfl | (simp; done) | (simp only [← hji4] <;> (first | rfl | simp)) | (simp [*]; done), DR⟩
 ·obtain rfl := Option.some.inj H;(try go_wp2);go_ret;exact ⟨EQ, DR⟩
mutual
def dA.j0 : Nat → ByteArray → ByteArray → Bool → Option (Bool)
 | 0, _, _, _ => none
 | k + 1, a, b, c => if c = true then (some false) else (dA.l0 k a b 1)
def dA.l0 : Nat → ByteArray → ByteArray → Int → Option (Bool)
 | 0, _, _, _ => none
 | k + 1, a, b, c => if (wrap64 (c + (a.size : Int))) < (b.size : Int) then (if 0 ≤ c then (if c ≤ (wrap64 (c + (a.size : Int))) then (if (wrap64 (c + (a.size : Int))) ≤ (b.size : Int) then (if (b.extract (c : Int).toNat ((wrap64 (c + (a.size : Int))) : Int).toNat).toList = a.toList then (some true) else (dA.l0 k a b (wrap64 (c + 1)))) else (none)) else (none)) else (none)) else (some false)
end
def dA.f (k : Nat) (a0 a1 : ByteArray) : Option (Bool) := (bM.f k a0).bind fun t625 => (if t625 = true then ((bM.f k a1).bind fun t626 => (dA.j0 k a0 a1 (!t626))) else (dA.j0 k a0 a1 true))
theorem dA.calls (k : Nat) (m y : ByteArray) (r : Bool) (w : World) (h : dA.f k m y = some r) :
  Calls Tryz.prog 153 #[.string m, .string y] w fun e w' => e = .returned (.bool r) ∧ dn w w' := by
 unfold dA.f at h;have H := h;clear h;have o := ah.mk H;clear H;go_enter Tryz.func153, Tryz.ntmps153;go_upto_region 1 with (fail)
 go_cut [13] (fun J wc => ∃ (kq : Nat) (l : Bool), J = .bool l ∧ ah (dA.j0 kq m y l = some r) ∧ ah (kq ≤ k) ∧ dn w wc)
 case first =>
  have H := o.out;clear o;replace H := be H; obtain ⟨P, Z, H⟩ := H;replace H := ah.mk H;go_wp2_with (first | ((with_reducible refine ay (f := 112) rfl ?_); refine bg (some 7) Tryz.func112 #[.string m] ?_; (with_reducible refine (bM.calls k m _ _ Z.out).mono ?_); rintro e w' ⟨rfl, ⟨nd, rfl⟩⟩; refine ⟨_, rfl, ?_⟩; refine cB ?_));refine Hide.mk ?_;replace H := H.out;replace H := ifB H; rcases H with ⟨rfl, H⟩ | ⟨rfl, H⟩
  ·replace H := be H; obtain ⟨z, A6, H⟩ := H;have H' := ah.mk H;clear H;(try go_wp2_with (first | (go_at_call 112; (with_reducible refine (bM.calls k y z _ A6.out).mono ?_); rintro e w' ⟨rfl, ⟨nd, rfl⟩⟩)));go_meet;case rel => exact ⟨_, _, EQ, H', ⟨by first | omega | exact Nat.le_refl _⟩, DR⟩
  ·have H' := ah.mk H;clear H;(try go_wp2);go_meet;case rel => exact ⟨_, _, EQ, H', ⟨by first | omega | exact Nat.le_refl _⟩, DR⟩
 case rest =>
  clear o;obtain ⟨kq, l, rfl, HA, A, ⟨mc2, rfl⟩⟩ := hcut
  cases kq with
  | zero => exact absurd HA.out (by simp [dA.j0])
  | succ D =>
   have H := HA.out;clear HA;simp only [dA.j0] at H;replace H := ifB H; rcases H with ⟨rfl, H⟩ | ⟨rfl, H⟩
   ·obtain rfl := Option.some.inj H;go_wp2;go_ret;exact ⟨EQ, DR⟩
   ·have H' := ah.mk H;clear H;go_wp2
    go_loopg [5] D (fun kq v5 w' => ∃ (a : Int), v5 = .int .i64 a ∧ ah (dA.l0 kq m y a = some r) ∧ ah (kq ≤ D) ∧ dn w w')
    case atStart => exact ⟨_, EQ, H', ⟨Nat.le_refl _⟩, DR⟩
    case round =>
     clear H';(try clear c7);obtain ⟨a, rfl, HA, E, ⟨m2, rfl⟩⟩ := hrel
     cases gk with
     | zero => exact absurd HA.out (by simp [dA.l0])
     | succ k2 =>
      have H := HA.out;clear HA;simp only [dA.l0] at H;replace H := ifD H; rcases H with ⟨G, H⟩ | ⟨G, H⟩
      ·replace H := ifP H; obtain ⟨c9, H⟩ := H;have U := eq_true c9;have Y : decide (0 ≤ a) = true := decide_eq_true c9;clear c9;replace H := ifP H; obtain ⟨c10, H⟩ := H;have K := eq_true c10;have L : decide (a ≤ (wrap64 (a + (m.size : Int)))) = true := decide_eq_true c10;replace H := ifP H; obtain ⟨I, H⟩ := H;have M := eq_true I;have O : decide ((wrap64 (a + (m.size : Int))) ≤ (y.size : Int)) = true := decide_eq_true I;replace H := ifE H; rcases H with ⟨u, x, H⟩ | ⟨xc, u, x, H⟩
       ·obtain rfl := Option.some.inj H;go_wp2;go_ret;exact ⟨EQ, DR⟩
       ·have H' := ah.mk H;clear H;go_wp2;go_roundg k2;case measure => have := A.out; have := E.out; omega
        case rel => exact ⟨_, EQ, H', ⟨by have := A.out; have := E.out; omega⟩, DR⟩
      ·obtain rfl := Option.some.inj H;go_wp2;go_ret;exact ⟨EQ, DR⟩
end Go.Proofs.YthkfjbodohaglaaGreatDoor.PFnExactHalfSolvable
