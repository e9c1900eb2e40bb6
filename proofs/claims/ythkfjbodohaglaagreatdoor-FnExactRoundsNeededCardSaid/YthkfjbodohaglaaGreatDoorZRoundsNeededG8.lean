/- Walks of functions: what each computes. -/
import Derived.Test.YthkfjbodohaglaaGreatDoorZRoundsNeededG0
import Derived.Test.YthkfjbodohaglaaGreatDoorZRoundsNeededG6
import Derived.Test.YthkfjbodohaglaaGreatDoorZRoundsNeededG7
import Derived.Test.YthkfjbodohaglaaGreatDoorZRoundsNeededW
import Derived.Test.YthkfjbodohaglaaGreatDoorZRoundsNeededShelf
import Derived.Test.YthkfjbodohaglaaGreatDoorZRoundsNeededHandSort
import Derived.Test.YthkfjbodohaglaaGreatDoorZRoundsNeededHandForm
import Derived.Test.YthkfjbodohaglaaGreatDoorZRoundsNeededHandAlone
import Derived.Test.YthkfjbodohaglaaGreatDoorZRoundsNeededHandReach
import Derived.Test.YthkfjbodohaglaaGreatDoorZRoundsNeededHandPut
import Derived.Test.YthkfjbodohaglaaGreatDoorZRoundsNeededHandRepl
namespace Go.Proofs.YthkfjbodohaglaaGreatDoor.PFnExactRoundsNeeded
open Go.RowKit Go.Proofs.YthkfjbodohaglaaGreatDoorW.PrintWords Go.Proofs.YthkfjbodohaglaaGreatDoorW.PrintLast Go.Proofs.YthkfjbodohaglaaGreatDoorW.PrintMore Go.Proofs.YthkfjbodohaglaaGreatDoor.Sq
attribute [local go_sem] kG kI lY lZ jH jI kH kJ
set_option maxHeartbeats 8000000
set_option maxRecDepth 100000
set_option linter.unusedVariables false
set_option linter.unusedSimpArgs false
def iY.f (k : Nat) (La Lb : Int) (Lc : ByteArray) (Ld : List (S72)) (Le : List Int) (Lf : Int) : Option (Bool) := (dF.f k La Lb Lc).bind fun t589 => (if t589 = 0 then ((aX.f k La Lb Lc).bind fun t590 => (if (Ld.length : Int) = (t590.length : Int) then (if (Le.length : Int) = (t590.length : Int) then ((dh.f Lf 1 9999).bind fun t593 => (if t593 = true then ((ku.f k Ld (⟨#[70, 73, 88]⟩ : ByteArray)).bind fun t594 => (some (!t594))) else (some false))) else (some false)) else (some false))) else (some false))
theorem iY.calls (k : Nat) (La Lb : Int) (Lc : ByteArray) (A0_3 : Option Addr) (c0_3 : Nat) (Ld : List (S72)) (A0_4 : Option Addr) (c0_4 : Nat) (Le : List Int) (Lf : Int) (r : Bool) (w : World) (hr0_3 : Kd.C k72 w A0_3 Ld.length Ld) (hc0_3 : Ld.length ≤ c0_3) (hr0_4 : Kd.C (Kd.int .i64) w A0_4 Le.length Le) (hc0_4 : Le.length ≤ c0_4) (h : iY.f k La Lb Lc Ld Le Lf = some r) :
  Calls Tryz.prog 36 #[.agg #[.int .i64 La, .int .i64 Lb, .string Lc, .slice A0_3 Ld.length c0_3, .slice A0_4 Le.length c0_4, .int .i64 Lf]] w fun e w' => e = .returned (.bool r) ∧ Below w.heap.size w w' := by
 have xR := Tryz.underlying37;have xS := Tryz.underlying34;have x := ah.mk hr0_3;have y := ah.mk hc0_3;clear hr0_3 hc0_3;have xJ := ah.mk hr0_4;have xK := ah.mk hc0_4;clear hr0_4 hc0_4;have HB := ah.mk (Below.refl w.heap.size w);unfold iY.f at h;have H := h;clear h;replace H := be H; obtain ⟨xw, A2, H⟩ := H;replace H := ah.mk H;go_enter Tryz.func36, Tryz.ntmps36;go_wp2_with (first | ((with_reducible refine aJ (N := 1) rfl ?_); (try (refine je (by rfl) ?_; dsimp only)); refine aZ (N := 1) (cs := #[.int .i64 La, .int .i64 Lb, .string Lc, .slice A0_3 Ld.length c0_3, .slice A0_4 Le.length c0_4, .int .i64 Lf]) (t := 37) ?_; intro xL hg xM hbox hb; have m := ah.mk hbox; have z := SZ (w := w) hg; have xN := z; replace HB := BS (w := w) hb; clear hb hbox hg; obtain ⟨A, D, E, G, I, J, K, L, M, O, P, U⟩ := cz6 m.out) | ((with_reducible refine ay (f := 58) rfl ?_); refine bf (some 6) Tryz.func58 #[.agg #[.int .i64 La, .int .i64 Lb, .string Lc]] ?_; (with_reducible refine (dF.calls k La Lb Lc xw _ A2.out).mono ?_); rintro e xO ⟨rfl, hb⟩; refine ⟨_, rfl, ?_⟩; replace m := KB m hb; replace HB := BS (w := w) hb; (try clear hb); obtain ⟨Y, Z, xa, xb, xc, xd, xe, xf, xg, xh, xi, xj⟩ := cz6 m.out; refine bR ?_));refine Hide.mk ?_;replace H := H.out;replace H := ifE H; rcases H with ⟨xx, xy, H⟩ | ⟨c3, xx, xy, H⟩
 ·replace H := be H; obtain ⟨a, A4, H⟩ := H;replace H := ah.mk H;go_wp2_with (first | ((with_reducible refine ay (f := 59) rfl ?_); refine bf (some 10) Tryz.func59 #[.agg #[.int .i64 La, .int .i64 Lb, .string Lc]] ?_; (with_reducible refine (aX.calls k La Lb Lc a _ A4.out).mono ?_); rintro e xP ⟨xT, rfl, xz, hb⟩; refine ⟨_, rfl, ?_⟩; replace m := KB m hb; have o := ah.mk (Kd.cK xz (aM BL)); replace HB := BS (w := w) hb; (try clear hb); (try clear xz); obtain ⟨xH, xI, u⟩ := Kd.dN o.out; subst u; obtain ⟨xk, xl, xm, xn, xo, xp, xq, xr, xs, xt, xu, xv⟩ := cz6 m.out; refine bR ?_));refine Hide.mk ?_;replace H := H.out;by_cases c5 : (Ld.length : Int) = (a.length : Int)
  ·rw [if_pos c5] at H;have xA : ((Ld.length : Int) == (a.length : Int)) = true := beq_iff_eq.mpr c5;have xB : ((Ld.length : Int) != (a.length : Int)) = false := bne_eq_false_iff_eq.mpr c5;have xC : (Ld.length == a.length) = true := by first | simpa using c5 | (simp at c5 ⊢; omega)
   clear c5;by_cases c6 : (Le.length : Int) = (a.length : Int)
   ·rw [if_pos c6] at H;have xD : ((Le.length : Int) == (a.length : Int)) = true := beq_iff_eq.mpr c6;have xE : ((Le.length : Int) != (a.length : Int)) = false := bne_eq_false_iff_eq.mpr c6;have xF : (Le.length == a.length) = true := by first | simpa using c6 | (simp at c6 ⊢; omega)
    clear c6;replace H := be H; obtain ⟨xU, A7, H⟩ := H;replace H := ah.mk H;go_wp2_with (first | (go_at_call 60; (with_reducible refine (dh.calls Lf 1 9999 _ _ A7.out).mono ?_); rintro e w' ⟨rfl, ⟨nd, rfl⟩⟩; refine bR ?_));refine Hide.mk ?_;replace H := H.out;replace H := ifB H; rcases H with ⟨rfl, H⟩ | ⟨rfl, H⟩
    ·replace H := be H; obtain ⟨xG, A9, H⟩ := H;obtain rfl := Option.some.inj H;(try go_wp2_with (first | (go_at_call 61; (with_reducible refine (ku.calls k _ _ Ld (⟨#[70, 73, 88]⟩ : ByteArray) xG _ ?side1 ?side2 A9.out).mono ?_); (case side1 => repeat (first | exact (Kd.eP x.out BL) | (with_reducible refine Kd.gD ?_ _) | (with_reducible refine Kd.gF ?_ _) | (with_reducible refine Kd.iw ?_))); (case side2 => exact y.out); rintro e xQ ⟨rfl, hb⟩; replace o := RB o hb; replace m := KB m hb; replace HB := BS (w := w) hb; (try clear hb))));go_ret;exact ⟨EWW, BL⟩
    ·obtain rfl := Option.some.inj H;(try go_wp2);go_ret;exact ⟨EWW, BL⟩
   ·rw [if_neg c6] at H;have xD : ((Le.length : Int) == (a.length : Int)) = false := beq_eq_false_iff_ne.mpr c6;have xE : ((Le.length : Int) != (a.length : Int)) = true := bne_iff_ne.mpr c6;have xF : (Le.length == a.length) = false := by first | simpa using c6 | (simp at c6 ⊢; omega)
    obtain rfl := Option.some.inj H;(try go_wp2);go_ret;exact ⟨EWW, BL⟩
  ·rw [if_neg c5] at H;have xA : ((Ld.length : Int) == (a.length : Int)) = false := beq_eq_false_iff_ne.mpr c5;have xB : ((Ld.length : Int) != (a.length : Int)) = true := bne_iff_ne.mpr c5;have xC : (Ld.length == a.length) = false := by first | simpa using c5 | (simp at c5 ⊢; omega)
   obtain rfl := Option.some.inj H;(try go_wp2);go_ret;exact ⟨EWW, BL⟩
 ·obtain rfl := Option.some.inj H;(try go_wp2);go_ret;exact ⟨EWW, BL⟩
def strings_ReplaceAll.f (a0 a1 a2 : ByteArray) : Option (ByteArray) := if a1 = ⟨#[46]⟩ ∧ a2 = ⟨#[63]⟩ ∧ a0.size ≤ 1048576 then (some (⟨(Go.Proofs.YthkfjbodohaglaaGreatDoor.HandRepl.pQ 46 63 a0.data.toList).toArray⟩ : ByteArray)) else (none)
theorem strings_ReplaceAll.calls (a m : ByteArray) (o r : ByteArray) (w : World) (h : strings_ReplaceAll.f a m o = some r) :
  Calls Tryz.prog 76 #[.string a, .string m, .string o] w fun e w' => e = .returned (.string r) ∧ Below w.heap.size w w' := by
 unfold strings_ReplaceAll.f at h;split at h
 ·rename_i hc;obtain ⟨rfl, rfl, u⟩ := hc;obtain rfl := Option.some.inj h;exact Go.Proofs.YthkfjbodohaglaaGreatDoor.HandRepl.Dh a w u
 ·exact absurd h (by simp)
def jw.f (k : Nat) (La Lb : Int) (Lc : ByteArray) : Option (ByteArray) := (bA.f k La Lb Lc).bind fun t596 => (if t596 = true then ((strings_ReplaceAll.f Lc (⟨#[46]⟩ : ByteArray) (⟨#[63]⟩ : ByteArray)).bind fun t597 => (some t597)) else (some (⟨#[]⟩ : ByteArray)))
theorem jw.calls (k : Nat) (La Lb : Int) (Lc r : ByteArray) (w : World) (h : jw.f k La Lb Lc = some r) :
  Calls Tryz.prog 44 #[.agg #[.int .i64 La, .int .i64 Lb, .string Lc]] w fun e w' => e = .returned (.string r) ∧ Below w.heap.size w w' := by
 have Z := Tryz.underlying34;have HB := ah.mk (Below.refl w.heap.size w);unfold jw.f at h;have H := h;clear h;replace H := be H; obtain ⟨xa, A2, H⟩ := H;replace H := ah.mk H;go_enter Tryz.func44, Tryz.ntmps44;go_wp2_with (first | ((with_reducible refine aJ (N := 1) rfl ?_); refine aZ (N := 1) (cs := #[.int .i64 La, .int .i64 Lb, .string Lc]) (t := 34) ?_; intro M hg O hbox hb; have a := ah.mk hbox; have m := SZ (w := w) hg; have P := m; replace HB := BS (w := w) hb; clear hb hbox hg; obtain ⟨o, u, x, y, z, A⟩ := cz3 a.out) | ((with_reducible refine ay (f := 75) rfl ?_); refine bf (some 4) Tryz.func75 #[.agg #[.int .i64 La, .int .i64 Lb, .string Lc]] ?_; (with_reducible refine (bA.calls k La Lb Lc _ _ A2.out).mono ?_); rintro e U ⟨rfl, hb⟩; refine ⟨_, rfl, ?_⟩; replace a := KB a hb; replace HB := BS (w := w) hb; (try clear hb); obtain ⟨D, E, G, I, J, K⟩ := cz3 a.out; refine bR ?_));refine Hide.mk ?_;replace H := H.out;replace H := ifB H; rcases H with ⟨rfl, H⟩ | ⟨rfl, H⟩
 ·replace H := be H; obtain ⟨L, A4, H⟩ := H;obtain rfl := Option.some.inj H;(try go_wp2_with (first | ((with_reducible refine ay (f := 76) rfl ?_); refine bf (some 8) Tryz.func76 #[.string Lc, .string (⟨#[46]⟩ : ByteArray), .string (⟨#[63]⟩ : ByteArray)] ?_; (with_reducible refine (strings_ReplaceAll.calls Lc (⟨#[46]⟩ : ByteArray) (⟨#[63]⟩ : ByteArray) L _ A4.out).mono ?_); rintro e Y ⟨rfl, hb⟩; refine ⟨_, rfl, ?_⟩; replace a := KB a hb; replace HB := BS (w := w) hb; (try clear hb))));go_ret;exact ⟨EWW, BL⟩
 ·obtain rfl := Option.some.inj H;(try go_wp2);go_ret;exact ⟨EWW, BL⟩
mutual
def cZ.j0 : Nat → ByteArray → Bool → Int → Int → ByteArray → Option (Bool)
 | 0, _, _, _, _, _ => none
 | k + 1, a, b, c, d, e => if b = true then (some false) else (cZ.l0 k a (a.size : Int) 0 c d e)
def cZ.l0 : Nat → ByteArray → Int → Int → Int → Int → ByteArray → Option (Bool)
 | 0, _, _, _, _, _, _ => none
 | k + 1, a, b, c, d, e, f => if c < b then (if 0 ≤ c then (if c < (f.size : Int) then (if c < (a.size : Int) then (if (((bt f c) == 35) != ((bt a c) == 35)) = true then (some false) else (if (bt a c) = 35 then (cZ.l0 k a b (wrap64 (c + 1)) d e f) else (if (bt a c) = 63 then (cZ.l0 k a b (wrap64 (c + 1)) d e f) else ((eG.f (bt a c)).bind fun g => (if g = true then (cZ.l0 k a b (wrap64 (c + 1)) d e f) else (some false)))))) else (none)) else (none)) else (none)) else (some true)
end
def cZ.f (k : Nat) (La Lb : Int) (Lc a1 : ByteArray) : Option (Bool) := (bA.f k La Lb Lc).bind fun t599 => (if t599 = true then (cZ.j0 k a1 ((a1.size : Int) != (Lc.size : Int)) La Lb Lc) else (cZ.j0 k a1 true La Lb Lc))
theorem cZ.calls (k : Nat) (La Lb : Int) (Lc o : ByteArray) (r : Bool) (w : World) (h : cZ.f k La Lb Lc o = some r) :
  Calls Tryz.prog 72 #[.agg #[.int .i64 La, .int .i64 Lb, .string Lc], .string o] w fun e w' => e = .returned (.bool r) ∧ Below w.heap.size w w' := by
 have xB := Tryz.underlying34;have HB := ah.mk (Below.refl w.heap.size w);unfold cZ.f at h;have H := h;clear h;have xa := ah.mk H;clear H;go_enter Tryz.func72, Tryz.ntmps72;go_upto_region 1 with (first | ((with_reducible refine aJ (N := 2) rfl ?_); (try (refine je (by rfl) ?_; dsimp only)); refine aZ (N := 2) (cs := #[.int .i64 La, .int .i64 Lb, .string Lc]) (t := 34) ?_; intro J hg w4 hbox hb; have m := ah.mk hbox; have u := SZ (w := w) hg; have Z := u; replace HB := BS (w := w) hb; clear hb hbox hg))
 repeat (go_quiet (first | ((with_reducible refine aJ (N := 2) rfl ?_); (try (refine je (by rfl) ?_; dsimp only)); refine aZ (N := 2) (cs := #[.int .i64 La, .int .i64 Lb, .string Lc]) (t := 34) ?_; intro J hg w4 hbox hb; have m := ah.mk hbox; have u := SZ (w := w) hg; have Z := u; replace HB := BS (w := w) hb; clear hb hbox hg)); go_upto_region 1 with (first | ((with_reducible refine aJ (N := 2) rfl ?_); (try (refine je (by rfl) ?_; dsimp only)); refine aZ (N := 2) (cs := #[.int .i64 La, .int .i64 Lb, .string Lc]) (t := 34) ?_; intro J hg w4 hbox hb; have m := ah.mk hbox; have u := SZ (w := w) hg; have Z := u; replace HB := BS (w := w) hb; clear hb hbox hg)))
 (try simp only [Act.put, List.setIfInBounds_toArray, List.set_cons_zero, List.set_cons_succ])
 go_cut [16] (fun xv wc => ∃ (kq : Nat) (K : Bool), xv = .bool K ∧ ah (cZ.j0 kq o K La Lb Lc = some r) ∧ ah (kq ≤ k) ∧ ah (wc.heap[J]? = some (.cells #[.int .i64 La, .int .i64 Lb, .string Lc] 34 (0, 0))) ∧ ah (Below w.heap.size w wc))
 case first =>
  have H := xa.out;clear xa;replace H := be H; obtain ⟨xD, A5, H⟩ := H;obtain ⟨xb, xc, xd, xe, xf, xg⟩ := cz3 m.out;replace H := ifB H; rcases H with ⟨rfl, H⟩ | ⟨rfl, H⟩
  ·have H' := ah.mk H;clear H
   repeat (go_wp2_with (first | (go_at_call 75; (with_reducible refine (bA.calls k La Lb Lc _ _ A5.out).mono ?_); rintro e x ⟨rfl, hb⟩; replace m := KB m hb; replace HB := BS (w := w) hb; (try clear hb); (try clear hb2); (try clear hk); (try clear hi); obtain ⟨y, z, A, D, E, G⟩ := cz3 m.out)); go_quiet (first | (go_at_call 75; (with_reducible refine (bA.calls k La Lb Lc _ _ A5.out).mono ?_); rintro e x ⟨rfl, hb⟩; replace m := KB m hb; replace HB := BS (w := w) hb; (try clear hb); (try clear hb2); (try clear hk); (try clear hi); obtain ⟨y, z, A, D, E, G⟩ := cz3 m.out)))
   go_wp2_with (first | (go_at_call 75; (with_reducible refine (bA.calls k La Lb Lc _ _ A5.out).mono ?_); rintro e x ⟨rfl, hb⟩; replace m := KB m hb; replace HB := BS (w := w) hb; (try clear hb); (try clear hb2); (try clear hk); (try clear hi); obtain ⟨y, z, A, D, E, G⟩ := cz3 m.out));go_meet;case rel => exact ⟨_, _, EQ, H', ⟨by first | omega | exact Nat.le_refl _⟩, ⟨BK⟩, ⟨BL⟩⟩
  ·have H' := ah.mk H;clear H
   repeat (go_wp2_with (first | (go_at_call 75; (with_reducible refine (bA.calls k La Lb Lc _ _ A5.out).mono ?_); rintro e x ⟨rfl, hb⟩; replace m := KB m hb; replace HB := BS (w := w) hb; (try clear hb); (try clear hb2); (try clear hk); (try clear hi))); go_quiet (first | (go_at_call 75; (with_reducible refine (bA.calls k La Lb Lc _ _ A5.out).mono ?_); rintro e x ⟨rfl, hb⟩; replace m := KB m hb; replace HB := BS (w := w) hb; (try clear hb); (try clear hb2); (try clear hk); (try clear hi))))
   go_wp2_with (first | (go_at_call 75; (with_reducible refine (bA.calls k La Lb Lc _ _ A5.out).mono ?_); rintro e x ⟨rfl, hb⟩; replace m := KB m hb; replace HB := BS (w := w) hb; (try clear hb); (try clear hb2); (try clear hk); (try clear hi)));go_meet;case rel => exact ⟨_, _, EQ, H', ⟨by first | omega | exact Nat.le_refl _⟩, ⟨BK⟩, ⟨BL⟩⟩
 case rest =>
  clear xa;obtain ⟨kq, K, rfl, HA, P, m, HB⟩ := hcut
  cases kq with
  | zero => exact absurd HA.out (by simp [cZ.j0])
  | succ xu =>
   have H := HA.out;clear HA;simp only [cZ.j0] at H;replace H := ifB H; rcases H with ⟨rfl, H⟩ | ⟨rfl, H⟩
   ·obtain rfl := Option.some.inj H;go_wp2
    repeat (go_quiet (fail); try go_wp2)
    go_ret;exact ⟨EWW, BL⟩
   ·have H' := ah.mk H;clear H;go_wp2
    repeat (go_quiet (fail); try go_wp2)
    go_loopg [19] xu (fun kq xw w' => ∃ (a : Int), xw = .int .i64 a ∧ ah (cZ.l0 kq o (o.size : Int) a La Lb Lc = some r) ∧ ah (kq ≤ xu) ∧ ah (w'.heap[J]? = some (.cells #[.int .i64 La, .int .i64 Lb, .string Lc] 34 (0, 0))) ∧ ah (Below w.heap.size w w'))
    case atStart => exact ⟨_, EQ, H', ⟨Nat.le_refl _⟩, ⟨BK⟩, ⟨BL⟩⟩
    case round =>
     clear H';(try clear xF);obtain ⟨a, rfl, HA, U, m, HB⟩ := hrel
     cases gk with
     | zero => exact absurd HA.out (by simp [cZ.l0])
     | succ k2 =>
      have H := HA.out;clear HA;simp only [cZ.l0] at H;replace H := ifD H; rcases H with ⟨xh, H⟩ | ⟨xh, H⟩
      ·replace H := ifN H; obtain ⟨xx, H⟩ := H;replace H := ifN H; obtain ⟨xy, H⟩ := H;replace H := ifN H; obtain ⟨xz, H⟩ := H;obtain ⟨xi, xj, xk, xl, xm, xn⟩ := cz3 m.out;have xG : (0 ≤ (a : Int)) = True := OT;have xH : (a < (Lc.size : Int)) = True := OT;have hx16 := fU Lc a;have xI : (0 ≤ (a : Int)) = True := OT;have xJ : (a < (o.size : Int)) = True := OT;have hx18 := fU o a;by_cases I : (((bt Lc a) == 35) != ((bt o a) == 35)) = true
       ·rw [if_pos I] at H;have L : (((bt Lc a) == 35) != ((bt o a) == 35)) = true := I;(try (have xo : decide (((bt Lc a) == 35) = ((bt o a) == 35)) = false := by simpa using I));(try (have xp : (((bt Lc a) == 35) == ((bt o a) == 35)) = false := by simpa using I));(try (have xA : ¬ (((bt Lc a) == 35) = ((bt o a) == 35)) := by simpa using I));clear I;obtain rfl := Option.some.inj H;go_wp2
        repeat (go_quiet (fail); try go_wp2)
        go_ret;exact ⟨EWW, BL⟩
       ·rw [if_neg I] at H;have L : (((bt Lc a) == 35) != ((bt o a) == 35)) = false := by simpa using I
        (try (have xo : decide (((bt Lc a) == 35) = ((bt o a) == 35)) = true := by simpa using I));(try (have xp : (((bt Lc a) == 35) == ((bt o a) == 35)) = true := by simpa using I));clear I;have xK : (0 ≤ (a : Int)) = True := OT;have xL : (a < (o.size : Int)) = True := OT;have hx21 := fU o a;by_cases M : (bt o a) = 35
        ·rw [if_pos M] at H;have O : ((bt o a) == 35) = true := beq_iff_eq.mpr M;have cwc19_ : ((bt Lc a) == 35) = true := (bne_eq_false_iff_eq.mp L).trans O;have xq : ((bt o a) != 35) = false := bne_eq_false_iff_eq.mpr M;clear M;have H' := ah.mk H;clear H;go_wp2
         repeat (go_quiet (fail); try go_wp2)
         go_roundg k2;case measure => have := P.out; have := U.out; omega
         case rel => exact ⟨_, EQ, H', ⟨by have := P.out; have := U.out; omega⟩, ⟨BK⟩, ⟨BL⟩⟩
        ·rw [if_neg M] at H;have O : ((bt o a) == 35) = false := beq_eq_false_iff_ne.mpr M;have cwc19_ : ((bt Lc a) == 35) = false := (bne_eq_false_iff_eq.mp L).trans O;have xq : ((bt o a) != 35) = true := bne_iff_ne.mpr M;have xM : (0 ≤ (a : Int)) = True := OT;have xN : (a < (o.size : Int)) = True := OT;have hx24 := fU o a;replace H := ifE H; rcases H with ⟨xr, xs, H⟩ | ⟨xO, xr, xs, H⟩
         ·have H' := ah.mk H;clear H;go_wp2
          repeat (go_quiet (fail); try go_wp2)
          go_roundg k2;case measure => have := P.out; have := U.out; omega
          case rel => exact ⟨_, EQ, H', ⟨by have := P.out; have := U.out; omega⟩, ⟨BK⟩, ⟨BL⟩⟩
         ·replace H := be H; obtain ⟨xE, Y, H⟩ := H;have xP : (0 ≤ (a : Int)) = True := OT;have xQ : (a < (o.size : Int)) = True := OT;have hx27 := fU o a;replace H := ifB H; rcases H with ⟨rfl, H⟩ | ⟨rfl, H⟩
          ·have H' := ah.mk H;clear H
           repeat (go_wp2_with (first | (go_at_call 107; (with_reducible refine (eG.calls (bt o a) _ _ Y.out).mono ?_); rintro e w' ⟨rfl, ⟨nd, rfl⟩⟩; (try first | exact da | exact DD))); go_quiet (first | (go_at_call 107; (with_reducible refine (eG.calls (bt o a) _ _ Y.out).mono ?_); rintro e w' ⟨rfl, ⟨nd, rfl⟩⟩; (try first | exact da | exact DD))))
           go_wp2_with (first | (go_at_call 107; (with_reducible refine (eG.calls (bt o a) _ _ Y.out).mono ?_); rintro e w' ⟨rfl, ⟨nd, rfl⟩⟩; (try first | exact da | exact DD)));go_roundg k2;case measure => have := P.out; have := U.out; omega
           case rel => exact ⟨_, EQ, H', ⟨by have := P.out; have := U.out; omega⟩, ⟨BK⟩, ⟨BL⟩⟩
          ·obtain rfl := Option.some.inj H
           repeat (go_wp2_with (first | (go_at_call 107; (with_reducible refine (eG.calls (bt o a) _ _ Y.out).mono ?_); rintro e w' ⟨rfl, ⟨nd, rfl⟩⟩; (try first | exact da | exact DD))); go_quiet (first | (go_at_call 107; (with_reducible refine (eG.calls (bt o a) _ _ Y.out).mono ?_); rintro e w' ⟨rfl, ⟨nd, rfl⟩⟩; (try first | exact da | exact DD))))
           go_wp2_with (first | (go_at_call 107; (with_reducible refine (eG.calls (bt o a) _ _ Y.out).mono ?_); rintro e w' ⟨rfl, ⟨nd, rfl⟩⟩; (try first | exact da | exact DD)));go_ret;exact ⟨EWW, BL⟩
      ·obtain rfl := Option.some.inj H;go_wp2
       repeat (go_quiet (fail); try go_wp2)
       go_ret;exact ⟨EWW, BL⟩
def fM.l0 : Nat → ByteArray → Int → Int → Int → Option (Int)
 | 0, _, _, _, _ => none
 | k + 1, a, b, c, d => if d < c then (if 0 ≤ d then (if d < (a.size : Int) then (if (bt a d) = 63 then (fM.l0 k a (wrap64 (b + 1)) c (wrap64 (d + 1))) else (fM.l0 k a b c (wrap64 (d + 1)))) else (none)) else (none)) else (some b)
def fM.f (k : Nat) (a0 : ByteArray) : Option (Int) := fM.l0 k a0 0 (a0.size : Int) 0
theorem fM.calls (k : Nat) (u : ByteArray) (r : Int) (w : World) (h : fM.f k u = some r) :
  Calls Tryz.prog 86 #[.string u] w fun e w' => e = .returned (.int .i64 r) ∧ cB w w' := by
 unfold fM.f at h;have H := h;clear h;have H' := ah.mk H;clear H;go_enter Tryz.func86, Tryz.ntmps86;go_wp2
 go_loopg [3, 7] k (fun kq E G w' => ∃ (m : Int) (a : Int), E = .int .i64 m ∧ G = .int .i64 a ∧ ah (fM.l0 kq u m (u.size : Int) a = some r) ∧ ah (kq ≤ k) ∧ cB w w')
 case atStart => exact ⟨_, _, EQ, EQ, H', ⟨Nat.le_refl _⟩, DR⟩
 case round =>
  clear H';obtain ⟨m, a, rfl, rfl, HA, o, ⟨m1, rfl⟩⟩ := hrel
  cases gk with
  | zero => exact absurd HA.out (by simp [fM.l0])
  | succ k1 =>
   have H := HA.out;clear HA;simp only [fM.l0] at H;replace H := ifD H; rcases H with ⟨x, H⟩ | ⟨x, H⟩
   ·replace H := ifN H; obtain ⟨A, H⟩ := H;replace H := ifN H; obtain ⟨D, H⟩ := H;have I : (0 ≤ (a : Int)) = True := OT;have J : (a < (u.size : Int)) = True := OT;have hx5 := fU u a;replace H := ifE H; rcases H with ⟨y, z, H⟩ | ⟨c6, y, z, H⟩
    ·have H' := ah.mk H;clear H;go_wp2;go_roundg k1;case measure => have := o.out; omega
     case rel => exact ⟨_, _, EQ, EQ, H', ks o, DR⟩
    ·have H' := ah.mk H;clear H;go_wp2;go_roundg k1;case measure => have := o.out; omega
     case rel => exact ⟨_, _, EQ, EQ, H', ks o, DR⟩
   ·obtain rfl := Option.some.inj H;go_wp2;go_ret;exact ⟨EQ, DR⟩
def kU.f (k : Nat) (La Lb : Int) (Lc a1 : ByteArray) : Option (Bool) := (cZ.f k La Lb Lc a1).bind fun t602 => (if t602 = true then ((fM.f k a1).bind fun t603 => (some (t603 == 0))) else (some false))
theorem kU.calls (k : Nat) (La Lb : Int) (Lc D : ByteArray) (r : Bool) (w : World) (h : kU.f k La Lb Lc D = some r) :
  Calls Tryz.prog 50 #[.agg #[.int .i64 La, .int .i64 Lb, .string Lc], .string D] w fun e w' => e = .returned (.bool r) ∧ Below w.heap.size w w' := by
 have L := Tryz.underlying34;have HB := ah.mk (Below.refl w.heap.size w);unfold kU.f at h;have H := h;clear h;replace H := be H; obtain ⟨M, O, H⟩ := H;replace H := ah.mk H;go_enter Tryz.func50, Tryz.ntmps50;go_wp2_with (first | ((with_reducible refine aJ (N := 2) rfl ?_); refine aZ (N := 2) (cs := #[.int .i64 La, .int .i64 Lb, .string Lc]) (t := 34) ?_; intro G hg I hbox hb; have a := ah.mk hbox; have m := SZ (w := w) hg; have J := m; replace HB := BS (w := w) hb; clear hb hbox hg; obtain ⟨o, u, x, y, z, A⟩ := cz3 a.out) | ((with_reducible refine ay (f := 72) rfl ?_); refine bf (some 7) Tryz.func72 #[.agg #[.int .i64 La, .int .i64 Lb, .string Lc], .string D] ?_; (with_reducible refine (cZ.calls k La Lb Lc D _ _ O.out).mono ?_); rintro e K ⟨rfl, hb⟩; refine ⟨_, rfl, ?_⟩; replace a := KB a hb; replace HB := BS (w := w) hb; (try clear hb); refine bR ?_));refine Hide.mk ?_;replace H := H.out;replace H := ifB H; rcases H with ⟨rfl, H⟩ | ⟨rfl, H⟩
 ·replace H := be H; obtain ⟨E, P, H⟩ := H;obtain rfl := Option.some.inj H;(try go_wp2_with (first | (go_at_call 86; (with_reducible refine (fM.calls k D E _ P.out).mono ?_); rintro e w' ⟨rfl, ⟨nd, rfl⟩⟩)));go_ret;exact ⟨EWW, BL⟩
 ·obtain rfl := Option.some.inj H;(try go_wp2);go_ret;exact ⟨EWW, BL⟩
def eU.l0 : Nat → ByteArray → List Int → List Int → Int → Int → Option (ByteArray)
 | 0, _, _, _, _, _ => none
 | k + 1, a, b, c, d, e => if e < d then (if 0 ≤ e then (if e < (c.length : Int) then (if 0 ≤ (rd c e) then (if (rd c e) < (a.size : Int) then (if b.length < 140737488355328 then (eU.l0 k a (b ++ [bt a (rd c e)]) c d (wrap64 (e + 1))) else (none)) else (none)) else (none)) else (none)) else (none)) else (some (strOfNums b))
def eU.f (k : Nat) (a0 : ByteArray) (l1 : List Int) : Option (ByteArray) := eU.l0 k a0 ([] : List Int) l1 (l1.length : Int) 0
theorem eU.calls (k : Nat) (A : ByteArray) (A1 : Option Addr) (c1 : Nat) (l1 : List Int) (r : ByteArray) (w : World) (hr1 : Kd.C (Kd.int .i64) w A1 l1.length l1) (hc1 : l1.length ≤ c1) (h : eU.f k A l1 = some r) :
  Calls Tryz.prog 74 #[.string A, .slice A1 l1.length c1] w fun e w' => e = .returned (.string r) ∧ Below w.heap.size w w' := by
 have M := ah.mk hr1;have xe := ah.mk hc1;clear hr1 hc1;have HB := ah.mk (Below.refl w.heap.size w);unfold eU.f at h;have H := h;clear h;have H' := ah.mk H;clear H;go_enter Tryz.func74, Tryz.ntmps74;go_wp2
 go_loopg [5, 10] k (fun kq v5 O w' => ∃ (u : List Int) (a : Int), O = .int .i64 a ∧ ah (eU.l0 kq A u l1 (l1.length : Int) a = some r) ∧ ah (kq ≤ k) ∧ ah (Kd.R (Kd.int .u8) 5 w' w.heap.size (fun _ => True) v5 u) ∧ ah (Below w.heap.size w w'))
 case atStart => exact ⟨_, _, EQ, H', ⟨Nat.le_refl _⟩, ⟨by first | exact Kd.oF _ _ _ _ _ | exact Kd.rY _ _ _ _ _ | exact Kd.su _ _ _ _ _ | exact Kd.rZ _ _ _ _ _ | exact Kd.sj _ _ _ _ _⟩, ⟨BL⟩⟩
 case round =>
  clear H';(try clear c1);obtain ⟨u, a, rfl, HA, G, x, HB⟩ := hrel
  cases gk with
  | zero => exact absurd HA.out (by simp [eU.l0])
  | succ k1 =>
   have H := HA.out;clear HA;simp only [eU.l0] at H;replace H := ifD H; rcases H with ⟨I, H⟩ | ⟨I, H⟩
   ·replace H := ifN H; obtain ⟨Z, H⟩ := H;replace H := ifN H; obtain ⟨xa, H⟩ := H;replace H := ifN H; obtain ⟨xb, H⟩ := H;replace H := ifN H; obtain ⟨xc, H⟩ := H;replace H := ifP H; obtain ⟨c9, H⟩ := H;have J := ah.mk c9;clear c9;obtain ⟨K, m⟩ : ∃ y_ : List Int, y_ = (u ++ [bt A (rd l1 a)]) := ⟨_, rfl⟩;replace H : (eU.l0 k1 A K l1 (l1.length : Int) (wrap64 (a + 1))) = some r := by first | (rw [m]; with_reducible exact H) | (have H2_ := (Option.bind_some _ _).symm.trans H; rw [m]; with_reducible exact H2_) | (have H2_ := (Option.bind_some _ _).symm.trans H; with_reducible exact H2_) | with_reducible exact H | (rw [m]; exact H) | exact H
    have D := ah.mk m;clear m;have H' := ah.mk H;clear H;have y : 0 ≤ (a : Int) := OD;have z : a < (l1.length : Int) := OD;obtain ⟨U, L, o⟩ := Kd.mV M.out a y z
    cases L
    (try replace o := (HB.out.cell (World.block_lt_of_cell? w _ o)).trans o);replace y := eq_true y;replace z := eq_true z;have p8 : (0 ≤ ((rd l1 a) : Int)) = True := OT;have q8 : ((rd l1 a) < (A.size : Int)) = True := OT;have hx8 := fU A (rd l1 a);go_wp2_with (first | ((with_reducible refine dU (b := .append) (xs := #[.tmp 14, .tmp 18]) rfl ?_); at_builtin; refine Kd.gU (Kd.int .u8) (w0 := w) w.heap.size rfl (.tmp 14) (.tmp 18) 105 5 (.int .u8 0) 1 rfl Tryz.underlying105 info5 rfl (by decide) (by omega) u5 u (bt A (rd l1 a)) [.int .u8 (bt A (rd l1 a))] (fun _ => True) (fun _ => False) rfl rfl ?aP (fun _ hk => hk.elim) ?aF ?aO ?aB ?aS ?aL ?_; (case aP => exact rfl); (case aB => exact BL); (case aF => exact (fun _ _ => trivial)); (case aO => exact (RR x)); (case aS => exact (aM BL)); (case aL => have := J.out; omega); intro xd Y ho hb hg hat; rw [← D.out] at ho; replace HB := ah.mk (hb); have E := ah.mk (ho); clear x; clear ho hb hg hat));go_roundg k1;case measure => have := G.out; omega
    case rel => exact ⟨_, _, EQ, H', ks G, ⟨(RR E)⟩, ⟨BL⟩⟩
   ·obtain rfl := Option.some.inj H;have hcv11 := EF (P := Tryz.prog) Tryz.underlying105 Tryz.underlying5 Tryz.underlying9 (Kd.uw x.out);go_wp2;go_ret;exact ⟨EWW, BL⟩
def eT.l0 : Nat → ByteArray → List ByteArray → List (List Int) → Int → Int → Option (List ByteArray)
 | 0, _, _, _, _, _ => none
 | k + 1, a, b, c, d, e => if e < d then (if 0 ≤ e then (if e < (c.length : Int) then ((eU.f k a (iQ c e)).bind fun f => (if b.length < 8796093022208 then (eT.l0 k a (b ++ [f]) c d (wrap64 (e + 1))) else (none))) else (none)) else (none)) else (some b)
def eT.f (k : Nat) (La Lb : Int) (Lc a1 : ByteArray) : Option (List ByteArray) := (cZ.f k La Lb Lc a1).bind fun t609 => (if t609 = true then ((dZ.f k La Lb Lc).bind fun t610 => (eT.l0 k a1 ([] : List ByteArray) t610 (t610.length : Int) 0)) else (some ([] : List ByteArray)))
theorem eT.calls (k : Nat) (La Lb : Int) (Lc a1 : ByteArray) (r : List ByteArray) (w : World) (h : eT.f k La Lb Lc a1 = some r) :
  Calls Tryz.prog 43 #[.agg #[.int .i64 La, .int .i64 Lb, .string Lc], .string a1] w fun e w' => ∃ v0_ : Value, e = .returned (v0_) ∧ Kd.R Kd.string 9 w' w.heap.size (fun _ => True) v0_ r ∧ Below w.heap.size w w' := by
 have xJ := Tryz.underlying34;have HB := ah.mk (Below.refl w.heap.size w);unfold eT.f at h;have H := h;clear h;replace H := be H; obtain ⟨xK, A3, H⟩ := H;replace H := ah.mk H;go_enter Tryz.func43, Tryz.ntmps43;go_wp2_with (first | ((with_reducible refine aJ (N := 2) rfl ?_); refine aZ (N := 2) (cs := #[.int .i64 La, .int .i64 Lb, .string Lc]) (t := 34) ?_; intro xd hg xy hbox hb; have a := ah.mk hbox; have xn := SZ (w := w) hg; have xz := xn; replace HB := BS (w := w) hb; clear hb hbox hg; obtain ⟨E, G, I, J, K, L⟩ := cz3 a.out) | ((with_reducible refine ay (f := 72) rfl ?_); refine bf (some 10) Tryz.func72 #[.agg #[.int .i64 La, .int .i64 Lb, .string Lc], .string a1] ?_; (with_reducible refine (cZ.calls k La Lb Lc a1 _ _ A3.out).mono ?_); rintro e xA ⟨rfl, hb⟩; refine ⟨_, rfl, ?_⟩; replace a := KB a hb; replace HB := BS (w := w) hb; (try clear hb); obtain ⟨M, O, P, U, Y, Z⟩ := cz3 a.out; refine bR ?_));refine Hide.mk ?_;replace H := H.out;replace H := ifB H; rcases H with ⟨rfl, H⟩ | ⟨rfl, H⟩
 ·replace H := be H; obtain ⟨u, A5, H⟩ := H;have H' := ah.mk H;clear H;try go_wp2_with (first | ((with_reducible refine ay (f := 73) rfl ?_); refine bf (some 13) Tryz.func73 #[.agg #[.int .i64 La, .int .i64 Lb, .string Lc]] ?_; (with_reducible refine (dZ.calls k La Lb Lc u _ A5.out).mono ?_); rintro e xB ⟨xL, rfl, xt, hb⟩; refine ⟨_, rfl, ?_⟩; replace a := KB a hb; have xe := ah.mk (Kd.ou xt (aM BL)); replace HB := BS (w := w) hb; (try clear hb); (try clear xt); obtain ⟨xh, xi, xj⟩ := Kd.oO xe.out; subst xj))
  go_loopg [5, 15] k (fun kq v5 xC w' => ∃ (D : List ByteArray) (m : Int), xC = .int .i64 m ∧ ah (eT.l0 kq a1 D u (u.length : Int) m = some r) ∧ ah (kq ≤ k) ∧ ah (Kd.R Kd.string 9 w' w.heap.size (fun _ => True) v5 D) ∧ ah (Kd.S (Kd.slice 3 (Kd.int .i64)) 25 w' w.heap.size (fun _ => True) (.slice xh u.length xi) u) ∧ ah (w'.heap[xd]? = some (.cells #[.int .i64 La, .int .i64 Lb, .string Lc] 34 (0, 0))) ∧ ah (Below w.heap.size w w'))
  case atStart => exact ⟨_, _, EQ, H', ⟨Nat.le_refl _⟩, ⟨by first | exact Kd.oF _ _ _ _ _ | exact Kd.rY _ _ _ _ _ | exact Kd.su _ _ _ _ _ | exact Kd.rZ _ _ _ _ _ | exact Kd.sj _ _ _ _ _⟩, ⟨(SR xe)⟩, ⟨BK⟩, ⟨BL⟩⟩
  case round =>
   clear H';(try clear c4);(try clear E G I);(try clear M O P);(try clear J K L);(try clear U Y Z);obtain ⟨D, m, rfl, HA, xu, z, x, a, HB⟩ := hrel
   cases gk with
   | zero => exact absurd HA.out (by simp [eT.l0])
   | succ k1 =>
    have H := HA.out;clear HA;simp only [eT.l0] at H;replace H := ifD H; rcases H with ⟨xo, H⟩ | ⟨xo, H⟩
    ·replace H := ifN H; obtain ⟨xD, H⟩ := H;replace H := ifN H; obtain ⟨xE, H⟩ := H;replace H := be H; obtain ⟨xa, xF, H⟩ := H;replace H := ifP H; obtain ⟨xv, H⟩ := H;have xp := ah.mk xv;clear xv;obtain ⟨xw, A⟩ : ∃ y_ : List ByteArray, y_ = (D ++ [xa]) := ⟨_, rfl⟩;replace H : (eT.l0 k1 a1 xw u (u.length : Int) (wrap64 (m + 1))) = some r := by first | (rw [A]; with_reducible exact H) | (have H2_ := (Option.bind_some _ _).symm.trans H; rw [A]; with_reducible exact H2_) | (have H2_ := (Option.bind_some _ _).symm.trans H; with_reducible exact H2_) | with_reducible exact H | (rw [A]; exact H) | exact H
     have xq := ah.mk A;clear A;have H' := ah.mk H;clear H;have xb : 0 ≤ (m : Int) := OD;have xc : m < (u.length : Int) := OD;obtain ⟨xG, xk, xl, xx, xf, hl613_0, hi613_0⟩ := Cv (Kd.iN x.out).2.2 m xb xc
     cases xx
     obtain ⟨ce613, hce613, hMe613, hcc613⟩ := Kd.Du x.out [] m xb (by first | exact xc | exact OD | (have e_ := (Kd.iN x.out).1; omega));obtain ⟨ve613_0, rfl, ge613_0⟩ := hMe613;have hv613_0 := hcc613 0 _ rfl;rw [Nat.add_zero, show ((Kd.slice 3 (Kd.int .i64))).sz = 1 from rfl, Nat.mul_one] at hv613_0;replace hv613_0 := Option.some.inj (hv613_0.symm.trans xf);rw [hv613_0] at ge613_0;have HL613_0 := ah.mk (show Kd.R (Kd.int .i64) 3 _ _ _ _ (iQ u m) from ge613_0);clear hv613_0 ge613_0;clear hcc613 hce613;have y := ah.mk hi613_0;have xg := ah.mk hl613_0;clear hi613_0 hl613_0;replace xb := eq_true xb;replace xc := eq_true xc;go_wp2_with (first | ((with_reducible refine ay (f := 74) rfl ?_); refine bf (some 22) Tryz.func74 #[.string a1, .slice xk (iQ u m).length xl] ?_; (with_reducible refine (eU.calls k1 a1 _ _ (iQ u m) xa _ ?side1 ?side2 xF.out).mono ?_); (case side1 => repeat (first | exact (by repeat (first | (with_reducible exact y.out) | (with_reducible refine Kd.gD ?_ _) | (with_reducible refine Kd.gF ?_ _) | (with_reducible refine Kd.iw ?_) | exact y.out)) | (with_reducible refine Kd.gD ?_ _) | (with_reducible refine Kd.gF ?_ _) | (with_reducible refine Kd.iw ?_))); (case side2 => exact xg.out); rintro e xH ⟨rfl, hb⟩; refine ⟨_, rfl, ?_⟩; replace z := RB z hb; replace x := ah.mk (Kd.gK (SR x) hb); replace HL613_0 := ah.mk (Kd.ko (by (with_reducible repeat (first | apply Kd.fQ | apply Kd.fT | apply Kd.eH)); exact HL613_0.out) hb); replace y := ah.mk (Kd.eP (by repeat (first | (with_reducible exact y.out) | (with_reducible refine Kd.gD ?_ _) | (with_reducible refine Kd.gF ?_ _) | (with_reducible refine Kd.iw ?_) | exact y.out)) hb); replace a := KB a hb; replace HB := BS (w := w) hb; (try clear hb)) | ((with_reducible refine dU (b := .append) (xs := #[.tmp 19, .tmp 23]) rfl ?_); at_builtin; refine Kd.gU Kd.string (w0 := w) w.heap.size rfl (.tmp 19) (.tmp 23) 29 9 (.string ⟨#[]⟩) 16 rfl Tryz.underlying29 DJ rfl (by decide) (by omega) u5 D xa [.string xa] (fun _ => True) (fun _ => False) rfl rfl ?aP (fun _ hk => hk.elim) ?aF ?aO ?aB ?aS ?aL ?_; (case aP => exact rfl); (case aB => exact BL); (case aF => exact (fun _ _ => trivial)); (case aO => exact (RR z)); (case aS => exact (aM BL)); (case aL => have := xp.out; omega); intro xM xI ho hb hg hat; rw [← xq.out] at ho; replace x := ah.mk (Kd.II (SR x) (Kd.nK (RR z)) (by decide) hg); replace HL613_0 := ah.mk (Kd.nJ (by (with_reducible repeat (first | apply Kd.fQ | apply Kd.fT | apply Kd.eH)); exact HL613_0.out) (Kd.nK (RR z)) (by decide) hg); replace a := ah.mk (eF (g := xd) (o := .cells #[.int .i64 La, .int .i64 Lb, .string Lc] 34 (0, 0)) BK hg (Kd.mO z.out a.out (by decide))); replace HB := ah.mk (hb); have xr := ah.mk (ho); clear z; clear ho hb hg hat));go_roundg k1;case measure => have := xu.out; omega
     case rel => exact ⟨_, _, EQ, H', ks xu, ⟨(RR xr)⟩, ⟨(SR x)⟩, ⟨BK⟩, ⟨BL⟩⟩
    ·obtain rfl := Option.some.inj H;go_wp2;go_ret;exact ⟨_, EWW, (RR z), BL⟩
 ·obtain rfl := Option.some.inj H;(try go_wp2);go_ret;exact ⟨_, EWW, by first | exact Kd.oF _ _ _ _ _ | exact Kd.rY _ _ _ _ _ | exact Kd.su _ _ _ _ _ | exact Kd.rZ _ _ _ _ _ | exact Kd.sj _ _ _ _ _, BL⟩
theorem KJ (d : Nat) (w : World) (x0 a : ByteArray) (x1 e : Int) :
  (Op.equalIn (d + 2) 62 (.agg #[.string x0, .int .i64 x1]) (.agg #[.string a, .int .i64 e])).run Tryz.prog w = .ok (x0.toList == a.toList && (x1 == e)) w := by
 refine EA Tryz.underlying62 (by kernel_rfl) ?_;refine pV (by rfl) (by go_simp; rfl) (by go_simp; rfl) (by go_simp) ?_;exact Ae (by rfl) (by go_simp; rfl) (by go_simp; rfl) (by go_simp)
attribute [local go_sem high] KJ
def bH.l0 : Nat → List ByteArray → ByteArray → Int → Int → Option (Int)
 | 0, _, _, _, _ => none
 | k + 1, a, b, c, d => if d < c then (if 0 ≤ d then (if d < (a.length : Int) then (if b.toList = (fG ByteArray.empty a d).toList then (some d) else (bH.l0 k a b c (wrap64 (d + 1)))) else (none)) else (none)) else (some (-1))
def bH.f (k : Nat) (l0 : List ByteArray) (a1 : ByteArray) : Option (Int) := bH.l0 k l0 a1 (l0.length : Int) 0
theorem bH.calls (k : Nat) (L : Option Addr) (M : Nat) (l0 : List ByteArray) (I : ByteArray) (r : Int) (w : World) (u : Kd.C Kd.string w L l0.length l0) (x : l0.length ≤ M) (h : bH.f k l0 I = some r) :
  Calls Tryz.prog 146 #[.slice L l0.length M, .string I] w fun e w' => e = .returned (.int .i64 r) ∧ cB w w' := by
 have J := ah.mk u;have U := ah.mk x;clear u x;unfold bH.f at h;have H := h;clear h;have H' := ah.mk H;clear H;go_enter Tryz.func146, Tryz.ntmps146;go_wp2
 go_loopg [8] k (fun kq Y w' => ∃ (a : Int), Y = .int .i64 a ∧ ah (bH.l0 kq l0 I (l0.length : Int) a = some r) ∧ ah (kq ≤ k) ∧ cB w w')
 case atStart => exact ⟨_, EQ, H', ⟨Nat.le_refl _⟩, DR⟩
 case round =>
  clear H';obtain ⟨a, rfl, HA, y, ⟨m1, rfl⟩⟩ := hrel
  cases gk with
  | zero => exact absurd HA.out (by simp [bH.l0])
  | succ k1 =>
   have H := HA.out;clear HA;simp only [bH.l0] at H;replace H := ifD H; rcases H with ⟨z, H⟩ | ⟨z, H⟩
   ·replace H := ifN H; obtain ⟨O, H⟩ := H;replace H := ifN H; obtain ⟨P, H⟩ := H;have m : 0 ≤ (a : Int) := OD;have o : a < (l0.length : Int) := OD;obtain ⟨K, A, D⟩ := Kd.jv J.out a m o
    cases A
    replace m := eq_true m;replace o := eq_true o;replace H := ifE H; rcases H with ⟨E, G, H⟩ | ⟨c6, E, G, H⟩
    ·obtain rfl := Option.some.inj H;go_wp2;go_ret;exact ⟨EQ, DR⟩
    ·have H' := ah.mk H;clear H;go_wp2;go_roundg k1;case measure => have := y.out; omega
     case rel => exact ⟨_, EQ, H', ks y, DR⟩
   ·obtain rfl := Option.some.inj H;go_wp2;go_ret;exact ⟨EQ, DR⟩
def eY.f (k : Nat) (l0 : List ByteArray) (a1 : ByteArray) : Option (Bool) := (bH.f k l0 a1).bind fun t619 => (some (decide (t619 ≥ 0)))
theorem eY.calls (k : Nat) (x : Option Addr) (y : Nat) (l0 : List ByteArray) (u : ByteArray) (r : Bool) (w : World) (a : Kd.C Kd.string w x l0.length l0) (m : l0.length ≤ y) (h : eY.f k l0 u = some r) :
  Calls Tryz.prog 110 #[.slice x l0.length y, .string u] w fun e w' => e = .returned (.bool r) ∧ cB w w' := by
 have z := ah.mk a;have A := ah.mk m;clear a m;unfold eY.f at h;have H := h;clear h;replace H := be H; obtain ⟨o, D, H⟩ := H;obtain rfl := Option.some.inj H;go_enter Tryz.func110, Tryz.ntmps110;go_wp2_with (first | ((with_reducible refine ay (f := 146) rfl ?_); refine bf (some 7) Tryz.func146 #[.slice x l0.length y, .string u] ?_; (with_reducible refine (bH.calls k _ _ l0 u o _ ?side1 ?side2 D.out).mono ?_); (case side1 => repeat (first | exact z.out | (with_reducible refine Kd.gD ?_ _) | (with_reducible refine Kd.gF ?_ _) | (with_reducible refine Kd.iw ?_))); (case side2 => exact A.out); rintro e w' ⟨rfl, ⟨nd, rfl⟩⟩; refine ⟨_, rfl, ?_⟩));go_ret;exact ⟨EQ, DR⟩
def gP.l0 : Nat → List ByteArray → List ByteArray → Int → Int → Option (List ByteArray)
 | 0, _, _, _, _ => none
 | k + 1, a, b, c, d => if d < c then (if 0 ≤ d then (if d < (b.length : Int) then ((eY.f k a (fG ByteArray.empty b d)).bind fun e => (if e = true then (gP.l0 k a b c (wrap64 (d + 1))) else (if a.length < 8796093022208 then (gP.l0 k (a ++ [fG ByteArray.empty b d]) b c (wrap64 (d + 1))) else (none)))) else (none)) else (none)) else (some a)
def gP.f (k : Nat) (l0 : List ByteArray) : Option (List ByteArray) := gP.l0 k ([] : List ByteArray) l0 (l0.length : Int) 0
theorem gP.calls (k : Nat) (A0 : Option Addr) (c0 : Nat) (l0 r : List ByteArray) (w : World) (K : Kd.C Kd.string w A0 l0.length l0) (L : l0.length ≤ c0) (h : gP.f k l0 = some r) :
  Calls Tryz.prog 77 #[.slice A0 l0.length c0] w fun e w' => ∃ v0_ : Value, e = .returned (v0_) ∧ Kd.R Kd.string 9 w' w.heap.size (fun _ => True) v0_ r ∧ Below w.heap.size w w' := by
 have Y := ah.mk K;have xh := ah.mk L;clear K L;have HB := ah.mk (Below.refl w.heap.size w);unfold gP.f at h;have H := h;clear h;have H' := ah.mk H;clear H;go_enter Tryz.func77, Tryz.ntmps77;go_wp2
 go_loopg [3, 8] k (fun kq v3 v8 w' => ∃ (m : List ByteArray) (a : Int), v8 = .int .i64 a ∧ ah (gP.l0 kq m l0 (l0.length : Int) a = some r) ∧ ah (kq ≤ k) ∧ ah (Kd.R Kd.string 9 w' w.heap.size (fun _ => True) v3 m) ∧ ah (Below w.heap.size w w'))
 case atStart => exact ⟨_, _, EQ, H', ⟨Nat.le_refl _⟩, ⟨by first | exact Kd.oF _ _ _ _ _ | exact Kd.rY _ _ _ _ _ | exact Kd.su _ _ _ _ _ | exact Kd.rZ _ _ _ _ _ | exact Kd.sj _ _ _ _ _⟩, ⟨BL⟩⟩
 case round =>
  clear H';obtain ⟨m, a, rfl, HA, E, o, HB⟩ := hrel
  cases gk with
  | zero => exact absurd HA.out (by simp [gP.l0])
  | succ k1 =>
   have H := HA.out;clear HA;simp only [gP.l0] at H;replace H := ifD H; rcases H with ⟨M, H⟩ | ⟨M, H⟩
   ·replace H := ifN H; obtain ⟨xd, H⟩ := H;replace H := ifN H; obtain ⟨xe, H⟩ := H;replace H := be H; obtain ⟨xf, A5, H⟩ := H;have A : 0 ≤ (a : Int) := OD;have D : a < (l0.length : Int) := OD;obtain ⟨Z, O, u⟩ := Kd.jv Y.out a A D
    cases O
    (try replace u := (HB.out.cell (World.block_lt_of_cell? w _ u)).trans u);replace A := eq_true A;replace D := eq_true D;obtain ⟨y, z, G⟩ := Kd.dN o.out;subst G;replace H := ah.mk H;go_wp2_with (first | ((with_reducible refine ay (f := 110) rfl ?_); refine bf (some 14) Tryz.func110 #[.slice y m.length z, .string (fG ByteArray.empty l0 a)] ?_; (with_reducible refine (eY.calls k1 _ _ m (fG ByteArray.empty l0 a) _ _ ?side1 ?side2 A5.out).mono ?_); (case side1 => exact CR2 o); (case side2 => exact (Kd.bO o.out).2.1); rintro e w' ⟨rfl, ⟨nd, rfl⟩⟩; refine ⟨_, rfl, ?_⟩; refine bR ?_));refine Hide.mk ?_;replace H := H.out;replace H := ifB H; rcases H with ⟨rfl, H⟩ | ⟨rfl, H⟩
    ·have H' := ah.mk H;clear H;(try go_wp2);go_roundg k1;case measure => have := E.out; omega
     case rel => exact ⟨_, _, EQ, H', ks E, ⟨(RR o)⟩, ⟨BL⟩⟩
    ·replace H := ifP H; obtain ⟨c8, H⟩ := H;have P := ah.mk c8;clear c8;obtain ⟨U, x⟩ : ∃ y_ : List ByteArray, y_ = (m ++ [fG ByteArray.empty l0 a]) := ⟨_, rfl⟩;replace H : (gP.l0 k1 U l0 (l0.length : Int) (wrap64 (a + 1))) = some r := by first | (rw [x]; with_reducible exact H) | (have H2_ := (Option.bind_some _ _).symm.trans H; rw [x]; with_reducible exact H2_) | (have H2_ := (Option.bind_some _ _).symm.trans H; with_reducible exact H2_) | with_reducible exact H | (rw [x]; exact H) | exact H
     have I := ah.mk x;clear x;have H' := ah.mk H;clear H;(try go_wp2_with (first | ((with_reducible refine dU (b := .append) (xs := #[.tmp 16, .tmp 18]) rfl ?_); at_builtin; refine Kd.gU Kd.string (w0 := w) w.heap.size rfl (.tmp 16) (.tmp 18) 29 9 (.string ⟨#[]⟩) 16 rfl Tryz.underlying29 DJ rfl (by decide) (by omega) (.slice y m.length z) m (fG ByteArray.empty l0 a) [.string (fG ByteArray.empty l0 a)] (fun _ => True) (fun _ => False) rfl rfl ?aP (fun _ hk => hk.elim) ?aF ?aO ?aB ?aS ?aL ?_; (case aP => exact rfl); (case aB => exact BL); (case aF => exact (fun _ _ => trivial)); (case aO => exact (RR o)); (case aS => exact (aM BL)); (case aL => have := P.out; omega); intro xg xa ho hb hg hat; rw [← I.out] at ho; replace HB := ah.mk (hb); have J := ah.mk (ho); clear o; clear ho hb hg hat)));go_roundg k1;case measure => have := E.out; omega
     case rel => exact ⟨_, _, EQ, H', ks E, ⟨(RR J)⟩, ⟨BL⟩⟩
   ·obtain rfl := Option.some.inj H;go_wp2;go_ret;exact ⟨_, EWW, (RR o), BL⟩
def fB.l0 : Nat → (Nat → ByteArray → Option Bool) → List ByteArray → List ByteArray → Int → Int → Option (List ByteArray)
 | 0, _, _, _, _, _ => none
 | k + 1, a, b, c, d, e => if e < d then (if 0 ≤ e then (if e < (c.length : Int) then ((a k (fG ByteArray.empty c e)).bind fun f => (if f = true then (if b.length < 8796093022208 then (fB.l0 k a (b ++ [fG ByteArray.empty c e]) c d (wrap64 (e + 1))) else (none)) else (fB.l0 k a b c d (wrap64 (e + 1))))) else (none)) else (none)) else (some b)
def fB.f (k : Nat) (l0 : List ByteArray) (a1 : (Nat → ByteArray → Option Bool)) : Option (List ByteArray) := fB.l0 k a1 ([] : List ByteArray) l0 (l0.length : Int) 0
theorem fB.calls (k : Nat) (A0 : Option Addr) (c0 : Nat) (l0 : List ByteArray) (P : (Nat → ByteArray → Option Bool)) (r : List ByteArray) (w : World) (I : Kd.C Kd.string w A0 l0.length l0) (J : l0.length ≤ c0) (h : fB.f k l0 P = some r) (g : FuncId) (lb : Array Value) (eg : ∀ args w, (callFunc g args).run Tryz.prog w = .ok (.enter g args) w) (hp : ∀ (j : Nat) (s : ByteArray) (b : Bool) (W : World), Below w.heap.size w W → P j s = some b → Calls Tryz.prog g (#[.string s] ++ lb) W fun e w' => e = .returned (.bool b) ∧ Below W.heap.size W w') :
  Calls Tryz.prog 78 #[.slice A0 l0.length c0, .func (.func g) #[] lb] w fun e w' => ∃ v0_ : Value, e = .returned (v0_) ∧ Kd.R Kd.string 9 w' w.heap.size (fun _ => True) v0_ r ∧ Below w.heap.size w w' := by
 have U := ah.mk I;have xi := ah.mk J;clear I J;have HB := ah.mk (Below.refl w.heap.size w);have HPP := ah.mk hp;clear hp;unfold fB.f at h;have H := h;clear h;have H' := ah.mk H;clear H;go_enter Tryz.func78, Tryz.ntmps78;go_wp2
 go_loopg [5, 10] k (fun kq v5 Y w' => ∃ (x : List ByteArray) (a : Int), Y = .int .i64 a ∧ ah (fB.l0 kq P x l0 (l0.length : Int) a = some r) ∧ ah (kq ≤ k) ∧ ah (Kd.R Kd.string 9 w' w.heap.size (fun _ => True) v5 x) ∧ ah (Below w.heap.size w w'))
 case atStart => exact ⟨_, _, EQ, H', ⟨Nat.le_refl _⟩, ⟨by first | exact Kd.oF _ _ _ _ _ | exact Kd.rY _ _ _ _ _ | exact Kd.su _ _ _ _ _ | exact Kd.rZ _ _ _ _ _ | exact Kd.sj _ _ _ _ _⟩, ⟨BL⟩⟩
 case round =>
  clear H';obtain ⟨x, a, rfl, HA, A, m, HB⟩ := hrel
  cases gk with
  | zero => exact absurd HA.out (by simp [fB.l0])
  | succ k1 =>
   have H := HA.out;clear HA;simp only [fB.l0] at H;replace H := ifD H; rcases H with ⟨K, H⟩ | ⟨K, H⟩
   ·replace H := ifN H; obtain ⟨xd, H⟩ := H;replace H := ifN H; obtain ⟨xe, H⟩ := H;replace H := be H; obtain ⟨xf, A6, H⟩ := H;have y : 0 ≤ (a : Int) := OD;have z : a < (l0.length : Int) := OD;obtain ⟨Z, L, o⟩ := Kd.jv U.out a y z
    cases L
    (try replace o := (HB.out.cell (World.block_lt_of_cell? w _ o)).trans o);replace y := eq_true y;replace z := eq_true z;replace H := ifB H; rcases H with ⟨rfl, H⟩ | ⟨rfl, H⟩
    ·replace H := ifP H; obtain ⟨c8, H⟩ := H;have M := ah.mk c8;clear c8;obtain ⟨O, u⟩ : ∃ y_ : List ByteArray, y_ = (x ++ [fG ByteArray.empty l0 a]) := ⟨_, rfl⟩;replace H : (fB.l0 k1 P O l0 (l0.length : Int) (wrap64 (a + 1))) = some r := by first | (rw [u]; with_reducible exact H) | (have H2_ := (Option.bind_some _ _).symm.trans H; rw [u]; with_reducible exact H2_) | (have H2_ := (Option.bind_some _ _).symm.trans H; with_reducible exact H2_) | with_reducible exact H | (rw [u]; exact H) | exact H
     have D := ah.mk u;clear u;have H' := ah.mk H;clear H;go_wp2_with (first | (refine (HPP.out k1 (fG ByteArray.empty l0 a) true _ BL A6.out).mono ?_; rintro e E ⟨rfl, hb⟩; replace m := RB m hb; replace HB := BS (w := w) hb; (try clear hb)) | ((with_reducible refine dU (b := .append) (xs := #[.tmp 17, .tmp 19]) rfl ?_); at_builtin; refine Kd.gU Kd.string (w0 := w) w.heap.size rfl (.tmp 17) (.tmp 19) 29 9 (.string ⟨#[]⟩) 16 rfl Tryz.underlying29 DJ rfl (by decide) (by omega) u5 x (fG ByteArray.empty l0 a) [.string (fG ByteArray.empty l0 a)] (fun _ => True) (fun _ => False) rfl rfl ?aP (fun _ hk => hk.elim) ?aF ?aO ?aB ?aS ?aL ?_; (case aP => exact rfl); (case aB => exact BL); (case aF => exact (fun _ _ => trivial)); (case aO => exact (RR m)); (case aS => exact (aM BL)); (case aL => have := M.out; omega); intro xh xa ho hb hg hat; rw [← D.out] at ho; replace HB := ah.mk (hb); have G := ah.mk (ho); clear m; clear ho hb hg hat));go_roundg k1;case measure => have := A.out; omega
     case rel => exact ⟨_, _, EQ, H', ks A, ⟨(RR G)⟩, ⟨BL⟩⟩
    ·have H' := ah.mk H;clear H;go_wp2_with (first | (refine (HPP.out k1 (fG ByteArray.empty l0 a) false _ BL A6.out).mono ?_; rintro e E ⟨rfl, hb⟩; replace m := RB m hb; replace HB := BS (w := w) hb; (try clear hb); (try clear hb2); (try clear hk); (try clear hi)));go_roundg k1;case measure => have := A.out; omega
     case rel => exact ⟨_, _, EQ, H', ks A, ⟨(RR m)⟩, ⟨BL⟩⟩
   ·obtain rfl := Option.some.inj H;go_wp2;go_ret;exact ⟨_, EWW, (RR m), BL⟩
def bU.l0 : Nat → ByteArray → Int → Int → Option (Bool)
 | 0, _, _, _ => none
 | k + 1, a, b, c => if c < b then (if 0 ≤ c then (if c < (a.size : Int) then (if (bt a c) = 63 then (bU.l0 k a b (wrap64 (c + 1))) else ((eG.f (bt a c)).bind fun d => (if d = true then (bU.l0 k a b (wrap64 (c + 1))) else (some false)))) else (none)) else (none)) else (some true)
def bU.f (k : Nat) (a0 : ByteArray) : Option (Bool) := (dh.f (a0.size : Int) 1 8).bind fun t630 => (if t630 = true then (bU.l0 k a0 (a0.size : Int) 0) else (some false))
theorem bU.calls (k : Nat) (m : ByteArray) (r : Bool) (w : World) (h : bU.f k m = some r) :
  Calls Tryz.prog 111 #[.string m] w fun e w' => e = .returned (.bool r) ∧ cB w w' := by
 unfold bU.f at h;have H := h;clear h;replace H := be H; obtain ⟨D, A2, H⟩ := H;replace H := ah.mk H;go_enter Tryz.func111, Tryz.ntmps111;go_wp2_with (first | ((with_reducible refine ay (f := 60) rfl ?_); refine bf (some 6) Tryz.func60 #[.int .i64 (m.size : Int), .int .i64 1, .int .i64 8] ?_; (with_reducible refine (dh.calls (m.size : Int) 1 8 _ _ A2.out).mono ?_); rintro e w' ⟨rfl, ⟨nd, rfl⟩⟩; refine ⟨_, rfl, ?_⟩; refine bR ?_));refine Hide.mk ?_;replace H := H.out;replace H := ifB H; rcases H with ⟨rfl, H⟩ | ⟨rfl, H⟩
 ·have H' := ah.mk H;clear H;try go_wp2
  go_loopg [10] k (fun kq z w' => ∃ (a : Int), z = .int .i64 a ∧ ah (bU.l0 kq m (m.size : Int) a = some r) ∧ ah (kq ≤ k) ∧ cB w w')
  case atStart => exact ⟨_, EQ, H', ⟨Nat.le_refl _⟩, DR⟩
  case round =>
   clear H';(try clear c3);obtain ⟨a, rfl, HA, o, ⟨m1, rfl⟩⟩ := hrel
   cases gk with
   | zero => exact absurd HA.out (by simp [bU.l0])
   | succ k1 =>
    have H := HA.out;clear HA;simp only [bU.l0] at H;replace H := ifD H; rcases H with ⟨u, H⟩ | ⟨u, H⟩
    ·replace H := ifN H; obtain ⟨E, H⟩ := H;replace H := ifN H; obtain ⟨G, H⟩ := H;have J : (0 ≤ (a : Int)) = True := OT;have K : (a < (m.size : Int)) = True := OT;have hx7 := fU m a;replace H := ifE H; rcases H with ⟨x, y, H⟩ | ⟨c8, x, y, H⟩
     ·have H' := ah.mk H;clear H;go_wp2;go_roundg k1;case measure => have := o.out; omega
      case rel => exact ⟨_, EQ, H', ks o, DR⟩
     ·replace H := be H; obtain ⟨I, A, H⟩ := H;have L : (0 ≤ (a : Int)) = True := OT;have M : (a < (m.size : Int)) = True := OT;have hx9 := fU m a;replace H := ah.mk H;go_wp2_with (first | (go_at_call 107; (with_reducible refine (eG.calls (bt m a) _ _ A.out).mono ?_); rintro e w' ⟨rfl, ⟨nd, rfl⟩⟩; refine bR ?_));refine Hide.mk ?_;replace H := H.out;replace H := ifB H; rcases H with ⟨rfl, H⟩ | ⟨rfl, H⟩
      ·have H' := ah.mk H;clear H;(try go_wp2);go_roundg k1;case measure => have := o.out; omega
       case rel => exact ⟨_, EQ, H', ks o, DR⟩
      ·obtain rfl := Option.some.inj H;(try go_wp2);go_ret;exact ⟨EQ, DR⟩
    ·obtain rfl := Option.some.inj H;go_wp2;go_ret;exact ⟨EQ, DR⟩
 ·obtain rfl := Option.some.inj H;(try go_wp2);go_ret;exact ⟨EQ, DR⟩
mutual
def aV.j0 : Nat → ByteArray → ByteArray → Bool → Option (Bool)
 | 0, _, _, _ => none
 | k + 1, a, b, c => if c = true then (some false) else (aV.l0 k a b (a.size : Int) 0)
def aV.l0 : Nat → ByteArray → ByteArray → Int → Int → Option (Bool)
 | 0, _, _, _, _ => none
 | k + 1, a, b, c, d => if d < c then (if 0 ≤ d then (if d < (a.size : Int) then (if (bt a d) = 63 then (aV.l0 k a b c (wrap64 (d + 1))) else (if d < (b.size : Int) then (if (bt a d) = (bt b d) then (aV.l0 k a b c (wrap64 (d + 1))) else (some false)) else (none))) else (none)) else (none)) else (some true)
end
def aV.f (k : Nat) (a0 a1 : ByteArray) : Option (Bool) := (bU.f k a0).bind fun t632 => (if t632 = true then ((bK.f k a1).bind fun t633 => (if t633 = true then (aV.j0 k a0 a1 ((a0.size : Int) != (a1.size : Int))) else (aV.j0 k a0 a1 true))) else (aV.j0 k a0 a1 true))
theorem aV.calls (k : Nat) (m u : ByteArray) (r : Bool) (w : World) (h : aV.f k m u = some r) :
  Calls Tryz.prog 80 #[.string m, .string u] w fun e w' => e = .returned (.bool r) ∧ cB w w' := by
 unfold aV.f at h;have H := h;clear h;have A := ah.mk H;clear H;go_enter Tryz.func80, Tryz.ntmps80;go_upto_region 1 with (fail)
 repeat (go_quiet (fail); go_upto_region 1 with (fail))
 go_cut [20] (fun M wc => ∃ (kq : Nat) (o : Bool), M = .bool o ∧ ah (aV.j0 kq m u o = some r) ∧ ah (kq ≤ k) ∧ cB w wc)
 case first =>
  have H := A.out;clear A;replace H := be H; obtain ⟨Z, x, H⟩ := H;replace H := ifB H; rcases H with ⟨rfl, H⟩ | ⟨rfl, H⟩
  ·replace H := be H; obtain ⟨xa, J, H⟩ := H;replace H := ifB H; rcases H with ⟨rfl, H⟩ | ⟨rfl, H⟩
   ·have H' := ah.mk H;clear H
    repeat (go_wp2_with (first | (go_at_call 111; (with_reducible refine (bU.calls k m _ _ x.out).mono ?_); rintro e w' ⟨rfl, ⟨nd, rfl⟩⟩; (try first | exact da | exact DD)) | (go_at_call 112; (with_reducible refine (bK.calls k u _ _ J.out).mono ?_); rintro e w' ⟨rfl, ⟨nd, rfl⟩⟩; (try first | exact da | exact DD))); go_quiet (first | (go_at_call 111; (with_reducible refine (bU.calls k m _ _ x.out).mono ?_); rintro e w' ⟨rfl, ⟨nd, rfl⟩⟩; (try first | exact da | exact DD)) | (go_at_call 112; (with_reducible refine (bK.calls k u _ _ J.out).mono ?_); rintro e w' ⟨rfl, ⟨nd, rfl⟩⟩; (try first | exact da | exact DD))))
    go_wp2_with (first | (go_at_call 111; (with_reducible refine (bU.calls k m _ _ x.out).mono ?_); rintro e w' ⟨rfl, ⟨nd, rfl⟩⟩; (try first | exact da | exact DD)) | (go_at_call 112; (with_reducible refine (bK.calls k u _ _ J.out).mono ?_); rintro e w' ⟨rfl, ⟨nd, rfl⟩⟩; (try first | exact da | exact DD)));go_meet;case rel => exact ⟨_, _, EQ, H', ⟨by first | omega | exact Nat.le_refl _⟩, DR⟩
   ·have H' := ah.mk H;clear H
    repeat (go_wp2_with (first | (go_at_call 111; (with_reducible refine (bU.calls k m _ _ x.out).mono ?_); rintro e w' ⟨rfl, ⟨nd, rfl⟩⟩; (try first | exact da | exact DD)) | (go_at_call 112; (with_reducible refine (bK.calls k u _ _ J.out).mono ?_); rintro e w' ⟨rfl, ⟨nd, rfl⟩⟩; (try first | exact da | exact DD))); go_quiet (first | (go_at_call 111; (with_reducible refine (bU.calls k m _ _ x.out).mono ?_); rintro e w' ⟨rfl, ⟨nd, rfl⟩⟩; (try first | exact da | exact DD)) | (go_at_call 112; (with_reducible refine (bK.calls k u _ _ J.out).mono ?_); rintro e w' ⟨rfl, ⟨nd, rfl⟩⟩; (try first | exact da | exact DD))))
    go_wp2_with (first | (go_at_call 111; (with_reducible refine (bU.calls k m _ _ x.out).mono ?_); rintro e w' ⟨rfl, ⟨nd, rfl⟩⟩; (try first | exact da | exact DD)) | (go_at_call 112; (with_reducible refine (bK.calls k u _ _ J.out).mono ?_); rintro e w' ⟨rfl, ⟨nd, rfl⟩⟩; (try first | exact da | exact DD)));go_meet;case rel => exact ⟨_, _, EQ, H', ⟨by first | omega | exact Nat.le_refl _⟩, DR⟩
  ·have H' := ah.mk H;clear H
   repeat (go_wp2_with (first | (go_at_call 111; (with_reducible refine (bU.calls k m _ _ x.out).mono ?_); rintro e w' ⟨rfl, ⟨nd, rfl⟩⟩; (try first | exact da | exact DD))); go_quiet (first | (go_at_call 111; (with_reducible refine (bU.calls k m _ _ x.out).mono ?_); rintro e w' ⟨rfl, ⟨nd, rfl⟩⟩; (try first | exact da | exact DD))))
   go_wp2_with (first | (go_at_call 111; (with_reducible refine (bU.calls k m _ _ x.out).mono ?_); rintro e w' ⟨rfl, ⟨nd, rfl⟩⟩; (try first | exact da | exact DD)));go_meet;case rel => exact ⟨_, _, EQ, H', ⟨by first | omega | exact Nat.le_refl _⟩, DR⟩
 case rest =>
  clear A;obtain ⟨kq, o, rfl, HA, y, ⟨mc2, rfl⟩⟩ := hcut
  cases kq with
  | zero => exact absurd HA.out (by simp [aV.j0])
  | succ K =>
   have H := HA.out;clear HA;simp only [aV.j0] at H;replace H := ifB H; rcases H with ⟨rfl, H⟩ | ⟨rfl, H⟩
   ·obtain rfl := Option.some.inj H;go_wp2
    repeat (go_quiet (fail); try go_wp2)
    go_ret;exact ⟨EQ, DR⟩
   ·have H' := ah.mk H;clear H;go_wp2
    repeat (go_quiet (fail); try go_wp2)
    go_loopg [23] K (fun kq O w' => ∃ (a : Int), O = .int .i64 a ∧ ah (aV.l0 kq m u (m.size : Int) a = some r) ∧ ah (kq ≤ K) ∧ cB w w')
    case atStart => exact ⟨_, EQ, H', ⟨Nat.le_refl _⟩, DR⟩
    case round =>
     clear H';(try clear c8);obtain ⟨a, rfl, HA, z, ⟨m2, rfl⟩⟩ := hrel
     cases gk with
     | zero => exact absurd HA.out (by simp [aV.l0])
     | succ k2 =>
      have H := HA.out;clear HA;simp only [aV.l0] at H;replace H := ifD H; rcases H with ⟨L, H⟩ | ⟨L, H⟩
      ·replace H := ifN H; obtain ⟨P, H⟩ := H;replace H := ifN H; obtain ⟨U, H⟩ := H;have xb : (0 ≤ (a : Int)) = True := OT;have xc : (a < (m.size : Int)) = True := OT;have hx12 := fU m a;replace H := ifE H; rcases H with ⟨D, E, H⟩ | ⟨xd, D, E, H⟩
       ·have H' := ah.mk H;clear H;go_wp2
        repeat (go_quiet (fail); try go_wp2)
        go_roundg k2;case measure => have := y.out; have := z.out; omega
        case rel => exact ⟨_, EQ, H', ⟨by have := y.out; have := z.out; omega⟩, DR⟩
       ·replace H := ifN H; obtain ⟨Y, H⟩ := H;have xe : (0 ≤ (a : Int)) = True := OT;have xf : (a < (m.size : Int)) = True := OT;have hx14 := fU m a;have xg : (0 ≤ (a : Int)) = True := OT;have xh : (a < (u.size : Int)) = True := OT;have hx16 := fU u a;replace H := ifE H; rcases H with ⟨G, I, H⟩ | ⟨xi, G, I, H⟩
        ·have H' := ah.mk H;clear H;go_wp2
         repeat (go_quiet (fail); try go_wp2)
         go_roundg k2;case measure => have := y.out; have := z.out; omega
         case rel => exact ⟨_, EQ, H', ⟨by have := y.out; have := z.out; omega⟩, DR⟩
        ·obtain rfl := Option.some.inj H;go_wp2
         repeat (go_quiet (fail); try go_wp2)
         go_ret;exact ⟨EQ, DR⟩
      ·obtain rfl := Option.some.inj H;go_wp2
       repeat (go_quiet (fail); try go_wp2)
       go_ret;exact ⟨EQ, DR⟩
def dX.l0 : Nat → List (S62) → Int → Int → ByteArray → Int → Option (Int)
 | 0, _, _, _, _, _ => none
 | k + 1, a, b, c, d, e => if c < b then (if 0 ≤ c then (if c < (a.length : Int) then (if (d.toList == (((gy a c).f0).toList) && (e == ((gy a c).f1))) = true then (some c) else (dX.l0 k a b (wrap64 (c + 1)) d e)) else (none)) else (none)) else (some (-1))
def dX.f (k : Nat) (l0 : List (S62)) (a1_0 : ByteArray) (a1_1 : Int) : Option (Int) := dX.l0 k l0 (l0.length : Int) 0 a1_0 a1_1
theorem dX.calls (k : Nat) (A0 : Option Addr) (c0 : Nat) (l0 : List (S62)) (a1_0 : ByteArray) (a1_1 r : Int) (w : World) (hr0 : Kd.C k62 w A0 l0.length l0) (hc0 : l0.length ≤ c0) (h : dX.f k l0 a1_0 a1_1 = some r) :
  Calls Tryz.prog 147 #[.slice A0 l0.length c0, .agg #[.string a1_0, .int .i64 a1_1]] w fun e w' => e = .returned (.int .i64 r) ∧ Below w.heap.size w w' := by
 have hu62 := Tryz.underlying62
 have HR0 := ah.mk hr0
 have HC0 := ah.mk hc0
 clear hr0 hc0
 have HB := ah.mk (Below.refl w.heap.size w)
 unfold dX.f at h
 have H := h
 clear h
 have H' := ah.mk H
 clear H
 go_enter Tryz.func147, Tryz.ntmps147
 repeat (go_wp2_with (first | ((with_reducible refine aJ (N := 3) rfl ?_); refine aZ (N := 3) (cs := #[.string a1_0, .int .i64 a1_1]) (t := 62) ?_; intro gb634 hg w3 hbox hb; have BK634 := ah.mk hbox; have GW634 := SZ (w := w) hg; have GE634 := GW634; replace HB := BS (w := w) hb; clear hb hbox hg)); go_quiet (first | ((with_reducible refine aJ (N := 3) rfl ?_); refine aZ (N := 3) (cs := #[.string a1_0, .int .i64 a1_1]) (t := 62) ?_; intro gb634 hg w3 hbox hb; have BK634 := ah.mk hbox; have GW634 := SZ (w := w) hg; have GE634 := GW634; replace HB := BS (w := w) hb; clear hb hbox hg)))
 go_wp2_with (first | ((with_reducible refine aJ (N := 3) rfl ?_); refine aZ (N := 3) (cs := #[.string a1_0, .int .i64 a1_1]) (t := 62) ?_; intro gb634 hg w3 hbox hb; have BK634 := ah.mk hbox; have GW634 := SZ (w := w) hg; have GE634 := GW634; replace HB := BS (w := w) hb; clear hb hbox hg))
 go_loopg [8] k (fun kq v8 w' => ∃ (x8_1 : Int), v8 = .int .i64 x8_1 ∧ ah (dX.l0 kq l0 (l0.length : Int) x8_1 a1_0 a1_1 = some r) ∧ ah (kq ≤ k) ∧ ah (w'.heap[gb634]? = some (.cells #[.string a1_0, .int .i64 a1_1] 62 (0, 0))) ∧ ah (Below w.heap.size w w'))
 case atStart => exact ⟨(0), EQ, H', ⟨Nat.le_refl _⟩, ⟨BK⟩, ⟨BL⟩⟩
 case round =>
  clear H'
  obtain ⟨x8_1, rfl, HA, HK1, BK634, HB⟩ := hrel
  cases gk with
  | zero => exact absurd HA.out (by simp [dX.l0])
  | succ k1 =>
   have H := HA.out
   clear HA
   simp only [dX.l0] at H
   replace H := ifD H; rcases H with ⟨c4b0, H⟩ | ⟨c4b0, H⟩
   ·replace H := ifN H; obtain ⟨c5b0, H⟩ := H
    replace H := ifN H; obtain ⟨c6b0, H⟩ := H
    obtain ⟨hcz7000_0, hcz7000_1, hfz7000_0, hfz7000_1⟩ := cz2 BK634.out
    have p635 : 0 ≤ (x8_1 : Int) := OD
    have q635 : x8_1 < (l0.length : Int) := OD
    obtain ⟨ad635, e635, hx635_0, hx635_1⟩ := wZ HR0.out x8_1 p635 q635
    cases e635
    try replace hx635_0 := (HB.out.cell (World.block_lt_of_cell? w _ hx635_0)).trans hx635_0
    try replace hx635_1 := (HB.out.cell (World.block_lt_of_cell? w _ hx635_1)).trans hx635_1
    replace p635 := eq_true p635
    replace q635 := eq_true q635
    by_cases c7 : (a1_0.toList == (((gy l0 x8_1).f0).toList) && (a1_1 == ((gy l0 x8_1).f1))) = true
    ·rw [if_pos c7] at H
     have c7b0 : (a1_0.toList == (((gy l0 x8_1).f0).toList) && (a1_1 == ((gy l0 x8_1).f1))) = true := c7
     (try (have c7b1 : decide (a1_0.toList = (((gy l0 x8_1).f0).toList) && (a1_1 == ((gy l0 x8_1).f1))) = true := by simpa using c7))
     (try (have c7b2 : (a1_0.toList == (((gy l0 x8_1).f0).toList) && (a1_1 == ((gy l0 x8_1).f1))) = true := by simpa using c7))
     clear c7
     obtain rfl := Option.some.inj H
     go_wp2
     repeat (go_quiet (fail); try go_wp2)
     go_ret
     exact ⟨EWW, BL⟩
    ·rw [if_neg c7] at H
     have c7b0 : (a1_0.toList == (((gy l0 x8_1).f0).toList) && (a1_1 == ((gy l0 x8_1).f1))) = false := by simpa using c7
     (try (have c7b1 : decide (a1_0.toList = (((gy l0 x8_1).f0).toList) && (a1_1 == ((gy l0 x8_1).f1))) = false := by simpa using c7))
     (try (have c7b2 : (a1_0.toList == (((gy l0 x8_1).f0).toList) && (a1_1 == ((gy l0 x8_1).f1))) = false := by simpa using c7))
     (try (have c7b3 : ¬ (a1_0.toList = (((gy l0 x8_1).f0).toList) && (a1_1 == ((gy l0 x8_1).f1))) := by simpa using c7))
     clear c7
     have H' := ah.mk H
     clear H
     go_wp2
     repeat (go_quiet (fail); try go_wp2)
     go_roundg k1
     case measure => have := HK1.out; omega
     case rel => exact ⟨(wrap64 (x8_1 + 1)), EQ, H', ⟨by have := HK1.out; omega⟩, ⟨BK⟩, ⟨BL⟩⟩
   ·obtain rfl := Option.some.inj H
    go_wp2
    repeat (go_quiet (fail); try go_wp2)
    go_ret
    exact ⟨EWW, BL⟩
def iV.f (k : Nat) (l0 : List (S62)) (a1_0 : ByteArray) (a1_1 : Int) : Option (Bool) := (dX.f k l0 a1_0 a1_1).bind fun t637 => (some (decide (t637 ≥ 0)))
theorem iV.calls (k : Nat) (I : Option Addr) (J : Nat) (l0 : List (S62)) (a : ByteArray) (m : Int) (r : Bool) (w : World) (x : Kd.C k62 w I l0.length l0) (y : l0.length ≤ J) (h : iV.f k l0 a m = some r) :
  Calls Tryz.prog 113 #[.slice I l0.length J, .agg #[.string a, .int .i64 m]] w fun e w' => e = .returned (.bool r) ∧ Below w.heap.size w w' := by
 have P := Tryz.underlying62;have K := ah.mk x;have L := ah.mk y;clear x y;have HB := ah.mk (Below.refl w.heap.size w);unfold iV.f at h;have H := h;clear h;replace H := be H; obtain ⟨z, U, H⟩ := H;obtain rfl := Option.some.inj H;go_enter Tryz.func113, Tryz.ntmps113;go_wp2_with (first | ((with_reducible refine aJ (N := 3) rfl ?_); refine aZ (N := 3) (cs := #[.string a, .int .i64 m]) (t := 62) ?_; intro M hg Y hbox hb; have o := ah.mk hbox; have u := SZ (w := w) hg; have O := u; replace HB := BS (w := w) hb; clear hb hbox hg; obtain ⟨A, D, E, G⟩ := cz2 o.out) | ((with_reducible refine ay (f := 147) rfl ?_); refine bf (some 7) Tryz.func147 #[.slice I l0.length J, .agg #[.string a, .int .i64 m]] ?_; (with_reducible refine (dX.calls k _ _ l0 a m z _ ?side1 ?side2 U.out).mono ?_); (case side1 => exact CB K); (case side2 => exact L.out); rintro e Z ⟨rfl, hb⟩; refine ⟨_, rfl, ?_⟩; replace o := KB o hb; replace HB := BS (w := w) hb; (try clear hb)));go_ret;exact ⟨EWW, BL⟩
def gN.f (k : Nat) (l0 : List (S62)) (a1 : ByteArray) (a2 : Int) : Option (Bool) := (iV.f k l0 a1 a2).bind fun t638 => (some t638)
theorem gN.calls (k : Nat) (y : Option Addr) (z : Nat) (l0 : List (S62)) (u : ByteArray) (x : Int) (r : Bool) (w : World) (a : Kd.C k62 w y l0.length l0) (m : l0.length ≤ z) (h : gN.f k l0 u x = some r) :
  Calls Tryz.prog 81 #[.slice y l0.length z, .string u, .int .i64 x] w fun e w' => e = .returned (.bool r) ∧ Below w.heap.size w w' := by
 have E := Tryz.underlying62;have A := ah.mk a;have D := ah.mk m;clear a m;have HB := ah.mk (Below.refl w.heap.size w);unfold gN.f at h;have H := h;clear h;replace H := be H; obtain ⟨o, G, H⟩ := H;obtain rfl := Option.some.inj H;go_enter Tryz.func81, Tryz.ntmps81;go_wp2_with (first | ((with_reducible refine ay (f := 113) rfl ?_); refine bf (some 11) Tryz.func113 #[.slice y l0.length z, .agg #[.string u, .int .i64 x]] ?_; (with_reducible refine (iV.calls k _ _ l0 u x o _ ?side1 ?side2 G.out).mono ?_); (case side1 => repeat (first | exact A.out | (with_reducible refine Kd.gD ?_ _) | (with_reducible refine Kd.gF ?_ _) | (with_reducible refine Kd.iw ?_))); (case side2 => exact D.out); rintro e I ⟨rfl, hb⟩; refine ⟨_, rfl, ?_⟩; replace HB := BS (w := w) hb; (try clear hb)));go_ret;exact ⟨EWW, BL⟩
def iG.f (k : Nat) (a0 : ByteArray) : Option (ByteArray) := (bK.f k a0).bind fun t => (if t = true then (if a0.size ≤ 12 then (some (strOfNums (Go.Proofs.YthkfjbodohaglaaGreatDoor.HandSort.sorted a0))) else (none)) else (none))
theorem iG.calls (k : Nat) (a r : ByteArray) (w : World) (h : iG.f k a = some r) :
  Calls Tryz.prog 167 #[.string a] w fun e w' => e = .returned (.string r) ∧ Below w.heap.size w w' := by
 obtain ⟨t, h1, h2⟩ := Option.bind_eq_some_iff.mp h
 cases t with
 | false => simp at h2
 | true =>
  rw [if_pos rfl] at h2;by_cases h3 : a.size ≤ 12
  ·rw [if_pos h3] at h2;obtain rfl := Option.some.inj h2;exact Go.Proofs.YthkfjbodohaglaaGreatDoor.HandSort.Bc a w h3 ((bK.calls k a true w h1).mono fun e w' hq => ⟨hq.1, hq.2.out⟩)
  ·rw [if_neg h3] at h2
   cases h2
def iA.f (k : Nat) (a0 a1 : ByteArray) : Option (Bool) := (bK.f k a0).bind fun t639 => (if t639 = true then ((bK.f k a1).bind fun t640 => (if t640 = true then (if a0.toList = a1.toList then (some false) else ((iG.f k a0).bind fun t641 => ((iG.f k a1).bind fun t642 => (some (t641.toList == t642.toList))))) else (some false))) else (some false))
theorem iA.calls (k : Nat) (a y : ByteArray) (r : Bool) (w : World) (h : iA.f k a y = some r) :
  Calls Tryz.prog 149 #[.string a, .string y] w fun e w' => e = .returned (.bool r) ∧ Below w.heap.size w w' := by
 have HB := ah.mk (Below.refl w.heap.size w);unfold iA.f at h;have H := h;clear h;replace H := be H; obtain ⟨D, G, H⟩ := H;replace H := ah.mk H;go_enter Tryz.func149, Tryz.ntmps149;go_wp2_with (first | ((with_reducible refine ay (f := 112) rfl ?_); refine bf (some 6) Tryz.func112 #[.string a] ?_; (with_reducible refine (bK.calls k a _ _ G.out).mono ?_); rintro e w' ⟨rfl, ⟨nd, rfl⟩⟩; refine ⟨_, rfl, ?_⟩; refine bR ?_));refine Hide.mk ?_;replace H := H.out;replace H := ifB H; rcases H with ⟨rfl, H⟩ | ⟨rfl, H⟩
 ·replace H := be H; obtain ⟨E, I, H⟩ := H;replace H := ah.mk H;go_wp2_with (first | (go_at_call 112; (with_reducible refine (bK.calls k y _ _ I.out).mono ?_); rintro e w' ⟨rfl, ⟨nd, rfl⟩⟩; refine bR ?_));refine Hide.mk ?_;replace H := H.out;replace H := ifB H; rcases H with ⟨rfl, H⟩ | ⟨rfl, H⟩
  ·replace H := ifE H; rcases H with ⟨m, o, H⟩ | ⟨c7, m, o, H⟩
   ·obtain rfl := Option.some.inj H;(try go_wp2);go_ret;exact ⟨EWW, BL⟩
   ·replace H := be H; obtain ⟨u, J, H⟩ := H;replace H := be H; obtain ⟨x, K, H⟩ := H;obtain rfl := Option.some.inj H;(try go_wp2_with (first | (go_at_call 167; (with_reducible refine (iG.calls k a u _ J.out).mono ?_); rintro e z ⟨rfl, hb⟩; replace HB := BS (w := w) hb; (try clear hb)) | (go_at_call 167; (with_reducible refine (iG.calls k y x _ K.out).mono ?_); rintro e A ⟨rfl, hb⟩; replace HB := BS (w := w) hb; (try clear hb))));go_ret;exact ⟨EWW, BL⟩
  ·obtain rfl := Option.some.inj H;(try go_wp2);go_ret;exact ⟨EWW, BL⟩
 ·obtain rfl := Option.some.inj H;(try go_wp2);go_ret;exact ⟨EWW, BL⟩
def jY.f (k : Nat) (a0 : ByteArray) : Option (ByteArray) := (bK.f k a0).bind fun t643 => (if t643 = true then (if 0 ≤ 1 then (if 1 ≤ (a0.size : Int) then (some (a0.extract 0 1)) else (none)) else (none)) else (some (⟨#[]⟩ : ByteArray)))
theorem jY.calls (k : Nat) (a r : ByteArray) (w : World) (h : jY.f k a = some r) :
  Calls Tryz.prog 150 #[.string a] w fun e w' => e = .returned (.string r) ∧ cB w w' := by
 unfold jY.f at h;have H := h;clear h;replace H := be H; obtain ⟨m, A2, H⟩ := H;replace H := ah.mk H;go_enter Tryz.func150, Tryz.ntmps150;go_wp2_with (first | ((with_reducible refine ay (f := 112) rfl ?_); refine bf (some 4) Tryz.func112 #[.string a] ?_; (with_reducible refine (bK.calls k a _ _ A2.out).mono ?_); rintro e w' ⟨rfl, ⟨nd, rfl⟩⟩; refine ⟨_, rfl, ?_⟩; refine bR ?_));refine Hide.mk ?_;replace H := H.out;replace H := ifB H; rcases H with ⟨rfl, H⟩ | ⟨rfl, H⟩
 ·replace H := ifP H; obtain ⟨c4, H⟩ := H;have o := eq_true c4;have u : decide (0 ≤ 1) = true := decide_eq_true c4;clear c4;replace H := ifP H; obtain ⟨c5, H⟩ := H;have x := eq_true c5;have y : decide (1 ≤ (a.size : Int)) = true := decide_eq_true c5;clear c5;obtain rfl := Option.some.inj H;(try go_wp2);go_ret;exact ⟨EQ, DR⟩
 ·obtain rfl := Option.some.inj H;(try go_wp2);go_ret;exact ⟨EQ, DR⟩
def iH.f (k : Nat) (a0 : ByteArray) : Option (ByteArray) := (bK.f k a0).bind fun t644 => (if t644 = true then (if 1 ≤ (a0.size : Int) then (some (a0.extract 1 a0.size)) else (none)) else (some (⟨#[]⟩ : ByteArray)))
theorem iH.calls (k : Nat) (a r : ByteArray) (w : World) (h : iH.f k a = some r) :
  Calls Tryz.prog 151 #[.string a] w fun e w' => e = .returned (.string r) ∧ cB w w' := by
 unfold iH.f at h;have H := h;clear h;replace H := be H; obtain ⟨m, A2, H⟩ := H;replace H := ah.mk H;go_enter Tryz.func151, Tryz.ntmps151;go_wp2_with (first | ((with_reducible refine ay (f := 112) rfl ?_); refine bf (some 4) Tryz.func112 #[.string a] ?_; (with_reducible refine (bK.calls k a _ _ A2.out).mono ?_); rintro e w' ⟨rfl, ⟨nd, rfl⟩⟩; refine ⟨_, rfl, ?_⟩; refine bR ?_));refine Hide.mk ?_;replace H := H.out;replace H := ifB H; rcases H with ⟨rfl, H⟩ | ⟨rfl, H⟩
 ·replace H := ifP H; obtain ⟨c4, H⟩ := H;have o := eq_true c4;have u : decide (1 ≤ (a.size : Int)) = true := decide_eq_true c4;clear c4;obtain rfl := Option.some.inj H;(try go_wp2);go_ret;exact ⟨EQ, DR⟩
 ·obtain rfl := Option.some.inj H;(try go_wp2);go_ret;exact ⟨EQ, DR⟩
def iI.f (k : Nat) (a0 : ByteArray) : Option (ByteArray) := (bK.f k a0).bind fun t645 => (if t645 = true then (if 0 ≤ (wrap64 ((a0.size : Int) - 1)) then (if (wrap64 ((a0.size : Int) - 1)) ≤ (a0.size : Int) then (some (a0.extract 0 ((wrap64 ((a0.size : Int) - 1)) : Int).toNat)) else (none)) else (none)) else (some (⟨#[]⟩ : ByteArray)))
theorem iI.calls (k : Nat) (a r : ByteArray) (w : World) (h : iI.f k a = some r) :
  Calls Tryz.prog 152 #[.string a] w fun e w' => e = .returned (.string r) ∧ cB w w' := by
 unfold iI.f at h;have H := h;clear h;replace H := be H; obtain ⟨m, A2, H⟩ := H;replace H := ah.mk H;go_enter Tryz.func152, Tryz.ntmps152;go_wp2_with (first | ((with_reducible refine ay (f := 112) rfl ?_); refine bf (some 4) Tryz.func112 #[.string a] ?_; (with_reducible refine (bK.calls k a _ _ A2.out).mono ?_); rintro e w' ⟨rfl, ⟨nd, rfl⟩⟩; refine ⟨_, rfl, ?_⟩; refine bR ?_));refine Hide.mk ?_;replace H := H.out;replace H := ifB H; rcases H with ⟨rfl, H⟩ | ⟨rfl, H⟩
 ·obtain ⟨ji4, hji4⟩ : ∃ j_ : Int, (wrap64 ((a.size : Int) - 1)) = j_ := ⟨_, rfl⟩;replace H : (if 0 ≤ (ji4) then (if (ji4) ≤ (a.size : Int) then (some (a.extract 0 ((ji4) : Int).toNat)) else (none)) else (none)) = some r := by first | (rw [hji4] at H; exact H) | (simp only [hji4] at H ⊢; exact H)
  (try rw [hji4] at A2);have hji4w : (IntKind.i64.wrap ((a.size : Int) - 1)) = ji4 := (gZ _).trans hji4;replace H := ifP H; obtain ⟨c5, H⟩ := H;have o := eq_true c5;have u : decide (0 ≤ (ji4)) = true := decide_eq_true c5;clear c5;replace H := ifP H; obtain ⟨c6, H⟩ := H;have x := eq_true c6;have y : decide ((ji4) ≤ (a.size : Int)) = true := decide_eq_true c6;clear c6;obtain rfl := Option.some.inj H;(try go_wp2);go_ret;exact ⟨by first | rfl | (simp; done) | (simp only [← hji4] <;> (first | rfl | simp)) | (simp [*]; done), DR⟩
 ·obtain rfl := Option.some.inj H;(try go_wp2);go_ret;exact ⟨EQ, DR⟩
mutual
def dw.j0 : Nat → ByteArray → ByteArray → Bool → Option (Bool)
 | 0, _, _, _ => none
 | k + 1, a, b, c => if c = true then (some false) else (dw.l0 k a b 1)
def dw.l0 : Nat → ByteArray → ByteArray → Int → Option (Bool)
 | 0, _, _, _ => none
 | k + 1, a, b, c => if (wrap64 (c + (a.size : Int))) < (b.size : Int) then (if 0 ≤ c then (if c ≤ (wrap64 (c + (a.size : Int))) then (if (wrap64 (c + (a.size : Int))) ≤ (b.size : Int) then (if (b.extract (c : Int).toNat ((wrap64 (c + (a.size : Int))) : Int).toNat).toList = a.toList then (some true) else (dw.l0 k a b (wrap64 (c + 1)))) else (none)) else (none)) else (none)) else (some false)
end
def dw.f (k : Nat) (a0 a1 : ByteArray) : Option (Bool) := (bK.f k a0).bind fun t646 => (if t646 = true then ((bK.f k a1).bind fun t647 => (dw.j0 k a0 a1 (!t647))) else (dw.j0 k a0 a1 true))
theorem dw.calls (k : Nat) (o z : ByteArray) (r : Bool) (w : World) (h : dw.f k o z = some r) :
  Calls Tryz.prog 153 #[.string o, .string z] w fun e w' => e = .returned (.bool r) ∧ cB w w' := by
 unfold dw.f at h;have H := h;clear h;have u := ah.mk H;clear H;go_enter Tryz.func153, Tryz.ntmps153;go_upto_region 1 with (fail)
 go_cut [13] (fun K wc => ∃ (kq : Nat) (m : Bool), K = .bool m ∧ ah (dw.j0 kq o z m = some r) ∧ ah (kq ≤ k) ∧ cB w wc)
 case first =>
  have H := u.out;clear u;replace H := be H; obtain ⟨U, A4, H⟩ := H;replace H := ah.mk H;go_wp2_with (first | ((with_reducible refine ay (f := 112) rfl ?_); refine bf (some 7) Tryz.func112 #[.string o] ?_; (with_reducible refine (bK.calls k o _ _ A4.out).mono ?_); rintro e w' ⟨rfl, ⟨nd, rfl⟩⟩; refine ⟨_, rfl, ?_⟩; refine bR ?_));refine Hide.mk ?_;replace H := H.out;replace H := ifB H; rcases H with ⟨rfl, H⟩ | ⟨rfl, H⟩
  ·replace H := be H; obtain ⟨A, A6, H⟩ := H;have H' := ah.mk H;clear H;(try go_wp2_with (first | (go_at_call 112; (with_reducible refine (bK.calls k z A _ A6.out).mono ?_); rintro e w' ⟨rfl, ⟨nd, rfl⟩⟩)));go_meet;case rel => exact ⟨_, _, EQ, H', ⟨by first | omega | exact Nat.le_refl _⟩, DR⟩
  ·have H' := ah.mk H;clear H;(try go_wp2);go_meet;case rel => exact ⟨_, _, EQ, H', ⟨by first | omega | exact Nat.le_refl _⟩, DR⟩
 case rest =>
  clear u;obtain ⟨kq, m, rfl, HA, D, ⟨mc2, rfl⟩⟩ := hcut
  cases kq with
  | zero => exact absurd HA.out (by simp [dw.j0])
  | succ E =>
   have H := HA.out;clear HA;simp only [dw.j0] at H;replace H := ifB H; rcases H with ⟨rfl, H⟩ | ⟨rfl, H⟩
   ·obtain rfl := Option.some.inj H;go_wp2;go_ret;exact ⟨EQ, DR⟩
   ·have H' := ah.mk H;clear H;go_wp2
    go_loopg [5] E (fun kq v5 w' => ∃ (a : Int), v5 = .int .i64 a ∧ ah (dw.l0 kq o z a = some r) ∧ ah (kq ≤ E) ∧ cB w w')
    case atStart => exact ⟨_, EQ, H', ⟨Nat.le_refl _⟩, DR⟩
    case round =>
     clear H';(try clear c7);obtain ⟨a, rfl, HA, G, ⟨m2, rfl⟩⟩ := hrel
     cases gk with
     | zero => exact absurd HA.out (by simp [dw.l0])
     | succ k2 =>
      have H := HA.out;clear HA;simp only [dw.l0] at H;replace H := ifD H; rcases H with ⟨I, H⟩ | ⟨I, H⟩
      ·replace H := ifP H; obtain ⟨c9, H⟩ := H;have Y := eq_true c9;have Z : decide (0 ≤ a) = true := decide_eq_true c9;clear c9;replace H := ifP H; obtain ⟨c10, H⟩ := H;have L := eq_true c10;have M : decide (a ≤ (wrap64 (a + (o.size : Int)))) = true := decide_eq_true c10;replace H := ifP H; obtain ⟨J, H⟩ := H;have O := eq_true J;have P : decide ((wrap64 (a + (o.size : Int))) ≤ (z.size : Int)) = true := decide_eq_true J;replace H := ifE H; rcases H with ⟨x, y, H⟩ | ⟨xd, x, y, H⟩
       ·obtain rfl := Option.some.inj H;go_wp2;go_ret;exact ⟨EQ, DR⟩
       ·have H' := ah.mk H;clear H;go_wp2;go_roundg k2;case measure => have := D.out; have := G.out; omega
        case rel => exact ⟨_, EQ, H', ⟨by have := D.out; have := G.out; omega⟩, DR⟩
      ·obtain rfl := Option.some.inj H;go_wp2;go_ret;exact ⟨EQ, DR⟩
end Go.Proofs.YthkfjbodohaglaaGreatDoor.PFnExactRoundsNeeded
